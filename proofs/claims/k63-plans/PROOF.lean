import PyProof.Rows.All
import Wide.All
import OpenK.AllK
import Wide.FinOn
import HandS.ForMost
import HandS.TupAny
import HandS.Wide
import HandS.WideBits
import HandS.SortRule
import HandS.SortInts
import HandS.Conv
import HandS.More
import HandS.Defaults
import KE.GoesNew
import KE.GoesMore
import HandS.IsInst
import HandS.Style
import PyProof.FitsInt
import PyProof.StrLawsRepr
import PySem.Challenge.RW_duetickers_k63_plans_of_dues_by_own_choi
set_option Elab.async false
set_option linter.all false
set_option maxRecDepth 100000
set_option maxHeartbeats 4000000
/-! DL: a layer over HandS in which tuples and finished lists are data by value, and objects that change stand in a list of their own. -/
namespace DL
open PySem PySem.Spec PyProof.Rows L2

/-- data: lst and tup never change any more; ptr: an object that may change (or any other thing with an address) -/
inductive D where
  | non | bl (b : Bool) | int (i : Int) | str (s : Str) | ty (n : String)
  | tup (xs : List D) | lst (xs : List D) | scr (xs : List D) | ptr (a : Addr)
/-- what stands at an address and may change -/
inductive MO where
  | lst (xs : List D)
  | dK (kvs : List (Key × D))
  | dT (kvs : List (List Key × D))
  | ins (C : Addr) (fs : List (Str × D))
  | set (S : Int → Bool) (n : Nat)
abbrev Rho := List (Option D)
abbrev MM := List (Addr × MO)

mutual
inductive Rep (K : PySem.W.Frag) (F : Hp) : V → D → Prop
  | non : Rep K F .non .non
  | bl (b : Bool) : Rep K F (.bl b) (.bl b)
  | int (i : Int) : Rep K F (.int i) (.int i)
  | str (s : Str) : Rep K F (.str s) (.str s)
  | ty (n : String) : Rep K F (.ty n) (.ty n)
  | ptr (a : Addr) : Rep K F (.ref a) (.ptr a)
  | tup {a : Addr} {xs : List V} {ds : List D} : SqT K F a xs → Reps K F xs ds → Rep K F (.ref a) (.tup ds)
  | lst {a : Addr} {xs : List V} {ds : List D} : F a = some (.lst xs) → Reps K F xs ds → Rep K F (.ref a) (.lst ds)
  | scr {a : Addr} {xs : List V} {ds : List D} : SqL K F a xs → Reps K F xs ds → Rep K F (.ref a) (.scr ds)
inductive Reps (K : PySem.W.Frag) (F : Hp) : List V → List D → Prop
  | nil : Reps K F [] []
  | cons {v : V} {d : D} {vs : List V} {ds : List D} : Rep K F v d → Reps K F vs ds → Reps K F (v :: vs) (d :: ds)
end

theorem sqT_mono {K : PySem.W.Frag} {F F' : Hp} (s : Same F F') {a : Addr} {xs : List V} (h : SqT K F a xs) : SqT K F' a xs := by
  rcases h with (h | ⟨o, h⟩) | h
  · exact .inl (.inl (s _ _ h))
  · exact .inl (.inr ⟨o, s _ _ h⟩)
  · exact .inr h
mutual
theorem Rep.mono {K : PySem.W.Frag} {F F' : Hp} (s : Same F F') : ∀ {v : V} {d : D}, Rep K F v d → Rep K F' v d
  | _, _, .non => .non
  | _, _, .bl b => .bl b
  | _, _, .int i => .int i
  | _, _, .str x => .str x
  | _, _, .ty n => .ty n
  | _, _, .ptr a => .ptr a
  | _, _, .tup h r => .tup (sqT_mono s h) (Reps.mono s r)
  | _, _, .lst h r => .lst (s _ _ h) (Reps.mono s r)
  | _, _, .scr h r => .scr (s.seq h) (Reps.mono s r)
theorem Reps.mono {K : PySem.W.Frag} {F F' : Hp} (s : Same F F') : ∀ {vs : List V} {ds : List D}, Reps K F vs ds → Reps K F' vs ds
  | _, _, .nil => .nil
  | _, _, .cons h r => .cons (Rep.mono s h) (Reps.mono s r)
end
section
variable {K : PySem.W.Frag} {F : Hp}
theorem Reps.length : ∀ {vs : List V} {ds : List D}, Reps K F vs ds → vs.length = ds.length
  | _, _, .nil => rfl
  | _, _, .cons _ r => congrArg (· + 1) (Reps.length r)
theorem Reps.get : ∀ {vs : List V} {ds : List D} {i : Nat} {v : V}, Reps K F vs ds → vs[i]? = some v → ∃ d, ds[i]? = some d ∧ Rep K F v d
  | _, _, _, _, .nil, e => by simp at e
  | _, _, 0, _, .cons h _, e => by simp at e; subst e; exact ⟨_, rfl, h⟩
  | _, _, i + 1, v, .cons _ r, e => by
    obtain ⟨d, h1, h2⟩ := Reps.get (i := i) (v := v) r (by simpa using e)
    exact ⟨d, by simpa using h1, h2⟩
theorem Reps.get' : ∀ {vs : List V} {ds : List D} {i : Nat} {d : D}, Reps K F vs ds → ds[i]? = some d → ∃ v, vs[i]? = some v ∧ Rep K F v d
  | _, _, _, _, .nil, e => by simp at e
  | _, _, 0, _, .cons h _, e => by simp at e; subst e; exact ⟨_, rfl, h⟩
  | _, _, i + 1, d, .cons _ r, e => by
    obtain ⟨v, h1, h2⟩ := Reps.get' (i := i) (d := d) r (by simpa using e)
    exact ⟨v, by simpa using h1, h2⟩
theorem Reps.append : ∀ {vs ws : List V} {ds es : List D}, Reps K F vs ds → Reps K F ws es → Reps K F (vs ++ ws) (ds ++ es)
  | _, _, _, _, .nil, s => s
  | _, _, _, _, .cons h r, s => .cons h (Reps.append r s)
theorem Reps.take : ∀ {vs : List V} {ds : List D} (n : Nat), Reps K F vs ds → Reps K F (vs.take n) (ds.take n)
  | _, _, 0, _ => .nil
  | _, _, _ + 1, .nil => .nil
  | _, _, n + 1, .cons h r => .cons h (Reps.take n r)
theorem Reps.drop : ∀ {vs : List V} {ds : List D} (n : Nat), Reps K F vs ds → Reps K F (vs.drop n) (ds.drop n)
  | _, _, 0, r => r
  | _, _, _ + 1, .nil => .nil
  | _, _, n + 1, .cons _ r => Reps.drop n r
theorem Reps.set {v : V} {d : D} (h : Rep K F v d) : ∀ {vs : List V} {ds : List D} (i : Nat), Reps K F vs ds → Reps K F (vs.set i v) (ds.set i d)
  | _, _, _, .nil => .nil
  | _, _, 0, .cons _ r => .cons h r
  | _, _, i + 1, .cons q r => .cons q (Reps.set h i r)
theorem Reps.reverse {vs : List V} {ds : List D} (r : Reps K F vs ds) : Reps K F vs.reverse ds.reverse := by
  induction ds generalizing vs with
  | nil => cases r; exact .nil
  | cons d ds ih =>
    cases r with
    | cons h t =>
      rw [List.reverse_cons, List.reverse_cons]
      exact (ih t).append (.cons h .nil)
theorem Reps.dropLast {vs : List V} {ds : List D} (r : Reps K F vs ds) : Reps K F vs.dropLast ds.dropLast := by
  rw [List.dropLast_eq_take, List.dropLast_eq_take, r.length]
  exact r.take _
theorem Reps.eraseIdx : ∀ {vs : List V} {ds : List D} (i : Nat), Reps K F vs ds → Reps K F (vs.eraseIdx i) (ds.eraseIdx i)
  | _, _, _, .nil => .nil
  | _, _, 0, .cons _ r => r
  | _, _, i + 1, .cons q r => .cons q (Reps.eraseIdx i r)
theorem Reps.ints : ∀ {vs : List V} {ns : List Int}, Reps K F vs (ns.map D.int) → vs = ns.map V.int
  | _, [], .nil => rfl
  | _, n :: ns, .cons h r => by cases h; rw [Reps.ints r]; rfl
theorem Reps.ofInts : ∀ (ns : List Int), Reps K F (ns.map V.int) (ns.map D.int)
  | [] => .nil
  | n :: ns => .cons (.int n) (Reps.ofInts ns)
theorem Reps.bls : ∀ {vs : List V} {ns : List Bool}, Reps K F vs (ns.map D.bl) → vs = ns.map V.bl
  | _, [], .nil => rfl
  | _, n :: ns, .cons h r => by cases h; rw [Reps.bls r]; rfl
theorem Reps.strs : ∀ {vs : List V} {ns : List Str}, Reps K F vs (ns.map D.str) → vs = ns.map V.str
  | _, [], .nil => rfl
  | _, n :: ns, .cons h r => by cases h; rw [Reps.strs r]; rfl
theorem Reps.ofStrs : ∀ (ns : List Str), Reps K F (ns.map V.str) (ns.map D.str)
  | [] => .nil
  | n :: ns => .cons (.str n) (Reps.ofStrs ns)
end

/-- a dict's pairs -/
def PairK {κ : Type} (K : PySem.W.Frag) (F : Hp) : List (κ × D) → List (κ × V) → Prop := Paired fun (p : κ × D) (q : κ × V) => p.1 = q.1 ∧ Rep K F q.2 p.2
theorem PairK.mono {κ : Type} {K : PySem.W.Frag} {F F' : Hp} (s : Same F F') {a : List (κ × D)} {b : List (κ × V)} (h : PairK K F a b) : PairK K F' a b :=
  Paired.mapP h fun _ _ z => ⟨z.1, z.2.mono s⟩
inductive RepO (K : PySem.W.Frag) (F : Hp) : MO → HO → Prop
  | lst {xs : List V} {ds : List D} : Reps K F xs ds → RepO K F (.lst ds) (.lst xs)
  | dK {a : List (Key × D)} {b : List (Key × V)} : PairK K F a b → RepO K F (.dK a) (.dK b)
  | dT {a : List (List Key × D)} {b : List (List Key × V)} : PairK K F a b → RepO K F (.dT a) (.dT b)
  | ins {C dx : Addr} {a : List (Str × D)} {b : List (Str × V)} : PairK K F a b → RepO K F (.ins C a) (.ins C dx b)
  | set {S : Int → Bool} {n : Nat} : RepO K F (.set S n) (.set S n)
theorem RepO.mono {K : PySem.W.Frag} {F F' : Hp} (s : Same F F') {m : MO} {o : HO} (h : RepO K F m o) : RepO K F' m o := by
  cases h with
  | lst r => exact .lst (r.mono s)
  | dK r => exact .dK (r.mono s)
  | dT r => exact .dT (r.mono s)
  | ins r => exact .ins (r.mono s)
  | set => exact .set

structure SWH (K : PySem.W.Frag) (H F : Hp) (M : MM) : Prop where
  sub : Same F H
  mem : ∀ x ∈ M, F x.1 = none ∧ ∃ ho, H x.1 = some ho ∧ RepO K F x.2 ho
  nd : (M.map (·.1)).Nodup
def EnvR (K : PySem.W.Frag) (F : Hp) (σ : L2.St) (ρ : Rho) : Prop := ρ.length = σ.length ∧ ∀ (i : Nat) (d : D), ρ[i]? = some (some d) → ∃ v, σ[i]? = some (some v) ∧ Rep K F v d
theorem EnvR.mono {K : PySem.W.Frag} {F F' : Hp} (s : Same F F') {σ : L2.St} {ρ : Rho} (h : EnvR K F σ ρ) : EnvR K F' σ ρ :=
  ⟨h.1, fun i d e => let ⟨v, a, b⟩ := h.2 i d e; ⟨v, a, b.mono s⟩⟩
theorem EnvR.set {K : PySem.W.Frag} {F : Hp} {σ : L2.St} {ρ : Rho} (h : EnvR K F σ ρ) (i : Nat) {v : V} {d : D} (r : Rep K F v d) : EnvR K F (σ.set i (some v)) (ρ.set i (some d)) := by
  refine ⟨by rw [List.length_set, List.length_set]; exact h.1, fun j e hj => ?_⟩
  rw [List.getElem?_set] at hj ⊢
  by_cases hij : i = j
  · subst hij
    rw [if_pos rfl] at hj ⊢
    rw [← h.1]
    by_cases hl : i < ρ.length
    · rw [if_pos hl] at hj ⊢
      cases hj
      exact ⟨v, rfl, r⟩
    · rw [if_neg hl] at hj; cases hj
  · rw [if_neg hij] at hj ⊢
    exact h.2 j e hj
theorem EnvR.wipe {K : PySem.W.Frag} {F : Hp} {σ : L2.St} {ρ : Rho} (h : EnvR K F σ ρ) (i : Nat) (v : Option V) : EnvR K F (σ.set i v) (ρ.set i none) := by
  refine ⟨by rw [List.length_set, List.length_set]; exact h.1, fun j e hj => ?_⟩
  rw [List.getElem?_set] at hj ⊢
  by_cases hij : i = j
  · subst hij
    rw [if_pos rfl] at hj
    split at hj <;> cases hj
  · rw [if_neg hij] at hj ⊢
    exact h.2 j e hj
def wipeR (ρ : Rho) : List Nat → Rho
  | [] => ρ
  | v :: vs => (wipeR ρ vs).set v none
theorem EnvR.wipes {K : PySem.W.Frag} {F : Hp} {σ : L2.St} {ρ : Rho} (h : EnvR K F σ ρ) : ∀ vs : List Nat, EnvR K F (L2.wipe σ vs) (wipeR ρ vs)
  | [] => h
  | v :: vs => (EnvR.wipes h vs).wipe v none
/-- less is known -/
def Wk (ρ ρ' : Rho) : Prop := ρ.length = ρ'.length ∧ ∀ (i : Nat) (d : D), ρ'[i]? = some (some d) → ρ[i]? = some (some d)
theorem EnvR.weaken {K : PySem.W.Frag} {F : Hp} {σ : L2.St} {ρ ρ' : Rho} (h : EnvR K F σ ρ) (w : Wk ρ ρ') : EnvR K F σ ρ' :=
  ⟨w.1 ▸ h.1, fun i d e => h.2 i d (w.2 i d e)⟩
theorem Wk.refl (ρ : Rho) : Wk ρ ρ := ⟨rfl, fun _ _ e => e⟩
theorem Wk.nil : Wk [] [] := Wk.refl _
theorem Wk.keep {x : Option D} {a b : Rho} (h : Wk a b) : Wk (x :: a) (x :: b) := by
  refine ⟨congrArg (· + 1) h.1, fun i d e => ?_⟩
  cases i with
  | zero => exact e
  | succ i => exact h.2 i d (by simpa using e)
theorem Wk.drop {x : Option D} {a b : Rho} (h : Wk a b) : Wk (x :: a) (none :: b) := by
  refine ⟨congrArg (· + 1) h.1, fun i d e => ?_⟩
  cases i with
  | zero => simp at e
  | succ i => exact h.2 i d (by simpa using e)
/-- objects are forgotten, their order is no matter -/
def WkM (M M' : MM) : Prop := ∃ G, M.Perm (M' ++ G)
theorem SWH.weaken {K : PySem.W.Frag} {H F : Hp} {M M' : MM} (h : SWH K H F M) (w : WkM M M') : SWH K H F M' := by
  obtain ⟨G, p⟩ := w
  refine ⟨h.sub, fun x hx => h.mem x (p.mem_iff.mpr (List.mem_append_left _ hx)), ?_⟩
  have n := (p.map (·.1)).nodup_iff.mp h.nd
  rw [List.map_append] at n
  exact (List.nodup_append.mp n).1
theorem WkM.refl (M : MM) : WkM M M := ⟨[], by rw [List.append_nil]⟩
theorem WkM.of_perm {M M' : MM} (h : M.Perm M') : WkM M M' := ⟨[], by rw [List.append_nil]; exact h⟩
theorem WkM.trans {A B C : MM} (h : WkM A B) (k : WkM B C) : WkM A C := by
  obtain ⟨G, p⟩ := h
  obtain ⟨G', q⟩ := k
  exact ⟨G' ++ G, p.trans (by rw [← List.append_assoc]; exact q.append_right G)⟩
theorem WkM.skip {x : Addr × MO} {A B : MM} (h : WkM A B) : WkM (x :: A) B := by
  obtain ⟨G, p⟩ := h
  exact ⟨x :: G, (p.cons x).trans List.perm_middle.symm⟩
theorem WkM.keep {x : Addr × MO} {A B : MM} (h : WkM A B) : WkM (x :: A) (x :: B) := by
  obtain ⟨G, p⟩ := h
  exact ⟨G, p.cons x⟩

/-- a step from (F, H, M): data stay, what is tracked elsewhere stays -/
structure Stp (K : PySem.W.Frag) (F H : Hp) (M : MM) (F' H' : Hp) (M' : MM) : Prop where
  same : Same F F'
  swh : SWH K H' F' M'
  fr : ∀ b o, H b = some o → (∀ x ∈ M, x.1 ≠ b) → H' b = some o ∧ (∀ x ∈ M', x.1 ≠ b) ∧ (F b = none → F' b = none)
theorem Stp.refl {K : PySem.W.Frag} {F H : Hp} {M : MM} (w : SWH K H F M) : Stp K F H M F H M := ⟨Same.refl F, w, fun _ _ e k => ⟨e, k, id⟩⟩
theorem tr2 {K : PySem.W.Frag} {F H F1 H1 F2 H2 : Hp} {M M1 M2 : MM} (a : Stp K F H M F1 H1 M1) (b : Stp K F1 H1 M1 F2 H2 M2) : Stp K F H M F2 H2 M2 :=
  ⟨L2.Same.trans a.same b.same, b.swh, fun c o e k => let ⟨e1, k1, n1⟩ := a.fr c o e k; let ⟨e2, k2, n2⟩ := b.fr c o e1 k1; ⟨e2, k2, fun z => n2 (n1 z)⟩⟩
theorem Stp.weaken {K : PySem.W.Frag} {F H F1 H1 : Hp} {M M1 M2 : MM} (a : Stp K F H M F1 H1 M1) (w : WkM M1 M2) : Stp K F H M F1 H1 M2 :=
  ⟨a.same, a.swh.weaken w, fun c o e k => let ⟨e1, k1, n1⟩ := a.fr c o e k; ⟨e1, fun x hx => k1 x (by obtain ⟨G, p⟩ := w; exact p.mem_iff.mpr (List.mem_append_left _ hx)), n1⟩⟩

section heaps
variable {K : PySem.W.Frag} {H F : Hp} {M : MM}
theorem same_upd {H : Hp} {p : Addr} {o : HO} (h : H p = none) : Same H (upd H p o) := fun b x e => by
  rw [upd_ne (ne_of_none e h)]
  exact e
theorem SWH.none (h : SWH K H F M) {p : Addr} (n : H p = none) : F p = none := h.sub.free n
theorem upd_in {H : Hp} {p : Addr} {o : HO} {b : Addr} {x : HO} (e : upd H p o b = some x) : (b = p ∧ x = o) ∨ (b ≠ p ∧ H b = some x) := by
  by_cases hb : b = p
  · subst hb; rw [upd_same] at e; exact .inl ⟨rfl, (Option.some.inj e).symm⟩
  · rw [upd_ne hb] at e; exact .inr ⟨hb, e⟩
/-- a new thing that will not change -/
theorem SWH.newF (h : SWH K H F M) {p : Addr} (n : H p = Option.none) (o : HO) : Stp K F H M (upd F p o) (upd H p o) M := by
  have nF := h.none n
  have s := same_upd (o := o) nF
  refine ⟨s, ⟨fun b x e => ?_, fun x hx => ?_, h.nd⟩, fun b x e k => ⟨by rw [upd_ne (ne_of_none e n)]; exact e, k, fun z => by rw [upd_ne (ne_of_none e n)]; exact z⟩⟩
  · rcases upd_in e with ⟨e1, e2⟩ | ⟨e1, e2⟩
    · subst e1 e2; exact upd_same
    · rw [upd_ne e1]; exact h.sub _ _ e2
  · obtain ⟨a, ho, b, r⟩ := h.mem x hx
    have ne : x.1 ≠ p := ne_of_none b n
    exact ⟨by rw [upd_ne ne]; exact a, ho, by rw [upd_ne ne]; exact b, r.mono s⟩
/-- a new thing that may change -/
theorem SWH.newM (h : SWH K H F M) {p : Addr} (n : H p = Option.none) {o : HO} {m : MO} (r : RepO K F m o) : Stp K F H M F (upd H p o) ((p, m) :: M) := by
  refine ⟨Same.refl F, ⟨fun b x e => ?_, fun x hx => ?_, ?_⟩, fun b x e k => ⟨by rw [upd_ne (ne_of_none e n)]; exact e, fun y hy => ?_, id⟩⟩
  · rw [upd_ne (ne_of_none (h.sub _ _ e) n)]; exact h.sub _ _ e
  · rcases List.mem_cons.mp hx with e | hx
    · subst e; exact ⟨h.none n, o, upd_same, r⟩
    · obtain ⟨a, ho, b, q⟩ := h.mem x hx
      exact ⟨a, ho, by rw [upd_ne (ne_of_none b n)]; exact b, q⟩
  · rw [List.map_cons]
    refine List.nodup_cons.mpr ⟨fun hm => ?_, h.nd⟩
    obtain ⟨x, hx, e⟩ := List.mem_map.mp hm
    obtain ⟨_, ho, b, _⟩ := h.mem x hx
    rw [e, n] at b; cases b
  · rcases List.mem_cons.mp hy with z | z
    · subst z; exact (ne_of_none e n).symm
    · exact k y z
/-- nothing of it is known, it stands no-one in the way -/
theorem SWH.newN (h : SWH K H F M) {p : Addr} (n : H p = Option.none) {o : HO} : Stp K F H M F (upd H p o) M := by
  refine ⟨Same.refl F, ⟨fun b x e => ?_, fun x hx => ?_, h.nd⟩, fun b x e k => ⟨by rw [upd_ne (ne_of_none e n)]; exact e, k, id⟩⟩
  · rw [upd_ne (ne_of_none (h.sub _ _ e) n)]; exact h.sub _ _ e
  · obtain ⟨a, ho, b, q⟩ := h.mem x hx
    exact ⟨a, ho, by rw [upd_ne (ne_of_none b n)]; exact b, q⟩
theorem SWH.at (h : SWH K H F M) {p : Addr} {m : MO} (hm : (p, m) ∈ M) : ∃ ho, H p = some ho ∧ RepO K F m ho := (h.mem _ hm).2
/-- what may change is changed -/
theorem SWH.put {A B : MM} {p : Addr} {m m' : MO} {o : HO} (h : SWH K H F (A ++ (p, m) :: B)) (r : RepO K F m' o) : Stp K F H (A ++ (p, m) :: B) F (upd H p o) (A ++ (p, m') :: B) := by
  have nd : ((A ++ (p, m') :: B).map (·.1)).Nodup := by
    have z := h.nd
    rw [List.map_append, List.map_cons] at z ⊢
    exact z
  have nF : F p = Option.none := (h.mem (p, m) (by simp)).1
  have key : ∀ x ∈ A ++ B, x.1 ≠ p := fun x hx e => by
    have z := h.nd
    have pr : (A ++ (p, m) :: B).Perm ((p, m) :: (A ++ B)) := List.perm_middle
    have z := (pr.map (·.1)).nodup_iff.mp z
    rw [List.map_cons] at z
    exact (List.nodup_cons.mp z).1 (List.mem_map.mpr ⟨x, hx, e⟩)
  refine ⟨Same.refl F, ⟨fun b x e => ?_, fun x hx => ?_, nd⟩, fun b x e k => ⟨by rw [upd_ne (fun z => k (p, m) (by simp) z.symm)]; exact e, fun y hy => ?_, id⟩⟩
  · have ne : b ≠ p := fun z => by subst z; rw [nF] at e; cases e
    rw [upd_ne ne]; exact h.sub _ _ e
  · have : x = (p, m') ∨ x ∈ A ++ B := by
      rcases List.mem_append.mp hx with z | z
      · exact .inr (List.mem_append_left _ z)
      · rcases List.mem_cons.mp z with z | z
        · exact .inl z
        · exact .inr (List.mem_append_right _ z)
    rcases this with e | hx'
    · subst e; exact ⟨nF, o, upd_same, r⟩
    · have hx2 : x ∈ A ++ (p, m) :: B := by
        rcases List.mem_append.mp hx' with z | z
        · exact List.mem_append_left _ z
        · exact List.mem_append_right _ (List.mem_cons_of_mem _ z)
      obtain ⟨a, ho, b, q⟩ := h.mem x hx2
      exact ⟨a, ho, by rw [upd_ne (key x hx')]; exact b, q⟩
  · rcases List.mem_append.mp hy with z | z
    · exact k y (List.mem_append_left _ z)
    · rcases List.mem_cons.mp z with z | z
      · subst z; exact k (p, m) (by simp)
      · exact k y (List.mem_append_right _ (List.mem_cons_of_mem _ z))
/-- a list that may change is taken for one that does not any more -/
theorem SWH.freeze {A B : MM} {p : Addr} {ds : List D} (h : SWH K H F (A ++ (p, .lst ds) :: B)) : ∃ F', Stp K F H (A ++ (p, .lst ds) :: B) F' H (A ++ B) ∧ Rep K F' (.ref p) (.lst ds) := by
  obtain ⟨nF, ho, hp, r⟩ := h.mem (p, .lst ds) (by simp)
  cases r with
  | lst r =>
    rename_i xs
    have s : Same F (upd F p (.lst xs)) := same_upd nF
    refine ⟨upd F p (.lst xs), ⟨s, ⟨fun b x e => ?_, fun x hx => ?_, ?_⟩, fun b x e k => ⟨e, fun y hy => k y ?_, fun z => by rw [upd_ne (fun q => k (p, .lst ds) (by simp) q.symm)]; exact z⟩⟩, .lst upd_same (r.mono s)⟩
    · rcases upd_in e with ⟨e1, e2⟩ | ⟨e1, e2⟩
      · subst e1 e2; exact hp
      · exact h.sub _ _ e2
    · have pr : (A ++ (p, .lst ds) :: B).Perm ((p, .lst ds) :: (A ++ B)) := List.perm_middle
      have z := (pr.map (·.1)).nodup_iff.mp h.nd
      rw [List.map_cons] at z
      have ne : x.1 ≠ p := fun e => (List.nodup_cons.mp z).1 (List.mem_map.mpr ⟨x, hx, e⟩)
      obtain ⟨a, ho, b, q⟩ := h.mem x (pr.mem_iff.mpr (List.mem_cons_of_mem _ hx))
      exact ⟨by rw [upd_ne ne]; exact a, ho, b, q.mono s⟩
    · have pr : (A ++ (p, .lst ds) :: B).Perm ((p, .lst ds) :: (A ++ B)) := List.perm_middle
      have z := (pr.map (·.1)).nodup_iff.mp h.nd
      rw [List.map_cons] at z
      exact (List.nodup_cons.mp z).2
    · rcases List.mem_append.mp hy with z | z
      · exact List.mem_append_left _ z
      · exact List.mem_append_right _ (List.mem_cons_of_mem _ z)
/-- a tracked thing aside (a list that is being made) is written -/
theorem SWH.aside (h : SWH K H F M) {p : Addr} (nF : F p = Option.none) (k : ∀ x ∈ M, x.1 ≠ p) (o : HO) : SWH K (upd H p o) F M := by
  refine ⟨fun b x e => ?_, fun x hx => ?_, h.nd⟩
  · have ne : b ≠ p := fun z => by subst z; rw [nF] at e; cases e
    rw [upd_ne ne]; exact h.sub _ _ e
  · obtain ⟨a, ho, b, q⟩ := h.mem x hx
    exact ⟨a, ho, by rw [upd_ne (k x hx)]; exact b, q⟩
theorem Stp.aside {F2 H2 : Hp} {M2 : MM} (h : Stp K F H M F2 H2 M2) {p : Addr} (n : H p = Option.none) (nF : F2 p = Option.none) (k : ∀ x ∈ M2, x.1 ≠ p) (o : HO) : Stp K F H M F2 (upd H2 p o) M2 :=
  ⟨h.same, h.swh.aside nF k o, fun b x e kb => let ⟨e1, k1, n1⟩ := h.fr b x e kb; ⟨by rw [upd_ne (ne_of_none e n)]; exact e1, k1, n1⟩⟩
end heaps

/-! ### readings -/
abbrev QE := D → MM → Prop
abbrev DTE := Rho → MM → QE → Prop
abbrev DTT := Rho → MM → (Bool → MM → Prop) → Prop
abbrev DTA := Rho → MM → (List D → MM → Prop) → Prop
structure DEnds where
  nx : Rho → MM → Prop
  rt : QE
  bk : Rho → MM → Prop := fun _ _ => False
  ct : Rho → MM → Prop := fun _ _ => False
abbrev DTS := DEnds → Rho → MM → Prop
abbrev DTG := D → Rho → MM → (Rho → MM → Prop) → Prop
abbrev DTGs := List D → Rho → MM → (Rho → MM → Prop) → Prop

def liftE (K : PySem.W.Frag) (T : DTE) : TE := fun σ H Q => ∃ F ρ M Q', EnvR K F σ ρ ∧ SWH K H F M ∧ T ρ M Q' ∧
  ∀ d M' v H' F', Stp K F H M F' H' M' → Rep K F' v d → Q' d M' → Q v H'
def liftT (K : PySem.W.Frag) (T : DTT) : TT := fun σ H Q => ∃ F ρ M Q', EnvR K F σ ρ ∧ SWH K H F M ∧ T ρ M Q' ∧
  ∀ b M' H' F', Stp K F H M F' H' M' → Q' b M' → Q b H'
def liftA (K : PySem.W.Frag) (T : DTA) : TA := fun σ H Q => ∃ F ρ M Q', EnvR K F σ ρ ∧ SWH K H F M ∧ T ρ M Q' ∧
  ∀ ds M' vs H' F', Stp K F H M F' H' M' → Reps K F' vs ds → Q' ds M' → Q vs H'
structure EndsR (K : PySem.W.Frag) (F H : Hp) (M : MM) (D' : DEnds) (E : Ends) : Prop where
  nx : ∀ ρ M' σ H' F', Stp K F H M F' H' M' → EnvR K F' σ ρ → D'.nx ρ M' → E.nx σ H'
  rt : ∀ d M' v H' F', Stp K F H M F' H' M' → Rep K F' v d → D'.rt d M' → E.rt v H'
  bk : ∀ ρ M' σ H' F', Stp K F H M F' H' M' → EnvR K F' σ ρ → D'.bk ρ M' → E.bk σ H'
  ct : ∀ ρ M' σ H' F', Stp K F H M F' H' M' → EnvR K F' σ ρ → D'.ct ρ M' → E.ct σ H'
def liftS (K : PySem.W.Frag) (T : DTS) : TS := fun E σ H => ∃ F ρ M D', EnvR K F σ ρ ∧ SWH K H F M ∧ T D' ρ M ∧ EndsR K F H M D' E
/-- equal but at these slots -/
def Off (sl : List Nat) (σ σ' : L2.St) : Prop := σ'.length = σ.length ∧ ∀ j, j ∉ sl → σ'[j]? = σ[j]?
theorem Off.refl (sl : List Nat) (σ : L2.St) : Off sl σ σ := ⟨rfl, fun _ _ => rfl⟩
theorem Off.trans {sl : List Nat} {a b c : L2.St} (h : Off sl a b) (k : Off sl b c) : Off sl a c := ⟨k.1.trans h.1, fun j hj => (k.2 j hj).trans (h.2 j hj)⟩
theorem Off.mono {sl sl' : List Nat} {a b : L2.St} (h : Off sl a b) (s : ∀ x ∈ sl, x ∈ sl') : Off sl' a b := ⟨h.1, fun j hj => h.2 j fun z => hj (s j z)⟩
def liftG (K : PySem.W.Frag) (sl : List Nat) (T : DTG) : TG := fun v σ H Q => ∃ F ρ M d Q', EnvR K F σ ρ ∧ SWH K H F M ∧ Rep K F v d ∧ T d ρ M Q' ∧
  ∀ ρ' M' σ' H' F', Stp K F H M F' H' M' → EnvR K F' σ' ρ' → Off sl σ σ' → Q' ρ' M' → Q σ' H'
def liftGs (K : PySem.W.Frag) (sl : List Nat) (T : DTGs) : TGs := fun vs σ H Q => ∃ F ρ M ds Q', EnvR K F σ ρ ∧ SWH K H F M ∧ Reps K F vs ds ∧ T ds ρ M Q' ∧
  ∀ ρ' M' σ' H' F', Stp K F H M F' H' M' → EnvR K F' σ' ρ' → Off sl σ σ' → Q' ρ' M' → Q σ' H'

def DE (X : Cx) (e : Expr) (T : DTE) : Prop := PE X e (liftE X.K T)
def DT (X : Cx) (e : Expr) (T : DTT) : Prop := PT X e (liftT X.K T)
def DW (X : Cx) (e : Expr) (T : DTT) : Prop := PW X e (liftT X.K T)
def DA (X : Cx) (es : List Expr) (T : DTA) : Prop := PA X es (liftA X.K T)
def DS (X : Cx) (st : Stmt) (T : DTS) : Prop := PS X st (liftS X.K T)
def DSs (X : Cx) (st : List Stmt) (T : DTS) : Prop := PSs X st (liftS X.K T)
def DG (X : Cx) (tg : Expr) (sl : List Nat) (T : DTG) : Prop := PG X tg (liftG X.K sl T)
def DGs (X : Cx) (ts : List Expr) (sl : List Nat) (T : DTGs) : Prop := PGs X ts (liftGs X.K sl T)

theorem pe_imp {X : Cx} {e : Expr} {t u : TE} (h : PE X e t) (k : ∀ σ H Q, u σ H Q → t σ H Q) : PE X e u := ⟨fun pins s σ H Q I q => h.run pins s σ H Q I (k σ H Q q)⟩
theorem pt_imp {X : Cx} {e : Expr} {t u : TT} (h : PT X e t) (k : ∀ σ H Q, u σ H Q → t σ H Q) : PT X e u := ⟨fun pins s σ H Q I q => h.run pins s σ H Q I (k σ H Q q)⟩
theorem pw_imp {X : Cx} {e : Expr} {t u : TT} (h : PW X e t) (k : ∀ σ H Q, u σ H Q → t σ H Q) : PW X e u := ⟨fun wh pins s σ H Q I q => h.run wh pins s σ H Q I (k σ H Q q)⟩
theorem pa_imp {X : Cx} {e : List Expr} {t u : TA} (h : PA X e t) (k : ∀ σ H Q, u σ H Q → t σ H Q) : PA X e u := ⟨fun pos pins s σ H Q I q => h.run pos pins s σ H Q I (k σ H Q q)⟩
theorem ps_imp {X : Cx} {e : Stmt} {t u : TS} (h : PS X e t) (k : ∀ D σ H, u D σ H → t D σ H) : PS X e u := ⟨fun pins s σ H D I q => h.run pins s σ H D I (k D σ H q)⟩
theorem pss_imp {X : Cx} {e : List Stmt} {t u : TS} (h : PSs X e t) (k : ∀ D σ H, u D σ H → t D σ H) : PSs X e u := ⟨fun pins s σ H D I q => h.run pins s σ H D I (k D σ H q)⟩
theorem pg_imp {X : Cx} {e : Expr} {t u : TG} (h : PG X e t) (k : ∀ v σ H Q, u v σ H Q → t v σ H Q) : PG X e u := ⟨fun pins s σ H v w Q I r q => h.run pins s σ H v w Q I r (k v σ H Q q)⟩
theorem pgs_imp {X : Cx} {e : List Expr} {t u : TGs} (h : PGs X e t) (k : ∀ v σ H Q, u v σ H Q → t v σ H Q) : PGs X e u := ⟨fun pins s σ H v w Q I r q => h.run pins s σ H v w Q I r (k v σ H Q q)⟩

/-- a reading's first step -/
theorem liftE.of {K : PySem.W.Frag} {T : DTE} {σ : L2.St} {H F : Hp} {ρ : Rho} {M : MM} {Q : VK} (e : EnvR K F σ ρ) (w : SWH K H F M) {Q' : QE} (t : T ρ M Q')
    (q : ∀ d M' v H' F', Stp K F H M F' H' M' → Rep K F' v d → EnvR K F' σ ρ → Q' d M' → Q v H') : liftE K T σ H Q :=
  ⟨F, ρ, M, Q', e, w, t, fun d M' v H' F' s r z => q d M' v H' F' s r (e.mono s.same) z⟩
theorem liftT.of {K : PySem.W.Frag} {T : DTT} {σ : L2.St} {H F : Hp} {ρ : Rho} {M : MM} {Q : Bool → Hp → Prop} (e : EnvR K F σ ρ) (w : SWH K H F M) {Q' : Bool → MM → Prop} (t : T ρ M Q')
    (q : ∀ b M' H' F', Stp K F H M F' H' M' → EnvR K F' σ ρ → Q' b M' → Q b H') : liftT K T σ H Q :=
  ⟨F, ρ, M, Q', e, w, t, fun d M' H' F' s z => q d M' H' F' s (e.mono s.same) z⟩
theorem liftA.of {K : PySem.W.Frag} {T : DTA} {σ : L2.St} {H F : Hp} {ρ : Rho} {M : MM} {Q : List V → Hp → Prop} (e : EnvR K F σ ρ) (w : SWH K H F M) {Q' : List D → MM → Prop} (t : T ρ M Q')
    (q : ∀ d M' v H' F', Stp K F H M F' H' M' → Reps K F' v d → EnvR K F' σ ρ → Q' d M' → Q v H') : liftA K T σ H Q :=
  ⟨F, ρ, M, Q', e, w, t, fun d M' v H' F' s r z => q d M' v H' F' s r (e.mono s.same) z⟩
end DL

set_option Elab.async false
set_option linter.all false
set_option maxRecDepth 100000
set_option maxHeartbeats 4000000
namespace DL
open PySem PySem.Spec PyProof.Rows L2
section
variable {X : Cx} {pos : Pos}

/-! ### names, constants -/
def dVar (i : Nat) : DTE := fun ρ M Q => match ρ[i]? with
  | some (some d) => Q d M
  | _ => False
def dC (d : D) : DTE := fun _ M Q => Q d M
theorem de_var (i : Nat) {x : Str} (hN : X.N[i]? = some x := by rfl) (hv : Vis X.env.scope x := by first | exact Or.inl rfl | exact Or.inr (Or.inl rfl) | exact Or.inr (Or.inr rfl)) (hd : (x == ("__debug__" : Str)) = false := by decide)
    (hcd : (x == ("__classdict__" : Str)) = false := by decide) : DE X (.Name x pos) (dVar i) :=
  pe_imp (pe_var (i := i) hN hv hd hcd) fun σ H Q ⟨F, ρ, M, Q', e, w, t, q⟩ => by
    unfold dVar at t
    split at t
    · rename_i d hd
      obtain ⟨v, hv, r⟩ := e.2 i d hd
      exact ⟨v, hv, q d M v H F (Stp.refl w) r t⟩
    · exact t.elim
/-- a list that may change, read for the last time: it is data from here on -/
def dVarF (i : Nat) : DTE := fun ρ M Q => match ρ[i]? with
  | some (some (.ptr p)) => ∃ A ds B, M = A ++ (p, .lst ds) :: B ∧ Q (.lst ds) (A ++ B)
  | _ => False
theorem de_varF (i : Nat) {x : Str} (hN : X.N[i]? = some x := by rfl) (hv : Vis X.env.scope x := by first | exact Or.inl rfl | exact Or.inr (Or.inl rfl) | exact Or.inr (Or.inr rfl)) (hd : (x == ("__debug__" : Str)) = false := by decide)
    (hcd : (x == ("__classdict__" : Str)) = false := by decide) : DE X (.Name x pos) (dVarF i) :=
  pe_imp (pe_var (i := i) hN hv hd hcd) fun σ H Q ⟨F, ρ, M, Q', e, w, t, q⟩ => by
    unfold dVarF at t
    split at t
    · rename_i p hd
      obtain ⟨A, ds, B, rfl, t⟩ := t
      obtain ⟨v, hv, r⟩ := e.2 i _ hd
      cases r
      obtain ⟨F', s, r1⟩ := w.freeze
      exact ⟨_, hv, q _ _ _ H F' s r1 t⟩
    · exact t.elim
theorem de_int {i j} : DE X (.Constant (.int i) j pos) (dC (.int i)) := pe_imp pe_int fun σ H Q ⟨F, ρ, M, Q', e, w, t, q⟩ => q _ _ _ _ F (Stp.refl w) (.int i) t
theorem de_bl {b j} : DE X (.Constant (.bool b) j pos) (dC (.bl b)) := pe_imp pe_bl fun σ H Q ⟨F, ρ, M, Q', e, w, t, q⟩ => q _ _ _ _ F (Stp.refl w) (.bl b) t
theorem de_non {j} : DE X (.Constant .none j pos) (dC .non) := pe_imp pe_non fun σ H Q ⟨F, ρ, M, Q', e, w, t, q⟩ => q _ _ _ _ F (Stp.refl w) .non t
theorem de_str {x j} : DE X (.Constant (.str x) j pos) (dC (.str x)) := pe_imp pe_str fun σ H Q ⟨F, ρ, M, Q', e, w, t, q⟩ => q _ _ _ _ F (Stp.refl w) (.str x) t
/-- a module's constant that is a number, a text; a class, a def -/
def FlatD : D → V → Prop
  | .int i, .int j => i = j
  | .str s, .str t => s = t
  | .bl s, .bl t => s = t
  | .ptr a, .ref b => a = b
  | .ty n, .ty m => n = m
  | .non, .non => True
  | _, _ => False
theorem FlatD.rep {K : PySem.W.Frag} {F : Hp} : ∀ {d : D} {v : V}, FlatD d v → Rep K F v d
  | .int i, .int j, h => by have h : i = j := h; subst h; exact .int i
  | .str i, .str j, h => by have h : i = j := h; subst h; exact .str i
  | .bl i, .bl j, h => by have h : i = j := h; subst h; exact .bl i
  | .ptr i, .ref j, h => by have h : i = j := h; subst h; exact .ptr i
  | .ty i, .ty j, h => by have h : i = j := h; subst h; exact .ty i
  | .non, .non, _ => .non
theorem de_glob {x : Str} {d : D} {v : V} {u : Value} (hg : Gl X x) (hm : X.mg x = some u) (r : RelV v u) (hf : FlatD d v) (hd : (x == ("__debug__" : Str)) = false := by decide) : DE X (.Name x pos) (dC d) :=
  pe_imp (pe_glob hg hm r hd) fun σ H Q ⟨F, ρ, M, Q', e, w, t, q⟩ => q _ _ _ _ F (Stp.refl w) hf.rep t
/-- a module's constant that is a tuple: ds, as it is written there -/
def KTup (K : PySem.W.Frag) (v : V) (d : D) : Prop := ∀ F, Rep K F v d
theorem de_globT {x : Str} {d : D} {v : V} {u : Value} (hg : Gl X x) (hm : X.mg x = some u) (r : RelV v u) (hf : KTup X.K v d) (hd : (x == ("__debug__" : Str)) = false := by decide) : DE X (.Name x pos) (dC d) :=
  pe_imp (pe_glob hg hm r hd) fun σ H Q ⟨F, ρ, M, Q', e, w, t, q⟩ => q _ _ _ _ F (Stp.refl w) (hf F) t
theorem de_bltn {x : Str} {n : String} (hg : Gl X x) (hm : X.mg x = none) (hv : bootBuiltins x = some (.type n)) (hn : x ≠ "__name__" := by decide) (hd : (x == ("__debug__" : Str)) = false := by decide) : DE X (.Name x pos) (dC (.ty n)) :=
  pe_imp (pe_bltn (v := .ty n) hg hm hv rfl hn hd) fun σ H Q ⟨F, ρ, M, Q', e, w, t, q⟩ => q _ _ _ _ F (Stp.refl w) (.ty n) t

/-! ### operators -/
abbrev DR2 := D → D → MM → QE → Prop
abbrev DR1 := D → MM → QE → Prop
/-- a rule by values, told over data -/
def OpRef (K : PySem.W.Frag) (r : R2) (R : DR2) : Prop := ∀ (F H : Hp) (M : MM) (v u : V) (x y : D) (Q : VK) (Q' : QE), SWH K H F M → Rep K F v x → Rep K F u y → R x y M Q' →
  (∀ d M' v' H' F', Stp K F H M F' H' M' → Rep K F' v' d → Q' d M' → Q v' H') → r v u H Q
def dOp (R : DR2) (Ta Tb : DTE) : DTE := fun ρ M Q => Ta ρ M fun x M1 => Tb ρ M1 fun y M2 => R x y M2 Q
def dUn (R : DR1) (Ta : DTE) : DTE := fun ρ M Q => Ta ρ M fun x M1 => R x M1 Q
theorem op_lift {K : PySem.W.Frag} {r : R2} {R : DR2} (hr : OpRef K r R) {Ta Tb : DTE} {σ : L2.St} {H : Hp} {Q : VK} (h : liftE K (dOp R Ta Tb) σ H Q) : tOp r (liftE K Ta) (liftE K Tb) σ H Q := by
  obtain ⟨F, ρ, M, Q', e, w, t, q⟩ := h
  refine .of e w t fun x M1 v H1 F1 s1 r1 e1 t1 => .of e1 s1.swh t1 fun y M2 u H2 F2 s2 r2 e2 t2 => ?_
  exact hr F2 H2 M2 v u x y Q Q' s2.swh (r1.mono s2.same) r2 t2 fun d M' v' H' F' s3 r3 t3 => q d M' v' H' F' (tr2 (tr2 s1 s2) s3) r3 t3
theorem de_op {op : Operator} {r : R2} {R : DR2} {a b : Expr} {Ta Tb : DTE} (ho : OpR X (binaryOp op) r) (hr : OpRef X.K r R) (ha : DE X a Ta) (hb : DE X b Tb) : DE X (.BinOp a op b pos) (dOp R Ta Tb) :=
  pe_imp (pe_op ho ha hb) fun _ _ _ h => op_lift hr h
theorem de_cmp {op : CmpOp} {r : R2} {R : DR2} {a b : Expr} {Ta Tb : DTE} (ho : OpR X (compareOp op) r) (hr : OpRef X.K r R) (ha : DE X a Ta) (hb : DE X b Tb) (hm : behindInMarks op b = false := by first | exact nomark _ | rfl) : DE X (.Compare a [op] [b] pos) (dOp R Ta Tb) :=
  pe_imp (pe_cmpR ho ha hb hm) fun _ _ _ h => op_lift hr h
/-- a comparison as a test -/
def dTest (Ta : DTE) : DTT := fun ρ M Q => Ta ρ M fun x M1 => match x with
  | .bl b => Q b M1
  | _ => False
theorem test_lift {K : PySem.W.Frag} {T : DTE} {t : TE} (ht : ∀ σ H Q, liftE K T σ H Q → t σ H Q) {σ : L2.St} {H : Hp} {Q : Bool → Hp → Prop} (h : liftT K (dTest T) σ H Q) : tTest t σ H Q := by
  obtain ⟨F, ρ, M, Q', e, w, t, q⟩ := h
  refine ht _ _ _ (.of e w t fun x M1 v H1 F1 s1 r1 e1 t1 => ?_)
  cases r1 <;> first | exact t1.elim | exact ⟨_, rfl, q _ M1 H1 F1 s1 t1⟩
theorem dt_cmp {op : CmpOp} {r : R2} {R : DR2} {a b : Expr} {Ta Tb : DTE} (ho : OpR X (compareOp op) r) (hr : OpRef X.K r R) (ha : DE X a Ta) (hb : DE X b Tb) (hm : behindInMarks op b = false := by first | exact nomark _ | rfl) : DT X (.Compare a [op] [b] pos) (dTest (dOp R Ta Tb)) :=
  pt_imp (pt_cmpR ho ha hb hm) fun _ _ _ h => test_lift (fun _ _ _ z => op_lift hr z) h
/-- a < b < c -/
def dChain (R R' : DR2) (Ta Tb Tc : DTE) : DTE := fun ρ M Q => Ta ρ M fun x M1 => Tb ρ M1 fun y M2 => R x y M2 fun z M3 => match z with
  | .bl k => if k = true then Tc ρ M3 fun u M4 => R' y u M4 Q else Q (.bl false) M3
  | _ => False
theorem chain_lift {K : PySem.W.Frag} {r r' : R2} {R R' : DR2} (hr : OpRef K r R) (hr' : OpRef K r' R') {Ta Tb Tc : DTE} {σ : L2.St} {H : Hp} {Q : VK} (h : liftE K (dChain R R' Ta Tb Tc) σ H Q) : tChain r r' (liftE K Ta) (liftE K Tb) (liftE K Tc) σ H Q := by
  obtain ⟨F, ρ, M, Q', e, w, t, q⟩ := h
  refine .of e w t fun x M1 v H1 F1 s1 r1 e1 t1 => .of e1 s1.swh t1 fun y M2 u H2 F2 s2 r2 e2 t2 => ?_
  refine hr F2 H2 M2 v u x y _ _ s2.swh (r1.mono s2.same) r2 t2 fun d M' v' H' F' s3 r3 t3 => ?_
  have e3 := e2.mono s3.same
  cases r3 with
  | bl k =>
    refine ⟨k, rfl, ?_⟩
    cases k with
    | true =>
      replace t3 : Tc ρ _ (fun u M4 => R' y u M4 Q') := t3
      rw [if_pos rfl]
      refine .of e3 s3.swh t3 fun z M4 u4 H4 F4 s4 r4 e4 t4 => ?_
      exact hr' F4 H4 M4 _ _ _ _ Q Q' s4.swh ((r2.mono s3.same).mono s4.same) r4 t4 fun d M' v' H' F' s5 r5 t5 => q d M' v' H' F' (tr2 (tr2 (tr2 (tr2 s1 s2) s3) s4) s5) r5 t5
    | false =>
      replace t3 : Q' (.bl false) _ := t3
      rw [if_neg Bool.false_ne_true]
      exact q _ _ _ _ F' (tr2 (tr2 s1 s2) s3) (.bl false) t3
  | _ => exact t3.elim
theorem de_chain {op op' : CmpOp} {r r' : R2} {R R' : DR2} {a b c : Expr} {Ta Tb Tc : DTE} (ho : OpR X (compareOp op) r) (hr : OpRef X.K r R) (ho' : OpR X (compareOp op') r') (hr' : OpRef X.K r' R') (ha : DE X a Ta) (hb : DE X b Tb) (hc : DE X c Tc)
    (hm : lastMarks [op, op'] [b, c] = false := by rfl) : DE X (.Compare a [op, op'] [b, c] pos) (dChain R R' Ta Tb Tc) :=
  pe_imp (pe_chain ho ho' ha hb hc hm) fun _ _ _ h => chain_lift hr hr' h
theorem dt_chain {op op' : CmpOp} {r r' : R2} {R R' : DR2} {a b c : Expr} {Ta Tb Tc : DTE} (ho : OpR X (compareOp op) r) (hr : OpRef X.K r R) (ho' : OpR X (compareOp op') r') (hr' : OpRef X.K r' R') (ha : DE X a Ta) (hb : DE X b Tb) (hc : DE X c Tc)
    (hm : lastMarks [op, op'] [b, c] = false := by rfl) : DT X (.Compare a [op, op'] [b, c] pos) (dTest (dChain R R' Ta Tb Tc)) :=
  pt_imp (pt_chain ho ho' ha hb hc hm) fun _ _ _ h => test_lift (fun _ _ _ z => chain_lift hr hr' z) h

/-! ints -/
def rInt (C : Int → Int → Prop) (g : Int → Int → D) : DR2 := fun x y M Q => match x, y with
  | .int i, .int j => C i j ∧ Q (g i j) M
  | _, _ => False
def rInt0 (g : Int → Int → D) : DR2 := fun x y M Q => match x, y with
  | .int i, .int j => Q (g i j) M
  | _, _ => False
theorem ref_int {K : PySem.W.Frag} {C : Int → Int → Prop} {f : Int → Int → V} {g : Int → Int → D} (h : ∀ i j, FlatD (g i j) (f i j)) : OpRef K (rI C f) (rInt C g) := by
  intro F H M v u x y Q Q' w r1 r2 t q
  cases r1 <;> cases r2 <;> first | exact t.elim | exact ⟨_, _, rfl, rfl, t.1, q _ _ _ _ F (Stp.refl w) (h _ _).rep t.2⟩
theorem ref_int0 {K : PySem.W.Frag} {f : Int → Int → V} {g : Int → Int → D} (h : ∀ i j, FlatD (g i j) (f i j)) : OpRef K (rI0 f) (rInt0 g) := by
  intro F H M v u x y Q Q' w r1 r2 t q
  cases r1 <;> cases r2 <;> first | exact t.elim | exact ⟨_, _, rfl, rfl, q _ _ _ _ F (Stp.refl w) (h _ _).rep t⟩
abbrev rSub : DR2 := rInt0 fun i j => .int (i - j)
abbrev rFdiv : DR2 := rInt CDiv fun i j => .int (i / j)
abbrev rFdivW : DR2 := rInt CDivW fun i j => .int (i / j)
abbrev rMod : DR2 := rInt (fun _ j => 0 < j) fun i j => .int (i % j)
abbrev rPow : DR2 := rInt CPow fun i j => .int (i ^ j.toNat)
abbrev rLt : DR2 := rInt0 fun i j => .bl (decide (i < j))
abbrev rLe : DR2 := rInt0 fun i j => .bl (decide (i ≤ j))
abbrev rGt : DR2 := rInt0 fun i j => .bl (decide (j < i))
abbrev rGe : DR2 := rInt0 fun i j => .bl (decide (j ≤ i))
theorem de_sub {a b : Expr} {Ta Tb : DTE} (ha : DE X a Ta) (hb : DE X b Tb) : DE X (.BinOp a .Sub b pos) (dOp rSub Ta Tb) := de_op op_sub (ref_int0 fun _ _ => rfl) ha hb
theorem de_fdiv {a b : Expr} {Ta Tb : DTE} (ha : DE X a Ta) (hb : DE X b Tb) : DE X (.BinOp a .FloorDiv b pos) (dOp rFdiv Ta Tb) := de_op op_fdiv (ref_int fun _ _ => rfl) ha hb
theorem de_fdivW {a b : Expr} {Ta Tb : DTE} (ha : DE X a Ta) (hb : DE X b Tb) : DE X (.BinOp a .FloorDiv b pos) (dOp rFdivW Ta Tb) := de_op op_fdivW (ref_int fun _ _ => rfl) ha hb
theorem de_mod {a b : Expr} {Ta Tb : DTE} (ha : DE X a Ta) (hb : DE X b Tb) : DE X (.BinOp a .Mod b pos) (dOp rMod Ta Tb) := de_op op_mod (ref_int fun _ _ => rfl) ha hb
theorem de_pow {a b : Expr} {Ta Tb : DTE} (ha : DE X a Ta) (hb : DE X b Tb) : DE X (.BinOp a .Pow b pos) (dOp rPow Ta Tb) := de_op op_pow (ref_int fun _ _ => rfl) ha hb
theorem de_lt {a b : Expr} {Ta Tb : DTE} (ha : DE X a Ta) (hb : DE X b Tb) : DE X (.Compare a [.Lt] [b] pos) (dOp rLt Ta Tb) := de_cmp op_lt (ref_int0 fun _ _ => rfl) ha hb
theorem de_le {a b : Expr} {Ta Tb : DTE} (ha : DE X a Ta) (hb : DE X b Tb) : DE X (.Compare a [.LtE] [b] pos) (dOp rLe Ta Tb) := de_cmp op_le (ref_int0 fun _ _ => rfl) ha hb
theorem de_gt {a b : Expr} {Ta Tb : DTE} (ha : DE X a Ta) (hb : DE X b Tb) : DE X (.Compare a [.Gt] [b] pos) (dOp rGt Ta Tb) := de_cmp op_gt (ref_int0 fun _ _ => rfl) ha hb
theorem de_ge {a b : Expr} {Ta Tb : DTE} (ha : DE X a Ta) (hb : DE X b Tb) : DE X (.Compare a [.GtE] [b] pos) (dOp rGe Ta Tb) := de_cmp op_ge (ref_int0 fun _ _ => rfl) ha hb
theorem dt_lt {a b : Expr} {Ta Tb : DTE} (ha : DE X a Ta) (hb : DE X b Tb) : DT X (.Compare a [.Lt] [b] pos) (dTest (dOp rLt Ta Tb)) := dt_cmp op_lt (ref_int0 fun _ _ => rfl) ha hb
theorem dt_le {a b : Expr} {Ta Tb : DTE} (ha : DE X a Ta) (hb : DE X b Tb) : DT X (.Compare a [.LtE] [b] pos) (dTest (dOp rLe Ta Tb)) := dt_cmp op_le (ref_int0 fun _ _ => rfl) ha hb
theorem dt_gt {a b : Expr} {Ta Tb : DTE} (ha : DE X a Ta) (hb : DE X b Tb) : DT X (.Compare a [.Gt] [b] pos) (dTest (dOp rGt Ta Tb)) := dt_cmp op_gt (ref_int0 fun _ _ => rfl) ha hb
theorem dt_ge {a b : Expr} {Ta Tb : DTE} (ha : DE X a Ta) (hb : DE X b Tb) : DT X (.Compare a [.GtE] [b] pos) (dTest (dOp rGe Ta Tb)) := dt_cmp op_ge (ref_int0 fun _ _ => rfl) ha hb
theorem de_neg {a : Expr} {Ta : DTE} (ha : DE X a Ta) : DE X (.UnaryOp .USub a pos) (dUn (fun x M Q => match x with | .int i => Q (.int (-i)) M | _ => False) Ta) :=
  pe_imp (pe_un un_neg ha) fun σ H Q ⟨F, ρ, M, Q', e, w, t, q⟩ => .of e w t fun x M1 v H1 F1 s1 r1 e1 t1 => by
    cases r1 <;> first | exact t1.elim | exact ⟨_, rfl, q _ _ _ _ F1 s1 (.int _) t1⟩

/-! + and * by what both are -/
def rAddD : DR2 := fun x y M Q => match x, y with
  | .int i, .int j => Q (.int (i + j)) M
  | .str i, .str j => i.length + j.length ≤ sizeLine ∧ Q (.str (i ++ j)) M
  | .tup xs, .tup ys => xs.length + ys.length ≤ sizeLine ∧ Q (.tup (xs ++ ys)) M
  | .lst xs, .lst ys => xs.length + ys.length ≤ sizeLine ∧ Q (.lst (xs ++ ys)) M
  | _, _ => False
def rI0_add : R2 := fun x y H Q => ∃ i j, x = .int i ∧ y = .int j ∧ Q (.int (i + j)) H
def rAddV (K : PySem.W.Frag) : R2 := fun x y H Q => (rI0 (fun i j => .int (i + j)) x y H Q) ∨ ((∃ i j, x = .str i ∧ y = .str j ∧ i.length + j.length ≤ sizeLine ∧ Q (.str (i ++ j)) H) ∨ (rCatA K x y H Q ∨ rCat x y H Q))
theorem op_addV : OpR X (binaryOp .Add) (rAddV X.K) := op_add.or (op_add_str.or (op_catA.or op_cat))
theorem ref_add {K : PySem.W.Frag} : OpRef K (rAddV K) rAddD := by
  intro F H M v u x y Q Q' w r1 r2 t q
  cases r1 <;> cases r2 <;> first | exact t.elim | skip
  · exact .inl ⟨_, _, rfl, rfl, q _ _ _ _ F (Stp.refl w) (.int _) t⟩
  · exact .inr (.inl ⟨_, _, rfl, rfl, t.1, q _ _ _ _ F (Stp.refl w) (.str _) t.2⟩)
  · rename_i a xs ds h1 g1 b ys es h2 g2
    obtain ⟨l, t⟩ := t
    have hl : xs.length + ys.length ≤ sizeLine := by rw [g1.length, g2.length]; exact l
    refine .inr (.inr (.inl ⟨a, b, xs, ys, rfl, rfl, sqT_mono w.sub h1, sqT_mono w.sub h2, hl, ?_⟩))
    refine ⟨fun e => ?_, fun _ e => ?_, fun e1 e2 p hp => ?_⟩
    · subst e
      cases g1
      exact q _ _ _ _ F (Stp.refl w) (.tup h2 g2) t
    · subst e
      cases g2
      rw [List.append_nil] at t
      exact q _ _ _ _ F (Stp.refl w) (.tup h1 g1) t
    · have s := w.newF hp (.tup (xs ++ ys))
      exact q _ _ _ _ _ s (.tup (.inl (.inl upd_same)) ((g1.append g2).mono s.same)) t
  · rename_i a xs ds h1 g1 b ys es h2 g2
    obtain ⟨l, t⟩ := t
    have hl : xs.length + ys.length ≤ sizeLine := by rw [g1.length, g2.length]; exact l
    refine .inr (.inr (.inr ⟨a, b, xs, ys, rfl, rfl, w.sub _ _ h1, w.sub _ _ h2, hl, fun p hp => ?_⟩))
    have s := w.newF hp (.lst (xs ++ ys))
    exact q _ _ _ _ _ s (.lst upd_same ((g1.append g2).mono s.same)) t
theorem de_add {a b : Expr} {Ta Tb : DTE} (ha : DE X a Ta) (hb : DE X b Tb) : DE X (.BinOp a .Add b pos) (dOp rAddD Ta Tb) := de_op op_addV ref_add ha hb
end
end DL

set_option Elab.async false
set_option linter.all false
set_option maxRecDepth 100000
set_option maxHeartbeats 4000000
namespace DL
open PySem PySem.Spec PyProof.Rows L2
section
variable {X : Cx} {pos : Pos}
/-! ### arguments, displays -/
def dNil : DTA := fun _ M Q => Q [] M
def dCons (Ta : DTE) (T : DTA) : DTA := fun ρ M Q => Ta ρ M fun x M1 => T ρ M1 fun xs M2 => Q (x :: xs) M2
theorem da_nil : DA X [] dNil := pa_imp pa_nil fun σ H Q ⟨F, ρ, M, Q', e, w, t, q⟩ => q _ _ _ _ F (Stp.refl w) .nil t
theorem da_cons {e : Expr} {es : List Expr} {Ta : DTE} {T : DTA} (ha : DE X e Ta) (hr : DA X es T) (hs : starEach (e :: es) X.env = (false, eval e X.env) :: starEach es X.env := by rfl) : DA X (e :: es) (dCons Ta T) :=
  pa_imp (pa_cons ha hr hs) fun σ H Q ⟨F, ρ, M, Q', e, w, t, q⟩ => .of e w t fun x M1 v H1 F1 s1 r1 e1 t1 => .of e1 s1.swh t1 fun y M2 u H2 F2 s2 r2 e2 t2 =>
    q _ _ _ _ F2 (tr2 s1 s2) (.cons (r1.mono s2.same) r2) t2
def dTup (T : DTA) : DTE := fun ρ M Q => T ρ M fun xs M1 => xs.length ≤ sizeLine ∧ Q (.tup xs) M1
def dLst (T : DTA) : DTE := fun ρ M Q => T ρ M fun xs M1 => xs.length ≤ sizeLine ∧ Q (.lst xs) M1
def dLstM (T : DTA) : DTE := fun ρ M Q => T ρ M fun xs M1 => xs.length ≤ sizeLine ∧ ∀ p, Q (.ptr p) ((p, .lst xs) :: M1)
theorem de_tup {es : List Expr} {x1} {T : DTA} (h : DA X es T) : DE X (.Tuple es x1 pos) (dTup T) :=
  pe_imp (pe_tup h) fun σ H Q ⟨F, ρ, M, Q', e, w, t, q⟩ => .of e w t fun xs M1 vs H1 F1 s1 r1 e1 t1 => ⟨by rw [r1.length]; exact t1.1, fun p hp => by
    have s := s1.swh.newF hp (.tup vs)
    exact q _ _ _ _ _ (tr2 s1 s) (.tup (.inl (.inl upd_same)) (r1.mono s.same)) t1.2⟩
theorem de_lst {es : List Expr} {T : DTA} (h : DA X es T) : DE X (.List es pos) (dLst T) :=
  pe_imp (pe_lst h) fun σ H Q ⟨F, ρ, M, Q', e, w, t, q⟩ => .of e w t fun xs M1 vs H1 F1 s1 r1 e1 t1 => ⟨by rw [r1.length]; exact t1.1, fun p hp => by
    have s := s1.swh.newF hp (.lst vs)
    exact q _ _ _ _ _ (tr2 s1 s) (.lst upd_same (r1.mono s.same)) t1.2⟩
theorem de_lstM {es : List Expr} {T : DTA} (h : DA X es T) : DE X (.List es pos) (dLstM T) :=
  pe_imp (pe_lst h) fun σ H Q ⟨F, ρ, M, Q', e, w, t, q⟩ => .of e w t fun xs M1 vs H1 F1 s1 r1 e1 t1 => ⟨by rw [r1.length]; exact t1.1, fun p hp =>
    q _ _ _ _ _ (tr2 s1 (s1.swh.newM hp (.lst r1))) (.ptr p) (t1.2 p)⟩

/-! ### truth, and, or, not, if -/
/-- an expression whose value is a bool, as a test -/
theorem dt_val {e : Expr} {T : DTE} (h : DE X e T) (he : ∀ whole, isTrue e X.env whole = (do let v ← whole; standAt e.pos; holding [v] (truthy v)) := by intro _; rfl) : DT X e (dTest T) :=
  pt_imp (pt_val h he) fun _ _ _ z => test_lift (fun _ _ _ y => y) z
def dAndT (T U : DTT) : DTT := fun ρ M Q => T ρ M fun c M1 => if c = true then U ρ M1 Q else Q false M1
def dOrT (T U : DTT) : DTT := fun ρ M Q => T ρ M fun c M1 => if c = true then Q true M1 else U ρ M1 Q
def dNotT (T : DTT) : DTT := fun ρ M Q => T ρ M fun c M1 => Q (!c) M1
theorem dw_and1 {a : Expr} {T : DTT} (h : DT X a T) : DW X (.BoolOp .And [a] pos) T := pw_and1 h
theorem dw_or1 {a : Expr} {T : DTT} (h : DT X a T) : DW X (.BoolOp .Or [a] pos) T := pw_or1 h
theorem dw_and {a b : Expr} {rest : List Expr} {T U : DTT} (ha : DT X a T) (hb : DW X (.BoolOp .And (b :: rest) pos) U) : DW X (.BoolOp .And (a :: b :: rest) pos) (dAndT T U) :=
  pw_imp (pw_and ha hb) fun σ H Q ⟨F, ρ, M, Q', e, w, t, q⟩ => .of e w t fun c M1 H1 F1 s1 e1 t1 => by
    cases c with
    | true => exact .of e1 s1.swh t1 fun c M2 H2 F2 s2 e2 t2 => q _ _ _ _ (tr2 s1 s2) t2
    | false => exact q _ _ _ _ s1 t1
theorem dw_or {a b : Expr} {rest : List Expr} {T U : DTT} (ha : DT X a T) (hb : DW X (.BoolOp .Or (b :: rest) pos) U) : DW X (.BoolOp .Or (a :: b :: rest) pos) (dOrT T U) :=
  pw_imp (pw_or ha hb) fun σ H Q ⟨F, ρ, M, Q', e, w, t, q⟩ => .of e w t fun c M1 H1 F1 s1 e1 t1 => by
    cases c with
    | false => exact .of e1 s1.swh t1 fun c M2 H2 F2 s2 e2 t2 => q _ _ _ _ (tr2 s1 s2) t2
    | true => exact q _ _ _ _ s1 t1
theorem DW.dt {e : Expr} {T : DTT} (h : DW X e T) : DT X e T := PW.pt h
theorem dt_not {a : Expr} {T : DTT} (h : DT X a T) : DT X (.UnaryOp .Not a pos) (dNotT T) :=
  pt_imp (pt_not h) fun σ H Q ⟨F, ρ, M, Q', e, w, t, q⟩ => .of e w t fun c M1 H1 F1 s1 e1 t1 => q _ _ _ _ s1 t1
/-- .. as values (bools) -/
def dAndV (Ta Tb : DTE) : DTE := fun ρ M Q => Ta ρ M fun x M1 => match x with
  | .bl c => if c = true then Tb ρ M1 Q else Q (.bl false) M1
  | _ => False
def dOrV (Ta Tb : DTE) : DTE := fun ρ M Q => Ta ρ M fun x M1 => match x with
  | .bl c => if c = true then Q (.bl true) M1 else Tb ρ M1 Q
  | _ => False
def dNotV (Ta : DTE) : DTE := fun ρ M Q => Ta ρ M fun x M1 => match x with
  | .bl c => Q (.bl (!c)) M1
  | _ => False
theorem de_one {a : Expr} {op} {T : DTE} (h : DE X a T) : DE X (.BoolOp op [a] pos) T := pe_one h
theorem de_and {a b : Expr} {rest : List Expr} {Ta Tb : DTE} (ha : DE X a Ta) (hb : DE X (.BoolOp .And (b :: rest) pos) Tb) : DE X (.BoolOp .And (a :: b :: rest) pos) (dAndV Ta Tb) :=
  pe_imp (pe_and ha hb) fun σ H Q ⟨F, ρ, M, Q', e, w, t, q⟩ => .of e w t fun x M1 v H1 F1 s1 r1 e1 t1 => by
    cases r1 <;> first | exact t1.elim | skip
    rename_i c
    refine ⟨c, rfl, ?_⟩
    cases c with
    | true => exact .of e1 s1.swh t1 fun y M2 u H2 F2 s2 r2 e2 t2 => q _ _ _ _ _ (tr2 s1 s2) r2 t2
    | false => exact q _ _ _ _ _ s1 (.bl false) t1
theorem de_or {a b : Expr} {rest : List Expr} {Ta Tb : DTE} (ha : DE X a Ta) (hb : DE X (.BoolOp .Or (b :: rest) pos) Tb) : DE X (.BoolOp .Or (a :: b :: rest) pos) (dOrV Ta Tb) :=
  pe_imp (pe_or ha hb) fun σ H Q ⟨F, ρ, M, Q', e, w, t, q⟩ => .of e w t fun x M1 v H1 F1 s1 r1 e1 t1 => by
    cases r1 <;> first | exact t1.elim | skip
    rename_i c
    refine ⟨c, rfl, ?_⟩
    cases c with
    | false => exact .of e1 s1.swh t1 fun y M2 u H2 F2 s2 r2 e2 t2 => q _ _ _ _ _ (tr2 s1 s2) r2 t2
    | true => exact q _ _ _ _ _ s1 (.bl true) t1
theorem de_not {a : Expr} {Ta : DTE} (ha : DE X a Ta) : DE X (.UnaryOp .Not a pos) (dNotV Ta) :=
  pe_imp (pe_not ha) fun σ H Q ⟨F, ρ, M, Q', e, w, t, q⟩ => .of e w t fun x M1 v H1 F1 s1 r1 e1 t1 => by
    cases r1 <;> first | exact t1.elim | skip
    exact ⟨_, rfl, q _ _ _ _ _ s1 (.bl _) t1⟩
def dIf (T : DTT) (Ta Tb : DTE) : DTE := fun ρ M Q => T ρ M fun c M1 => if c = true then Ta ρ M1 Q else Tb ρ M1 Q
theorem de_ifExp {c a b : Expr} {T : DTT} {Ta Tb : DTE} (hc : DT X c T) (ha : DE X a Ta) (hb : DE X b Tb) : DE X (.IfExp c a b pos) (dIf T Ta Tb) :=
  pe_imp (pe_ifExp hc ha hb) fun σ H Q ⟨F, ρ, M, Q', e, w, t, q⟩ => .of e w t fun c M1 H1 F1 s1 e1 t1 => by
    cases c with
    | true => exact .of e1 s1.swh t1 fun y M2 u H2 F2 s2 r2 e2 t2 => q _ _ _ _ _ (tr2 s1 s2) r2 t2
    | false => exact .of e1 s1.swh t1 fun y M2 u H2 F2 s2 r2 e2 t2 => q _ _ _ _ _ (tr2 s1 s2) r2 t2

/-! ### is None -/
def isNon : D → Bool
  | .non => true
  | _ => false
theorem Rep.isNon {K : PySem.W.Frag} {F : Hp} {v : V} {d : D} (r : Rep K F v d) : decide (v = .non) = isNon d := by
  cases r <;> rfl
def dIsN (Ta : DTE) : DTE := fun ρ M Q => Ta ρ M fun x M1 => Q (.bl (isNon x)) M1
def dNotN (Ta : DTE) : DTE := fun ρ M Q => Ta ρ M fun x M1 => Q (.bl (!isNon x)) M1
theorem isN_lift {K : PySem.W.Frag} {Ta : DTE} {σ : L2.St} {H : Hp} {Q : VK} (h : liftE K (dIsN Ta) σ H Q) : tIsN (liftE K Ta) σ H Q := by
  obtain ⟨F, ρ, M, Q', e, w, t, q⟩ := h
  refine .of e w t fun x M1 v H1 F1 s1 r1 e1 t1 => ?_
  rw [r1.isNon]
  exact q _ _ _ _ _ s1 (.bl _) t1
theorem notN_lift {K : PySem.W.Frag} {Ta : DTE} {σ : L2.St} {H : Hp} {Q : VK} (h : liftE K (dNotN Ta) σ H Q) : tNotN (liftE K Ta) σ H Q := by
  obtain ⟨F, ρ, M, Q', e, w, t, q⟩ := h
  refine .of e w t fun x M1 v H1 F1 s1 r1 e1 t1 => ?_
  rw [r1.isNon]
  exact q _ _ _ _ _ s1 (.bl _) t1
theorem tB_lift {K : PySem.W.Frag} {T : DTE} {t : TE} (ht : ∀ σ H Q, liftE K T σ H Q → t σ H Q) {σ : L2.St} {H : Hp} {Q : Bool → Hp → Prop} (h : liftT K (dTest T) σ H Q) : tB t σ H Q := test_lift ht h
theorem de_isN {a : Expr} {Ta : DTE} {j pos'} (ha : DE X a Ta) : DE X (.Compare a [.Is] [.Constant .none j pos'] pos) (dIsN Ta) := pe_imp (pe_cmp (pc_isN ha)) fun _ _ _ h => isN_lift h
theorem de_notN {a : Expr} {Ta : DTE} {j pos'} (ha : DE X a Ta) : DE X (.Compare a [.IsNot] [.Constant .none j pos'] pos) (dNotN Ta) := pe_imp (pe_cmp (pc_notN ha)) fun _ _ _ h => notN_lift h
theorem dt_isN {a : Expr} {Ta : DTE} {j pos'} (ha : DE X a Ta) : DT X (.Compare a [.Is] [.Constant .none j pos'] pos) (dTest (dIsN Ta)) := pt_imp (pt_cmp (pc_isN ha)) fun _ _ _ h => tB_lift (fun _ _ _ z => isN_lift z) h
theorem dt_notN {a : Expr} {Ta : DTE} {j pos'} (ha : DE X a Ta) : DT X (.Compare a [.IsNot] [.Constant .none j pos'] pos) (dTest (dNotN Ta)) := pt_imp (pt_cmp (pc_notN ha)) fun _ _ _ h => tB_lift (fun _ _ _ z => notN_lift z) h

/-! ### calls of built-ins by values -/
abbrev DRA := List D → MM → QE → Prop
def CallRef (K : PySem.W.Frag) (r : List V → Hp → VK → Prop) (R : DRA) : Prop := ∀ (F H : Hp) (M : MM) (vs : List V) (xs : List D) (Q : VK) (Q' : QE), SWH K H F M → Reps K F vs xs → R xs M Q' →
  (∀ d M' v' H' F', Stp K F H M F' H' M' → Rep K F' v' d → Q' d M' → Q v' H') → r vs H Q
def dCB (R : DRA) (T : DTA) : DTE := fun ρ M Q => T ρ M fun xs M1 => R xs M1 Q
theorem cb_lift {K : PySem.W.Frag} {r : List V → Hp → VK → Prop} {R : DRA} (hr : CallRef K r R) {T : DTA} {σ : L2.St} {H : Hp} {Q : VK} (h : liftE K (dCB R T) σ H Q) : tCB r (liftA K T) σ H Q := by
  obtain ⟨F, ρ, M, Q', e, w, t, q⟩ := h
  refine .of e w t fun xs M1 vs H1 F1 s1 r1 e1 t1 => ?_
  exact hr F1 H1 M1 vs xs Q Q' s1.swh r1 t1 fun d M' v' H' F' s3 r3 t3 => q d M' v' H' F' (tr2 s1 s3) r3 t3
theorem de_callB {x : Str} {id : String} {p : Pos} {e : Expr} {es : List Expr} {r : List V → Hp → VK → Prop} {R : DRA} {T : DTA} (hc : CallR X (.builtin id) r) (hr : CallRef X.K r R) (hm : X.mg x = none) (hv : bootBuiltins x = some (.builtin id)) (ha : DA X (e :: es) T)
    (hg : Gl X x := by rfl) (hn : x ≠ "__name__" := by decide) (hdb : (x == ("__debug__" : Str)) = false := by decide) (h1 : starEach (e :: es) X.env = (false, eval e X.env) :: starEach es X.env := by rfl) (h2 : (backTo pos (starEach es X.env)).any (·.1) = false := by rfl) : DE X (.Call (.Name x p) (e :: es) [] pos) (dCB R T) := pe_imp (pe_callB hc hg hm hv ha hn hdb h1 h2) fun _ _ _ h => cb_lift hr h
theorem de_callTy {x : Str} {id : String} {p : Pos} {e : Expr} {es : List Expr} {r : List V → Hp → VK → Prop} {R : DRA} {T : DTA} (hc : CallR X (.type id) r) (hr : CallRef X.K r R) (hm : X.mg x = none) (hv : bootBuiltins x = some (.type id)) (ha : DA X (e :: es) T)
    (hg : Gl X x := by rfl) (hn : x ≠ "__name__" := by decide) (hdb : (x == ("__debug__" : Str)) = false := by decide) (h1 : starEach (e :: es) X.env = (false, eval e X.env) :: starEach es X.env := by rfl) (h2 : (backTo pos (starEach es X.env)).any (·.1) = false := by rfl) : DE X (.Call (.Name x p) (e :: es) [] pos) (dCB R T) := pe_imp (pe_callTy hc hg hm hv ha hn hdb h1 h2) fun _ _ _ h => cb_lift hr h

/-- the items of a list or tuple -/
def Items (M : MM) : D → List D → Prop
  | .tup xs, ys => xs = ys
  | .lst xs, ys => xs = ys
  | .scr xs, ys => xs = ys
  | .ptr p, ys => (p, .lst ys) ∈ M
  | _, _ => False
theorem Items.sq {K : PySem.W.Frag} {H F : Hp} {M : MM} (w : SWH K H F M) {v : V} {d : D} {xs : List D} (r : Rep K F v d) (h : Items M d xs) : ∃ a vs, v = .ref a ∧ (SqL K H a vs ∨ (SqT K H a vs ∧ d = .tup xs)) ∧ Reps K F vs xs := by
  cases r <;> first | exact h.elim | skip
  · obtain ⟨ho, e, q⟩ := w.at h
    cases q with
    | lst q => exact ⟨_, _, rfl, .inl (SqL.of e), q⟩
  · rename_i a vs ds h1 h2
    have h : ds = xs := h
    subst h
    exact ⟨_, _, rfl, .inr ⟨sqT_mono w.sub h1, rfl⟩, h2⟩
  · rename_i a vs ds h1 h2
    have h : ds = xs := h
    subst h
    exact ⟨_, _, rfl, .inl (SqL.of (w.sub _ _ h1)), h2⟩
  · rename_i a vs ds h1 h2
    have h : ds = xs := h
    subst h
    exact ⟨_, _, rfl, .inl (w.sub.seq h1), h2⟩
/-- .. of what is a list -/
def ItemsL (M : MM) : D → List D → Prop
  | .lst xs, ys => xs = ys
  | .scr xs, ys => xs = ys
  | .ptr p, ys => (p, .lst ys) ∈ M
  | _, _ => False
theorem ItemsL.sq {K : PySem.W.Frag} {H F : Hp} {M : MM} (w : SWH K H F M) {v : V} {d : D} {xs : List D} (r : Rep K F v d) (h : ItemsL M d xs) : ∃ a vs, v = .ref a ∧ SqL K H a vs ∧ Reps K F vs xs := by
  cases r <;> first | exact h.elim | skip
  · obtain ⟨ho, e, q⟩ := w.at h
    cases q with
    | lst q => exact ⟨_, _, rfl, SqL.of e, q⟩
  · rename_i a vs ds h1 h2
    have h : ds = xs := h
    subst h
    exact ⟨_, _, rfl, SqL.of (w.sub _ _ h1), h2⟩
  · rename_i a vs ds h1 h2
    have h : ds = xs := h
    subst h
    exact ⟨_, _, rfl, w.sub.seq h1, h2⟩

/-! len -/
def rLen : DRA := fun xs M Q => ∃ x, xs = [x] ∧ match x with
  | .str z => z.length ≤ sizeLine ∧ Q (.int z.length) M
  | .tup ys => Q (.int ys.length) M
  | .lst ys => Q (.int ys.length) M
  | .scr ys => Q (.int ys.length) M
  | .ptr p => (∃ ys, (p, .lst ys) ∈ M ∧ Q (.int ys.length) M)
  | _ => False
def rLenV (K : PySem.W.Frag) : List V → Hp → VK → Prop := fun xs H Q => (∃ p ys, xs = [.ref p] ∧ (SqL K H p ys ∨ SqT K H p ys) ∧ Q (.int ys.length) H) ∨ (∃ z, xs = [.str z] ∧ z.length ≤ sizeLine ∧ Q (.int z.length) H)
theorem call_lenV : CallR X (.builtin "len") (rLenV X.K) := call_len_seq.or call_len_str
theorem Reps.one {K : PySem.W.Frag} {F : Hp} {vs : List V} {x : D} (r : Reps K F vs [x]) : ∃ v, vs = [v] ∧ Rep K F v x := by
  cases r with
  | cons h t => cases t; exact ⟨_, rfl, h⟩
theorem Reps.two {K : PySem.W.Frag} {F : Hp} {vs : List V} {x y : D} (r : Reps K F vs [x, y]) : ∃ v u, vs = [v, u] ∧ Rep K F v x ∧ Rep K F u y := by
  cases r with
  | cons h t => cases t with
    | cons h' t => cases t; exact ⟨_, _, rfl, h, h'⟩
theorem Reps.zero {K : PySem.W.Frag} {F : Hp} {vs : List V} (r : Reps K F vs []) : vs = [] := by cases r; rfl
theorem ref_len {K : PySem.W.Frag} : CallRef K (rLenV K) rLen := by
  intro F H M vs xs Q Q' w r t q
  obtain ⟨x, rfl, t⟩ := t
  obtain ⟨v, rfl, r1⟩ := r.one
  have go : ∀ ys, Items M x ys → Q' (.int ys.length) M → rLenV K [v] H Q := fun ys hy z => by
    obtain ⟨a, ws, rfl, h, g⟩ := hy.sq w r1
    exact .inl ⟨a, ws, rfl, h.imp id And.left, by rw [g.length]; exact q _ _ _ _ F (Stp.refl w) (.int _) z⟩
  cases x <;> first | exact t.elim | skip
  · cases r1; exact .inr ⟨_, rfl, t.1, q _ _ _ _ F (Stp.refl w) (.int _) t.2⟩
  · exact go _ rfl t
  · exact go _ rfl t
  · exact go _ rfl t
  · obtain ⟨ys, h, z⟩ := t
    exact go ys h z

/-! int(..), abs(..), min, max of two -/
def rIntOf : DRA := fun xs M Q => ∃ x, xs = [x] ∧ match x with
  | .int i => Q (.int i) M
  | .bl b => Q (.int (if b then 1 else 0)) M
  | _ => False
theorem ref_intOf {K : PySem.W.Frag} : CallRef K (fun xs H Q => (∃ i, xs = [.int i] ∧ Q (.int i) H) ∨ ∃ k, xs = [.bl k] ∧ Q (.int (if k then 1 else 0)) H) rIntOf := by
  intro F H M vs xs Q Q' w r t q
  obtain ⟨x, rfl, t⟩ := t
  obtain ⟨v, rfl, r1⟩ := r.one
  cases r1 <;> first | exact t.elim | skip
  · exact .inr ⟨_, rfl, q _ _ _ _ F (Stp.refl w) (.int _) t⟩
  · exact .inl ⟨_, rfl, q _ _ _ _ F (Stp.refl w) (.int _) t⟩
def rAbs : DRA := fun xs M Q => ∃ i, xs = [.int i] ∧ Q (.int (if i < 0 then -i else i)) M
theorem ref_abs {K : PySem.W.Frag} : CallRef K (fun xs H Q => ∃ i, xs = [.int i] ∧ Q (.int (if i < 0 then -i else i)) H) rAbs := by
  intro F H M vs xs Q Q' w r t q
  obtain ⟨x, rfl, t⟩ := t
  obtain ⟨v, rfl, r1⟩ := r.one
  cases r1
  exact ⟨_, rfl, q _ _ _ _ F (Stp.refl w) (.int _) t⟩
def rMin2 : DRA := fun xs M Q => ∃ i j, xs = [.int i, .int j] ∧ Q (.int (if j < i then j else i)) M
def rMax2 : DRA := fun xs M Q => ∃ i j, xs = [.int i, .int j] ∧ Q (.int (if j > i then j else i)) M
theorem ref_min2 {K : PySem.W.Frag} : CallRef K (fun xs H Q => ∃ i j, xs = [.int i, .int j] ∧ Q (.int (if j < i then j else i)) H) rMin2 := by
  intro F H M vs xs Q Q' w r t q
  obtain ⟨x, y, rfl, t⟩ := t
  obtain ⟨v, u, rfl, r1, r2⟩ := r.two
  cases r1; cases r2
  exact ⟨_, _, rfl, q _ _ _ _ F (Stp.refl w) (.int _) t⟩
theorem ref_max2 {K : PySem.W.Frag} : CallRef K (fun xs H Q => ∃ i j, xs = [.int i, .int j] ∧ Q (.int (if j > i then j else i)) H) rMax2 := by
  intro F H M vs xs Q Q' w r t q
  obtain ⟨x, y, rfl, t⟩ := t
  obtain ⟨v, u, rfl, r1, r2⟩ := r.two
  cases r1; cases r2
  exact ⟨_, _, rfl, q _ _ _ _ F (Stp.refl w) (.int _) t⟩

/-! tuple(..), list(..), sum, all, any, sorted -/
def rTupOf : DRA := fun xs M Q => ∃ x ys, xs = [x] ∧ Items M x ys ∧ Q (.tup ys) M
theorem ref_tupOf {K : PySem.W.Frag} : CallRef K (fun xs H Q => ∃ p ys, xs = [.ref p] ∧ ((SqL K H p ys ∧ ∀ l, H l = none → Q (.ref l) (upd H l (.tup ys))) ∨ (SqT K H p ys ∧ Q (.ref p) H))) rTupOf := by
  intro F H M vs xs Q Q' w r t q
  obtain ⟨x, ys, rfl, h, t⟩ := t
  obtain ⟨v, rfl, r1⟩ := r.one
  obtain ⟨a, ws, rfl, hs, g⟩ := h.sq w r1
  refine ⟨a, ws, rfl, ?_⟩
  rcases hs with hs | ⟨hs, rfl⟩
  · refine .inl ⟨hs, fun l hl => ?_⟩
    have s := w.newF hl (.tup ws)
    exact q _ _ _ _ _ s (.tup (.inl (.inl upd_same)) (g.mono s.same)) t
  · exact .inr ⟨hs, q _ _ _ _ F (Stp.refl w) r1 t⟩
def rLstOf : DRA := fun xs M Q => ∃ x ys, xs = [x] ∧ Items M x ys ∧ Q (.lst ys) M
def rLstOfM : DRA := fun xs M Q => ∃ x ys, xs = [x] ∧ Items M x ys ∧ ∀ p, Q (.ptr p) ((p, .lst ys) :: M)
theorem ref_lstOf {K : PySem.W.Frag} : CallRef K (fun xs H Q => ∃ p ys, xs = [.ref p] ∧ (SqL K H p ys ∨ SqT K H p ys) ∧ ∀ l, H l = none → Q (.ref l) (upd H l (.lst ys))) rLstOf := by
  intro F H M vs xs Q Q' w r t q
  obtain ⟨x, ys, rfl, h, t⟩ := t
  obtain ⟨v, rfl, r1⟩ := r.one
  obtain ⟨a, ws, rfl, hs, g⟩ := h.sq w r1
  refine ⟨a, ws, rfl, hs.imp id And.left, fun l hl => ?_⟩
  have s := w.newF hl (.lst ws)
  exact q _ _ _ _ _ s (.lst upd_same (g.mono s.same)) t
theorem ref_lstOfM {K : PySem.W.Frag} : CallRef K (fun xs H Q => ∃ p ys, xs = [.ref p] ∧ (SqL K H p ys ∨ SqT K H p ys) ∧ ∀ l, H l = none → Q (.ref l) (upd H l (.lst ys))) rLstOfM := by
  intro F H M vs xs Q Q' w r t q
  obtain ⟨x, ys, rfl, h, t⟩ := t
  obtain ⟨v, rfl, r1⟩ := r.one
  obtain ⟨a, ws, rfl, hs, g⟩ := h.sq w r1
  exact ⟨a, ws, rfl, hs.imp id And.left, fun l hl => q _ _ _ _ F (w.newM hl (.lst g)) (.ptr l) (t l)⟩
/-- the ints of data -/
def intsOf : List D → Option (List Int)
  | [] => some []
  | .int i :: r => (intsOf r).map (i :: ·)
  | _ => none
theorem intsOf_eq : ∀ {xs : List D} {ns : List Int}, intsOf xs = some ns → xs = ns.map D.int
  | [], ns, h => by cases h; rfl
  | .int i :: r, ns, h => by
    cases e : intsOf r with
    | none => rw [intsOf, e] at h; cases h
    | some ms =>
      rw [intsOf, e] at h
      cases h
      rw [intsOf_eq e]; rfl
theorem intsOf_map : ∀ ns : List Int, intsOf (ns.map D.int) = some ns
  | [] => rfl
  | n :: ns => by rw [List.map_cons, intsOf, intsOf_map ns]; rfl
def rSumD : DRA := fun xs M Q => ∃ (x : D) (ns : List Int), xs = [x] ∧ ItemsL M x (ns.map D.int) ∧ Q (.int ns.sum) M
theorem ref_sum {K : PySem.W.Frag} : CallRef K (L2.rSum K) rSumD := by
  intro F H M vs xs Q Q' w r t q
  obtain ⟨x, ns, rfl, h, t⟩ := t
  obtain ⟨v, rfl, r1⟩ := r.one
  obtain ⟨a, ws, rfl, hs, g⟩ := h.sq w r1
  rw [g.ints] at hs
  exact ⟨a, ns, rfl, hs, q _ _ _ _ F (Stp.refl w) (.int _) t⟩
def rAllD : DRA := fun xs M Q => ∃ (x : D) (bs : List Bool), xs = [x] ∧ ItemsL M x (bs.map D.bl) ∧ Q (.bl (bs.all id)) M
def rAnyD : DRA := fun xs M Q => ∃ (x : D) (bs : List Bool), xs = [x] ∧ ItemsL M x (bs.map D.bl) ∧ Q (.bl (bs.any id)) M
theorem ref_all {K : PySem.W.Frag} : CallRef K (L2.rAll K) rAllD := by
  intro F H M vs xs Q Q' w r t q
  obtain ⟨x, bs, rfl, h, t⟩ := t
  obtain ⟨v, rfl, r1⟩ := r.one
  obtain ⟨a, ws, rfl, hs, g⟩ := h.sq w r1
  rw [g.bls] at hs
  exact ⟨a, bs, rfl, hs, q _ _ _ _ F (Stp.refl w) (.bl _) t⟩
theorem ref_any {K : PySem.W.Frag} : CallRef K (L2.rAny K) rAnyD := by
  intro F H M vs xs Q Q' w r t q
  obtain ⟨x, bs, rfl, h, t⟩ := t
  obtain ⟨v, rfl, r1⟩ := r.one
  obtain ⟨a, ws, rfl, hs, g⟩ := h.sq w r1
  rw [g.bls] at hs
  exact ⟨a, bs, rfl, hs, q _ _ _ _ F (Stp.refl w) (.bl _) t⟩
/-- sorted(xs), ints -/
def rSortI : DRA := fun xs M Q => ∃ (x : D) (ns : List Int), xs = [x] ∧ ItemsL M x (ns.map D.int) ∧ ∀ ns' : List Int, ns'.Perm ns → ns'.Pairwise (· ≤ ·) → Q (.lst (ns'.map D.int)) M
theorem ref_sortI {K : PySem.W.Frag} : CallRef K (L2.rSortedI K) rSortI := by
  intro F H M vs xs Q Q' w r t q
  obtain ⟨x, ns, rfl, h, t⟩ := t
  obtain ⟨v, rfl, r1⟩ := r.one
  obtain ⟨a, ws, rfl, hs, g⟩ := h.sq w r1
  rw [g.ints] at hs
  refine ⟨a, ns, rfl, hs, fun ns' l h1 h2 hl => ?_⟩
  have s := w.newF hl (.lst (ns'.map V.int))
  exact q _ _ _ _ _ s (.lst upd_same (Reps.ofInts ns')) (t ns' h1 h2)

/-! repr: the same text for the same data -/
mutual
/-- data without objects -/
def D.py : D → PyData
  | .non => .none
  | .bl b => .bool b
  | .int i => .int i
  | .str s => .str s
  | .tup xs => .tuple (D.pys xs)
  | .lst xs => .list (D.pys xs)
  | .scr xs => .list (D.pys xs)
  | .ty _ => .none
  | .ptr _ => .none
def D.pys : List D → List PyData
  | [] => []
  | x :: xs => D.py x :: D.pys xs
end
mutual
def D.ok : D → Bool
  | .tup xs => D.oks xs
  | .lst xs => D.oks xs
  | .scr xs => D.oks xs
  | .ty _ => false
  | .ptr _ => false
  | _ => true
def D.oks : List D → Bool
  | [] => true
  | x :: xs => D.ok x && D.oks xs
end
mutual
theorem Rep.dp {K : PySem.W.Frag} {H F : Hp} (s : Same F H) : ∀ {v : V} {d : D}, Rep K F v d → d.ok = true → Dp K H v d.py
  | _, _, .non, _ => .non
  | _, _, .bl b, _ => .bl b
  | _, _, .int b, _ => .int b
  | _, _, .str b, _ => .str b
  | _, _, .tup h r, o => .tup (sqT_mono s h) (Reps.dp s r (by rw [D.ok] at o; exact o))
  | _, _, .lst h r, o => .lst (SqL.of (s _ _ h)) (Reps.dp s r (by rw [D.ok] at o; exact o))
  | _, _, .scr h r, o => .lst (s.seq h) (Reps.dp s r (by rw [D.ok] at o; exact o))
  | _, _, .ty n, o => by rw [D.ok] at o; cases o
  | _, _, .ptr a, o => by rw [D.ok] at o; cases o
theorem Reps.dp {K : PySem.W.Frag} {H F : Hp} (s : Same F H) : ∀ {vs : List V} {ds : List D}, Reps K F vs ds → D.oks ds = true → DpAll K H vs (D.pys ds)
  | _, _, .nil, _ => .nil
  | _, _, .cons h r, o => by
    rw [D.oks, Bool.and_eq_true] at o
    exact .cons (Rep.dp s h o.1) (Reps.dp s r o.2)
end
/-- data that == may look at: objects are lists that stand in M -/
inductive PyOf (M : MM) : D → PyData → Prop
  | pure {d : D} : d.ok = true → PyOf M d d.py
  | ptr {p : Addr} {xs : List D} : (p, .lst xs) ∈ M → D.oks xs = true → PyOf M (.ptr p) (.list (D.pys xs))
theorem PyOf.dp {K : PySem.W.Frag} {H F : Hp} {M : MM} (w : SWH K H F M) {v : V} {d : D} {P : PyData} (r : Rep K F v d) (h : PyOf M d P) : Dp K H v P := by
  cases h with
  | pure o => exact r.dp w.sub o
  | ptr hm o =>
    cases r
    obtain ⟨ho, e, q⟩ := w.at hm
    cases q with
    | lst q => exact .lst (SqL.of e) (q.dp w.sub o)
def rEqD : DR2 := fun x y M Q => ∃ P R, PyOf M x P ∧ PyOf M y R ∧ SeqAt.shaped P = true ∧ SeqAt.shaped R = true ∧ Q (.bl (PyData.eqv P R)) M
def rNeD : DR2 := fun x y M Q => ∃ P R, PyOf M x P ∧ PyOf M y R ∧ SeqAt.shaped P = true ∧ SeqAt.shaped R = true ∧ Q (.bl (!PyData.eqv P R)) M
theorem ref_eqD {K : PySem.W.Frag} : OpRef K (L2.rEqD K) rEqD := by
  intro F H M v u x y Q Q' w r1 r2 t q
  obtain ⟨P, R, h1, h2, s1, s2, t⟩ := t
  exact ⟨P, R, h1.dp w r1, h2.dp w r2, s1, s2, q _ _ _ _ F (Stp.refl w) (.bl _) t⟩
theorem ref_neD {K : PySem.W.Frag} : OpRef K (L2.rNeD K) rNeD := by
  intro F H M v u x y Q Q' w r1 r2 t q
  obtain ⟨P, R, h1, h2, s1, s2, t⟩ := t
  exact ⟨P, R, h1.dp w r1, h2.dp w r2, s1, s2, q _ _ _ _ F (Stp.refl w) (.bl _) t⟩
theorem de_eqD {a b : Expr} {Ta Tb : DTE} (hu : X.A.units + 64 < cLine) (ha : DE X a Ta) (hb : DE X b Tb) : DE X (.Compare a [.Eq] [b] pos) (dOp rEqD Ta Tb) := de_cmp (op_eqD hu) ref_eqD ha hb
theorem de_neD {a b : Expr} {Ta Tb : DTE} (hu : X.A.units + 64 < cLine) (ha : DE X a Ta) (hb : DE X b Tb) : DE X (.Compare a [.NotEq] [b] pos) (dOp rNeD Ta Tb) := de_cmp (op_neD hu) ref_neD ha hb
theorem dt_eqD {a b : Expr} {Ta Tb : DTE} (hu : X.A.units + 64 < cLine) (ha : DE X a Ta) (hb : DE X b Tb) : DT X (.Compare a [.Eq] [b] pos) (dTest (dOp rEqD Ta Tb)) := dt_cmp (op_eqD hu) ref_eqD ha hb
theorem dt_neD {a b : Expr} {Ta Tb : DTE} (hu : X.A.units + 64 < cLine) (ha : DE X a Ta) (hb : DE X b Tb) : DT X (.Compare a [.NotEq] [b] pos) (dTest (dOp rNeD Ta Tb)) := dt_cmp (op_neD hu) ref_neD ha hb
/-! flat: ints, bools, texts, None on both sides of one kind -/
def dEqF : D → D → Option Bool
  | .int i, .int j => some (decide (i = j))
  | .str i, .str j => some (decide (i = j))
  | .bl i, .bl j => some (decide (i = j))
  | _, _ => none
def rEqF : DR2 := fun x y M Q => match x, y with
  | .int i, .int j => Q (.bl (decide (i = j))) M
  | .str i, .str j => Q (.bl (decide (i = j))) M
  | .bl i, .bl j => Q (.bl (decide (i = j))) M
  | _, _ => False
def rNeF : DR2 := fun x y M Q => match x, y with
  | .int i, .int j => Q (.bl (!decide (i = j))) M
  | .str i, .str j => Q (.bl (!decide (i = j))) M
  | .bl i, .bl j => Q (.bl (!decide (i = j))) M
  | _, _ => False
theorem dec_i {i j : Int} : decide (V.int i = V.int j) = decide (i = j) := by rw [dec_int]; rw [Bool.beq_eq_decide_eq]
theorem dec_b {i j : Bool} : decide (V.bl i = V.bl j) = decide (i = j) := by rw [dec_bl]; rw [Bool.beq_eq_decide_eq]
theorem dec_s {i j : Str} : decide (V.str i = V.str j) = decide (i = j) := by rw [dec_str]; rw [Bool.beq_eq_decide_eq]
theorem ref_eqF {K : PySem.W.Frag} : OpRef K rEq rEqF := by
  intro F H M v u x y Q Q' w r1 r2 t q
  cases r1 <;> cases r2 <;> first | exact t.elim | skip
  · exact ⟨rfl, by rw [dec_b]; exact q _ _ _ _ F (Stp.refl w) (.bl _) t⟩
  · exact ⟨rfl, by rw [dec_i]; exact q _ _ _ _ F (Stp.refl w) (.bl _) t⟩
  · exact ⟨rfl, by rw [dec_s]; exact q _ _ _ _ F (Stp.refl w) (.bl _) t⟩
theorem ref_neF {K : PySem.W.Frag} : OpRef K rNe rNeF := by
  intro F H M v u x y Q Q' w r1 r2 t q
  cases r1 <;> cases r2 <;> first | exact t.elim | skip
  · exact ⟨rfl, by rw [dec_b]; exact q _ _ _ _ F (Stp.refl w) (.bl _) t⟩
  · exact ⟨rfl, by rw [dec_i]; exact q _ _ _ _ F (Stp.refl w) (.bl _) t⟩
  · exact ⟨rfl, by rw [dec_s]; exact q _ _ _ _ F (Stp.refl w) (.bl _) t⟩
theorem de_eqF {a b : Expr} {Ta Tb : DTE} (ha : DE X a Ta) (hb : DE X b Tb) : DE X (.Compare a [.Eq] [b] pos) (dOp rEqF Ta Tb) := de_cmp op_eq ref_eqF ha hb
theorem de_neF {a b : Expr} {Ta Tb : DTE} (ha : DE X a Ta) (hb : DE X b Tb) : DE X (.Compare a [.NotEq] [b] pos) (dOp rNeF Ta Tb) := de_cmp op_ne ref_neF ha hb
theorem dt_eqF {a b : Expr} {Ta Tb : DTE} (ha : DE X a Ta) (hb : DE X b Tb) : DT X (.Compare a [.Eq] [b] pos) (dTest (dOp rEqF Ta Tb)) := dt_cmp op_eq ref_eqF ha hb
theorem dt_neF {a b : Expr} {Ta Tb : DTE} (ha : DE X a Ta) (hb : DE X b Tb) : DT X (.Compare a [.NotEq] [b] pos) (dTest (dOp rNeF Ta Tb)) := dt_cmp op_ne ref_neF ha hb
end
end DL

set_option Elab.async false
set_option linter.all false
set_option maxRecDepth 100000
set_option maxHeartbeats 4000000
namespace DL
open PySem PySem.Spec PyProof.Rows L2
section
variable {X : Cx} {pos : Pos}
/-! ### targets -/
def dName (i : Nat) : DTG := fun d ρ M Q => Q (ρ.set i (some d)) M
theorem off_set (σ : L2.St) (i : Nat) (v : Option V) : Off [i] σ (σ.set i v) := ⟨List.length_set, fun j hj => by
  rw [List.getElem?_set_ne (fun e => hj (by rw [e]; exact List.mem_singleton.mpr rfl))]⟩
theorem dg_name {i : Nat} {x : Str} (hN : X.N.Nodup) (hi : X.N[i]? = some x) (hx : Loc X.env.scope x) (hf : X.fn x = true ∨ X.env.scope.names.lookup x = some .local := by first | exact .inl rfl | exact .inr rfl | assumption) : DG X (.Name x pos) [i] (dName i) :=
  pg_imp (pg_name hN hi hx hf) fun v σ H Q ⟨F, ρ, M, d, Q', e, w, r, t, q⟩ => q _ M _ H F (Stp.refl w) (e.set i r) (off_set σ i _) t
def dgNil : DTGs := fun ds ρ M Q => match ds with
  | [] => Q ρ M
  | _ => False
def dgCons (g : DTG) (u : DTGs) : DTGs := fun ds ρ M Q => match ds with
  | d :: r => g d ρ M fun ρ' M' => u r ρ' M' Q
  | _ => False
theorem dgs_nil : DGs X [] [] dgNil := pgs_imp pgs_nil fun vs σ H Q ⟨F, ρ, M, ds, Q', e, w, r, t, q⟩ => by
  cases r with
  | nil => exact ⟨rfl, q ρ M σ H F (Stp.refl w) e (Off.refl _ _) t⟩
  | cons a b => exact t.elim
theorem dgs_cons {e : Expr} {es : List Expr} {sl sl' : List Nat} {g : DTG} {u : DTGs} (h1 : DG X e sl g) (h2 : DGs X es sl' u)
    (hs : (assignEach (e :: es) X.env).map (·.2) = assign e X.env :: (assignEach es X.env).map (·.2) := by rfl) : DGs X (e :: es) (sl ++ sl') (dgCons g u) :=
  pgs_imp (pgs_cons h1 h2 hs) fun vs σ H Q ⟨F, ρ, M, ds, Q', e, w, r, t, q⟩ => by
    cases r with
    | nil => exact t.elim
    | cons a b =>
      refine ⟨_, _, rfl, F, ρ, M, _, _, e, w, a, t, fun ρ' M' σ' H' F' s1 e1 o1 t1 => ?_⟩
      exact ⟨F', ρ', M', _, _, e1, s1.swh, b.mono s1.same, t1, fun ρ2 M2 σ2 H2 F2 s2 e2 o2 t2 =>
        q ρ2 M2 σ2 H2 F2 (tr2 s1 s2) e2 ((o1.mono fun x hx => List.mem_append_left _ hx).trans (o2.mono fun x hx => List.mem_append_right _ hx)) t2⟩
/-- (a, b, ..) = a tuple of that length -/
def dgTup (n : Nat) (u : DTGs) : DTG := fun d ρ M Q => match d with
  | .tup ds => ds.length = n ∧ u ds ρ M Q
  | _ => False
theorem dg_tup {es : List Expr} {k : Nat} {sl : List Nat} {u : DTGs} {n : Nat} (hc : X.calm = true) (h : DGs X es sl u)
    (hn : (assignEach es X.env).length = n := by rfl) (hst : (assignEach es X.env).findIdx? (·.1) = none := by rfl) : DG X (.Tuple es k pos) sl (dgTup n u) :=
  pg_imp (pg_tup hc h hn hst) fun v σ H Q ⟨F, ρ, M, d, Q', e, w, r, t, q⟩ => by
    cases r <;> first | exact t.elim | skip
    rename_i a vs ds h1 g _
    exact ⟨a, vs, rfl, sqT_mono w.sub h1, by rw [g.length]; exact t.1, F, ρ, M, ds, Q', e, w, g, t.2, q⟩

/-! ### small statements -/
theorem EndsR.mono {K : PySem.W.Frag} {F H F1 H1 : Hp} {M M1 : MM} {D' : DEnds} {E : Ends} (h : EndsR K F H M D' E) (s : Stp K F H M F1 H1 M1) : EndsR K F1 H1 M1 D' E :=
  ⟨fun ρ M σ H F2 s2 => h.nx ρ M σ H F2 (tr2 s s2), fun d M v H F2 s2 => h.rt d M v H F2 (tr2 s s2), fun ρ M σ H F2 s2 => h.bk ρ M σ H F2 (tr2 s s2), fun ρ M σ H F2 s2 => h.ct ρ M σ H F2 (tr2 s s2)⟩
def dNext : DTS := fun D ρ M => D.nx ρ M
def dSeq (t u : DTS) : DTS := fun D ρ M => t { D with nx := u D } ρ M
theorem dss_nil : DSs X [] dNext := pss_imp pss_nil fun D σ H ⟨F, ρ, M, D', e, w, t, q⟩ => q.nx ρ M σ H F (Stp.refl w) e t
theorem dss_cons {st : Stmt} {rest : List Stmt} {T U : DTS} (h1 : DS X st T) (h2 : DSs X rest U) : DSs X (st :: rest) (dSeq T U) :=
  pss_imp (pss_cons h1 h2) fun D σ H ⟨F, ρ, M, D', e, w, t, q⟩ => ⟨F, ρ, M, { D' with nx := U D' }, e, w, t, ⟨fun ρ2 M2 σ2 H2 F2 s2 e2 t2 => ⟨F2, ρ2, M2, D', e2, s2.swh, t2, q.mono s2⟩, q.rt, q.bk, q.ct⟩⟩
theorem dss_one {st : Stmt} {T : DTS} (h1 : DS X st T) : DSs X [st] T := pss_one h1
theorem ds_pass : DS X (.Pass pos) dNext := ps_imp ps_pass fun D σ H ⟨F, ρ, M, D', e, w, t, q⟩ => q.nx ρ M σ H F (Stp.refl w) e t
theorem ds_break : DS X (.Break pos) (fun D ρ M => D.bk ρ M) := ps_imp ps_break fun D σ H ⟨F, ρ, M, D', e, w, t, q⟩ => q.bk ρ M σ H F (Stp.refl w) e t
theorem ds_continue : DS X (.Continue pos) (fun D ρ M => D.ct ρ M) := ps_imp ps_continue fun D σ H ⟨F, ρ, M, D', e, w, t, q⟩ => q.ct ρ M σ H F (Stp.refl w) e t
def dDrop (Te : DTE) : DTS := fun D ρ M => Te ρ M fun _ M1 => D.nx ρ M1
theorem ds_expr {e : Expr} {Te : DTE} (he : DE X e Te) (hs : swapsWith e none pos.line X.env = pure false := by rfl) : DS X (.Expr e pos) (dDrop Te) :=
  ps_imp (ps_expr he hs) fun D σ H ⟨F, ρ, M, D', e, w, t, q⟩ => .of e w t fun x M1 v H1 F1 s1 r1 e1 t1 => q.nx ρ M1 σ H1 F1 s1 e1 t1
def dRet (Te : DTE) : DTS := fun D ρ M => Te ρ M D.rt
theorem ds_ret {e : Expr} {Te : DTE} (he : DE X e Te) : DS X (.Return (some e) pos) (dRet Te) :=
  ps_imp (ps_ret he) fun D σ H ⟨F, ρ, M, D', e, w, t, q⟩ => .of e w t fun x M1 v H1 F1 s1 r1 e1 t1 => q.rt x M1 v H1 F1 s1 r1 t1
theorem ds_retN : DS X (.Return none pos) (fun D _ M => D.rt .non M) :=
  ps_imp ps_retN fun D σ H ⟨F, ρ, M, D', e, w, t, q⟩ => q.rt .non M .non H F (Stp.refl w) .non t
def dIfS (c : DTT) (t u : DTS) : DTS := fun D ρ M => c ρ M fun b M1 => if b = true then t D ρ M1 else u D ρ M1
theorem ds_if {c : Expr} {a b : List Stmt} {T : DTT} {U V : DTS} (hc : DT X c T) (ha : DSs X a U) (hb : DSs X b V) : DS X (.If c a b pos) (dIfS T U V) :=
  ps_imp (ps_if hc ha hb) fun D σ H ⟨F, ρ, M, D', e, w, t, q⟩ => .of e w t fun c M1 H1 F1 s1 e1 t1 => by
    cases c with
    | true => exact ⟨F1, ρ, M1, D', e1, s1.swh, t1, q.mono s1⟩
    | false => exact ⟨F1, ρ, M1, D', e1, s1.swh, t1, q.mono s1⟩
def dNever : DTS := fun _ _ _ => False
theorem ds_never {st : Stmt} : DS X st dNever := ps_imp ps_never fun D σ H ⟨F, ρ, M, D', e, w, t, q⟩ => t
theorem dss_never {st : List Stmt} : DSs X st dNever := pss_imp pss_never fun D σ H ⟨F, ρ, M, D', e, w, t, q⟩ => t
def deNever : DTE := fun _ _ _ => False
theorem de_never {e : Expr} : DE X e deNever := ⟨fun _ _ _ _ _ _ ⟨F, ρ, M, Q', e, w, t, q⟩ => t.elim⟩
def dAsg (Te : DTE) (g : DTG) : DTS := fun D ρ M => Te ρ M fun x M1 => g x ρ M1 D.nx
theorem asg_lift {K : PySem.W.Frag} {Te : DTE} {sl : List Nat} {g : DTG} {D : Ends} {σ : L2.St} {H : Hp} (h : liftS K (dAsg Te g) D σ H) : tAsg (liftE K Te) (liftG K sl g) D σ H := by
  obtain ⟨F, ρ, M, D', e, w, t, q⟩ := h
  exact .of e w t fun x M1 v H1 F1 s1 r1 e1 t1 => ⟨F1, ρ, M1, x, _, e1, s1.swh, r1, t1, fun ρ' M' σ' H' F' s' e' _ t' => q.nx ρ' M' σ' H' F' (tr2 s1 s') e' t'⟩
theorem ds_asg {tg e : Expr} {Te : DTE} {sl : List Nat} {g : DTG} (he : DE X e Te) (hg : DG X tg sl g) (hs : swapsWithSole [tg] e pos.line X.env = pure false := by rfl) (hw : swappedStores [tg] e X.env = pure none := by rfl)
    (h1 : (assignEach [tg] X.env).map (·.2) = [assign tg X.env] := by rfl) : DS X (.Assign [tg] e pos) (dAsg Te g) := ps_imp (ps_asg he hg hs hw h1) fun _ _ _ h => asg_lift h
theorem set_lift {K : PySem.W.Frag} {Te : DTE} {i : Nat} {D : Ends} {σ : L2.St} {H : Hp} (h : liftS K (dAsg Te (dName i)) D σ H) : tAsg (liftE K Te) (gName i) D σ H := by
  obtain ⟨F, ρ, M, D', e, w, t, q⟩ := h
  exact .of e w t fun x M1 v H1 F1 s1 r1 e1 t1 => q.nx _ _ _ _ F1 s1 (e1.set i r1) t1
theorem ds_set {i : Nat} {x : Str} {e : Expr} {Te : DTE} {pos' : Pos} (hN : X.N.Nodup) (hi : X.N[i]? = some x) (hx : Loc X.env.scope x) (he : DE X e Te) (hs : swapsWith e (some (.Name x pos')) pos.line X.env = pure false := by rfl) (hf : X.fn x = true ∨ X.env.scope.names.lookup x = some .local := by first | exact .inl rfl | exact .inr rfl | assumption) :
    DS X (.Assign [.Name x pos'] e pos) (dAsg Te (dName i)) := ps_imp (ps_set hN hi hx he hs hf) fun _ _ _ h => set_lift h
/-- a, b = x, y with plain local names -/
def dPar (i j : Nat) (T : DTA) : DTS := fun D ρ M => T ρ M fun ds M1 => match ds with
  | [x, y] => D.nx ((ρ.set i (some x)).set j (some y)) M1
  | _ => False
theorem ds_par {i j : Nat} {x y : Str} {a b : Expr} {T : DTA} {px py pt : Pos} {kt k2 pt2} (hc : X.calm = true) (hN : X.N.Nodup) (hi : X.N[i]? = some x) (hj : X.N[j]? = some y) (hij : i ≠ j)
    (hx : X.env.scope.names.lookup x = some .local) (hy : X.env.scope.names.lookup y = some .local) (ha : DA X [a, b] T)
    (hw : swappedStores [.Tuple [.Name x px, .Name y py] kt pt] (.Tuple [a, b] k2 pt2) X.env = pure (some [x, y]))
    (hs : swapsWithSole [.Tuple [.Name x px, .Name y py] kt pt] (.Tuple [a, b] k2 pt2) pos.line X.env = pure false := by rfl) :
    DS X (.Assign [.Tuple [.Name x px, .Name y py] kt pt] (.Tuple [a, b] k2 pt2) pos) (dPar i j T) :=
  ps_imp (ps_par hc hN hi hj hij hx hy ha hw hs) fun D σ H ⟨F, ρ, M, D', e, w, t, q⟩ => .of e w t fun ds M1 vs H1 F1 s1 r1 e1 t1 => by
    cases r1 with
    | nil => exact t1.elim
    | cons a r1 => cases r1 with
      | nil => exact t1.elim
      | cons b r1 => cases r1 with
        | cons c r1 => exact t1.elim
        | nil => exact ⟨_, _, rfl, q.nx _ _ _ _ F1 s1 ((e1.set i a).set j b) t1⟩

/-! ### while -/
def dWhile (c : DTT) (tb : DTS) : DTS := fun D ρ M => ∃ W : Nat → Rho → MM → Prop, (∃ m, W m ρ M) ∧ ∀ m ρ M, W m ρ M →
  c ρ M fun b M1 => if b = true then tb { D with nx := fun ρ' M' => ∃ m', m' < m ∧ W m' ρ' M', ct := fun ρ' M' => ∃ m', m' < m ∧ W m' ρ' M', bk := D.nx } ρ M1 else D.nx ρ M1
theorem ds_while {c : Expr} {body : List Stmt} {T : DTT} {U : DTS} (hp : PassesOwn (model X.prog X.w) X.A X.env X.xe) (hc : DT X c T) (hb : DSs X body U) : DS X (.While c body [] pos) (dWhile T U) :=
  ps_imp (ps_while hp hc hb) fun D σ H ⟨F, ρ, M, D', e, w, t, q⟩ => by
    obtain ⟨W, ⟨m0, w0⟩, turn⟩ := t
    refine ⟨fun m σ H2 => ∃ F2 ρ M2, Stp X.K F H M F2 H2 M2 ∧ EnvR X.K F2 σ ρ ∧ W m ρ M2, ⟨m0, F, ρ, M, Stp.refl w, e, w0⟩, fun m σ1 H1 ⟨F1, ρ1, M1, s1, e1, t1⟩ => ?_⟩
    refine .of e1 s1.swh (turn m ρ1 M1 t1) fun b M2 H2 F2 s2 e2 t2 => ?_
    have s := tr2 s1 s2
    cases b with
    | true =>
      refine ⟨fun σ' H' => ∃ m', m' < m ∧ ∃ F3 ρ M3, Stp X.K F H M F3 H' M3 ∧ EnvR X.K F3 σ' ρ ∧ W m' ρ M3, fun σ' H' z => z, F2, ρ1, M2, _, e2, s2.swh, t2, ?_⟩
      exact ⟨fun ρ M σ H F3 s3 e3 ⟨m', hm, z⟩ => ⟨m', hm, F3, ρ, M, tr2 s s3, e3, z⟩, fun d M v H F3 s3 => q.rt d M v H F3 (tr2 s s3),
        fun ρ M σ H F3 s3 => q.nx ρ M σ H F3 (tr2 s s3), fun ρ M σ H F3 s3 e3 ⟨m', hm, z⟩ => ⟨m', hm, F3, ρ, M, tr2 s s3, e3, z⟩⟩
    | false => exact q.nx _ _ _ _ F2 s e2 t2

/-! ### what a loop walks -/
/-- the iterator J yields its, whatever else is changed -/
def ItOk (K : PySem.W.Frag) (J : It) (its : List DL.D) (F : Hp) : Prop := ∀ (i : Nat) (H F' : Hp) (M : MM), Same F F' → SWH K H F' M →
  (i < its.length → J.go i H ∧ ∀ x H', J.yld i H x H' → ∃ F2 d, Stp K F' H M F2 H' M ∧ its[i]? = some d ∧ Rep K F2 x d) ∧ (i = its.length → J.stop i H)
abbrev DTI := Rho → MM → (List DL.D → MM → Prop) → Prop
def liftI (K : PySem.W.Frag) (T : DTI) : TI := fun σ H R => ∃ F ρ M Q', EnvR K F σ ρ ∧ SWH K H F M ∧ T ρ M Q' ∧
  ∀ its M' J H' F', Stp K F H M F' H' M' → ItOk K J its F' → Q' its M' → R J H'
def DI (X : Cx) (tg iter : Expr) (T : DTI) : Prop := PI X tg iter (liftI X.K T)
theorem pi_imp {tg iter : Expr} {t u : TI} (h : PI X tg iter t) (k : ∀ σ H R, u σ H R → t σ H R) : PI X tg iter u := ⟨fun pins s σ H R I q => h.run pins s σ H R I (k σ H R q)⟩
/-- the turns of a for -/
def dTurns (g : DTG) (tb : DTS) (D : DEnds) : List DL.D → Rho → MM → Prop
  | [], ρ, M => D.nx ρ M
  | x :: xs, ρ, M => g x ρ M fun ρ1 M1 => tb { D with nx := dTurns g tb D xs, ct := dTurns g tb D xs, bk := D.nx } ρ1 M1
def dFor (ti : DTI) (g : DTG) (tb : DTS) : DTS := fun D ρ M => ti ρ M fun its M1 => dTurns g tb D its ρ M1
theorem ds_for {tg iter : Expr} {body : List Stmt} {ti : DTI} {sl : List Nat} {g : DTG} {tb : DTS} (hp : PassesOwn (model X.prog X.w) X.A X.env X.xe) (hc : X.calm = true) (hi : DI X tg iter ti) (hg : DG X tg sl g) (hb : DSs X body tb)
    (hs : ∀ x, foldedSetIterable iter X.env x = pure x := by intro _; rfl) : DS X (.For tg iter body [] pos) (dFor ti g tb) :=
  ps_imp (ps_for hp hc hi hg hb hs) fun D σ H ⟨F, ρ, M, D', e, w, t, q⟩ => by
    refine ⟨F, ρ, M, _, e, w, t, fun its M1 J H1 F1 s1 ok t1 => ?_⟩
    have e1 := e.mono s1.same
    refine ⟨fun i m σ H2 => i + m = its.length ∧ ∃ F2 ρ M2, Stp X.K F1 H1 M1 F2 H2 M2 ∧ EnvR X.K F2 σ ρ ∧ dTurns g tb D' (its.drop i) ρ M2, ⟨its.length, by omega, F1, ρ, M1, Stp.refl s1.swh, e1, t1⟩, ?_⟩
    rintro i m σ2 H2 ⟨him, F2, ρ2, M2, s2, e2, t2⟩
    obtain ⟨og, os⟩ := ok i H2 F2 M2 s2.same s2.swh
    by_cases hi : i < its.length
    · obtain ⟨go, yl⟩ := og hi
      have hd : its.drop i = its[i] :: its.drop (i + 1) := List.drop_eq_getElem_cons hi
      rw [hd] at t2
      refine .inr ⟨go, fun σ' H' => ∃ F3 ρ M3, Stp X.K F1 H1 M1 F3 H' M3 ∧ EnvR X.K F3 σ' ρ ∧ dTurns g tb D' (its.drop (i + 1)) ρ M3, fun σ' H' z => ⟨m - 1, by omega, by omega, z⟩, fun x H3 y => ?_⟩
      obtain ⟨F3, d, s3, hd3, r3⟩ := yl x H3 y
      rw [List.getElem?_eq_getElem hi] at hd3
      cases hd3
      refine ⟨F3, ρ2, M2, _, _, e2.mono s3.same, s3.swh, r3, t2, fun ρ4 M4 σ4 H4 F4 s4 e4 _ t4 => ?_⟩
      have sA := tr2 (tr2 s2 s3) s4
      have sB := tr2 s1 sA
      exact ⟨F4, ρ4, M4, _, e4, s4.swh, t4, ⟨fun ρ M σ H F5 s5 e5 z => ⟨F5, ρ, M, tr2 sA s5, e5, z⟩, fun d M v H F5 s5 => q.rt d M v H F5 (tr2 sB s5), fun ρ M σ H F5 s5 => q.nx ρ M σ H F5 (tr2 sB s5), fun ρ M σ H F5 s5 e5 z => ⟨F5, ρ, M, tr2 sA s5, e5, z⟩⟩⟩
    · have hd : its.drop i = [] := List.drop_eq_nil_of_le (by omega)
      rw [hd] at t2
      exact .inl ⟨os (by omega), q.nx _ _ _ _ F2 (tr2 s1 s2) e2 t2⟩
/-- a for, by what holds between two turns -/
theorem dTurns_inv {g : DTG} {tb : DTS} {D : DEnds} {its : List DL.D} (W : Nat → Rho → MM → Prop) {ρ : Rho} {M : MM} (h0 : W 0 ρ M)
    (step : ∀ i x ρ M, its[i]? = some x → W i ρ M → ∀ N : Rho → MM → Prop, (∀ ρ' M', W (i + 1) ρ' M' → N ρ' M') → g x ρ M fun ρ1 M1 => tb { D with nx := N, ct := N, bk := D.nx } ρ1 M1)
    (hd : ∀ ρ M, W its.length ρ M → D.nx ρ M) : dTurns g tb D its ρ M := by
  have go : ∀ (k : Nat) (xs : List DL.D) (i : Nat) (ρ : Rho) (M : MM), xs = its.drop i → i ≤ its.length → xs.length = k → W i ρ M → dTurns g tb D xs ρ M := by
    intro k
    induction k with
    | zero =>
      intro xs i ρ M e hi hk w
      have : xs = [] := List.length_eq_zero_iff.mp hk
      subst this
      have hl := congrArg List.length e
      rw [List.length_drop, List.length_nil] at hl
      have : i = its.length := by omega
      subst this
      exact hd ρ M w
    | succ k ih =>
      intro xs i ρ M e hi hk w
      cases xs with
      | nil => cases hk
      | cons x xs =>
        have hl := congrArg List.length e
        rw [List.length_drop, List.length_cons] at hl
        have hlt : i < its.length := by omega
        rw [List.drop_eq_getElem_cons hlt] at e
        injection e with e1 e2
        refine step i x ρ M (by rw [e1]; exact List.getElem?_eq_getElem hlt) w _ fun ρ' M' w' => ih xs (i + 1) ρ' M' e2 (by omega) (by rw [List.length_cons] at hk; omega) w'
  exact go its.length its 0 ρ M rfl (Nat.zero_le _) rfl h0

/-- over a list or a tuple that is data; over a list that may change: it is read as it stands ahead, and no turn changes it: one takes it for data (de_varF) -/
def dIt (Te : DTE) : DTI := fun ρ M Q => Te ρ M fun x M1 => match x with
  | .lst xs => Q xs M1
  | .tup xs => Q xs M1
  | .scr xs => Q xs M1
  | _ => False
/-- a list or a tuple -/
def iSeq (K : PySem.W.Frag) (tl : TE) : TI := fun σ H R => tl σ H fun x H1 => ∃ a, x = .ref a ∧ (((∃ xs, SqL K H1 a xs) ∧ R (Itl K a) H1) ∨ ((∃ xs, SqT K H1 a xs) ∧ R (Itt K a) H1))
theorem pi_seq {tg l : Expr} {tl : TE} (hl : PE X l tl) : PI X tg l (iSeq X.K tl) := by
  refine ⟨fun pins s σ H R I h => ?_⟩
  refine thn (hl.run pins s σ H _ I h) fun v s1 ⟨x, H1, I1, r1, q1⟩ => ?_
  obtain ⟨a, e, q⟩ := q1
  subst e
  cases r1
  rcases q with ⟨⟨xs, hq⟩, q⟩ | ⟨⟨xs, hq⟩, q⟩
  · obtain ⟨its, rv, p, hz⟩ := I1.list hq
    refine wpAny_pyIter_list p.isList ?_
    refine ⟨s1.heap.objs.size, [s1.heap.objs.size], _, _, H1, rfl, I1.kept (t' := s1.toks) fun b o e => Heap.get?_push_of_some _ e, turn_list a _, ⟨_, Heap.get?_push_size _ rfl, rfl, rfl⟩, fun b hb => ?_, q⟩
    have e : b = s1.heap.objs.size := by simpa using hb
    subst e
    exact I1.fpOk (Nat.le_refl _) (I1.hok.fresh (Nat.le_refl _))
  · obtain ⟨its, rv, p, hz⟩ := I1.tuple hq
    refine wpAny_pyIter_tuple (show s1.heap.IsTuple a its.toArray from p) ?_
    refine ⟨s1.heap.objs.size, [s1.heap.objs.size], _, _, H1, rfl, I1.kept (t' := s1.toks) fun b o e => Heap.get?_push_of_some _ e, turn_tuple a _, ⟨_, Heap.get?_push_size _ rfl, rfl, rfl⟩, fun b hb => ?_, q⟩
    have e : b = s1.heap.objs.size := by simpa using hb
    subst e
    exact I1.fpOk (Nat.le_refl _) (I1.hok.fresh (Nat.le_refl _))
theorem itl_ok {K : PySem.W.Frag} {F : Hp} {a : Addr} {vs : List V} {ds : List DL.D} (h : SqL K F a vs) (r : Reps K F vs ds) : ItOk K (Itl K a) ds F := fun i H F' M s w => by
  have hH : SqL K H a vs := w.sub.seq (s.seq h)
  refine ⟨fun hi => ?_, fun hi => ⟨vs, hH, by rw [r.length]; exact Nat.le_of_eq hi.symm⟩⟩
  obtain ⟨v, hv, rv⟩ := r.get' (List.getElem?_eq_getElem hi)
  exact ⟨⟨vs, v, hH, hv⟩, fun x H' ⟨e, y⟩ => by
    subst e
    have := y vs hH
    rw [hv] at this
    cases this
    exact ⟨F', _, Stp.refl w, List.getElem?_eq_getElem hi, rv.mono s⟩⟩
theorem itt_ok {K : PySem.W.Frag} {F : Hp} {a : Addr} {vs : List V} {ds : List DL.D} (h : SqT K F a vs) (r : Reps K F vs ds) : ItOk K (Itt K a) ds F := fun i H F' M s w => by
  have hH : SqT K H a vs := sqT_mono w.sub (sqT_mono s h)
  refine ⟨fun hi => ?_, fun hi => ⟨vs, hH, by rw [r.length]; exact Nat.le_of_eq hi.symm⟩⟩
  obtain ⟨v, hv, rv⟩ := r.get' (List.getElem?_eq_getElem hi)
  exact ⟨⟨vs, v, hH, hv⟩, fun x H' ⟨e, y⟩ => by
    subst e
    have := y vs hH
    rw [hv] at this
    cases this
    exact ⟨F', _, Stp.refl w, List.getElem?_eq_getElem hi, rv.mono s⟩⟩
theorem di_seq {tg l : Expr} {Te : DTE} (hl : DE X l Te) : DI X tg l (dIt Te) :=
  pi_imp (pi_seq hl) fun σ H R ⟨F, ρ, M, Q', e, w, t, q⟩ => .of e w t fun x M1 v H1 F1 s1 r1 e1 t1 => by
    cases r1 <;> first | exact t1.elim | skip
    · rename_i a vs ds h1 g
      exact ⟨a, rfl, .inr ⟨⟨vs, sqT_mono s1.swh.sub h1⟩, q ds M1 _ H1 F1 s1 (itt_ok h1 g) t1⟩⟩
    · rename_i a vs ds h1 g
      exact ⟨a, rfl, .inl ⟨⟨vs, SqL.of (s1.swh.sub _ _ h1)⟩, q ds M1 _ H1 F1 s1 (itl_ok (SqL.of h1) g) t1⟩⟩
    · rename_i a vs ds h1 g
      exact ⟨a, rfl, .inl ⟨⟨vs, s1.swh.sub.seq h1⟩, q ds M1 _ H1 F1 s1 (itl_ok h1 g) t1⟩⟩
/-- range -/
def rangeD (lo : Int) (n : Nat) : List D := (List.range n).map fun i => D.int (lo + (i : Nat))
theorem rangeD_len (lo : Int) (n : Nat) : (rangeD lo n).length = n := by unfold rangeD; rw [List.length_map, List.length_range]
theorem rangeD_get {lo : Int} {n i : Nat} (h : i < n) : (rangeD lo n)[i]? = some (.int (lo + (i : Nat))) := by
  unfold rangeD
  rw [List.getElem?_map, List.getElem?_range h]; rfl
theorem itr_ok {K : PySem.W.Frag} {F : Hp} (lo : Int) (n : Nat) : ItOk K (Itr lo n) (rangeD lo n) F := fun i H F' M s w => by
  rw [rangeD_len]
  refine ⟨fun hi => ⟨hi, fun x H' ⟨e1, e2⟩ => ?_⟩, fun hi => Nat.le_of_eq hi.symm⟩
  subst e1 e2
  exact ⟨F', _, Stp.refl w, rangeD_get hi, .int _⟩
def dRange1 (T : DTA) : DTI := fun ρ M Q => T ρ M fun ds M1 => match ds with
  | [.int j] => -(2 ^ 62) ≤ j ∧ j < 2 ^ 62 ∧ Q (rangeD 0 j.toNat) M1
  | _ => False
def dRange2 (T : DTA) : DTI := fun ρ M Q => T ρ M fun ds M1 => match ds with
  | [.int i, .int j] => (-(2 ^ 62) ≤ i ∧ i < 2 ^ 62 ∧ -(2 ^ 62) ≤ j ∧ j < 2 ^ 62) ∧ Q (rangeD i (j - i).toNat) M1
  | _ => False
theorem di_range1 {tg a : Expr} {T : DTA} {p : Pos} (hm : X.mg "range" = none) (ha : DA X [a] T) (hg : Gl X "range" := by rfl) (hs : starEach [a] X.env = [(false, eval a X.env)] := by rfl) : DI X tg (.Call (.Name "range" p) [a] [] pos) (dRange1 T) :=
  pi_imp (pi_range1 hg hm ha hs) fun σ H R ⟨F, ρ, M, Q', e, w, t, q⟩ => .of e w t fun ds M1 vs H1 F1 s1 r1 e1 t1 => by
    cases r1 with
    | nil => exact t1.elim
    | cons a r => cases r with
      | cons b r => cases a <;> exact t1.elim
      | nil =>
        cases a <;> first | exact t1.elim | skip
        exact ⟨_, rfl, t1.1, t1.2.1, q _ M1 _ H1 F1 s1 (itr_ok 0 _) t1.2.2⟩
theorem di_range2 {tg a b : Expr} {T : DTA} {p : Pos} (hm : X.mg "range" = none) (ha : DA X [a, b] T) (hg : Gl X "range" := by rfl) (hs : starEach [a, b] X.env = [(false, eval a X.env), (false, eval b X.env)] := by rfl) (hs2 : starEach [b] X.env = [(false, eval b X.env)] := by rfl) : DI X tg (.Call (.Name "range" p) [a, b] [] pos) (dRange2 T) :=
  pi_imp (pi_range2 hg hm ha hs hs2) fun σ H R ⟨F, ρ, M, Q', e, w, t, q⟩ => .of e w t fun ds M1 vs H1 F1 s1 r1 e1 t1 => by
    cases r1 with
    | nil => exact t1.elim
    | cons a r => cases r with
      | nil => cases a <;> exact t1.elim
      | cons b r =>
        cases r with
        | cons c r => cases a <;> cases b <;> exact t1.elim
        | nil =>
          cases a <;> cases b <;> first | exact t1.elim | skip
          exact ⟨_, _, rfl, t1.1, q _ M1 _ H1 F1 s1 (itr_ok _ _) t1.2⟩

/-! ### comprehensions -/
def dComp (g : DTG) (tt : DTT) (te : DTE) (ρ : Rho) : List DL.D → List DL.D → MM → (List DL.D → MM → Prop) → Prop
  | [], acc, M, Q => Q acc M
  | x :: xs, acc, M, Q => g x ρ M fun ρ1 M1 => tt ρ1 M1 fun b M2 => if b = true then te ρ1 M2 fun y M3 => acc.length < sizeLine ∧ dComp g tt te ρ xs (acc ++ [y]) M3 Q else dComp g tt te ρ xs acc M2 Q
def dLc (ti : DTI) (g : DTG) (tt : DTT) (te : DTE) (vs : List Nat) : DTE := fun ρ M Q => ti ρ M fun its M1 => dComp g tt te (wipeR ρ vs) its [] M1 fun ys M2 => Q (.lst ys) M2
def dLcM (ti : DTI) (g : DTG) (tt : DTT) (te : DTE) (vs : List Nat) : DTE := fun ρ M Q => ti ρ M fun its M1 => dComp g tt te (wipeR ρ vs) its [] M1 fun ys M2 => ∀ p, Q (.ptr p) ((p, .lst ys) :: M2)
theorem wipe_at (j : Nat) : ∀ (vs : List Nat) (σ : L2.St), (L2.wipe σ vs)[j]? = if j ∈ vs ∧ j < σ.length then some none else σ[j]?
  | [], σ => by rw [if_neg (by simp)]; rfl
  | v :: vs, σ => by
    show ((L2.wipe σ vs).set v none)[j]? = _
    rw [List.getElem?_set, L2.wipe_length]
    by_cases hv : v = j
    · subst hv
      rw [if_pos rfl]
      by_cases hl : v < σ.length
      · rw [if_pos hl, if_pos ⟨by simp, hl⟩]
      · rw [if_neg hl, if_neg (fun z => hl z.2)]
        exact (List.getElem?_eq_none_iff.mpr (Nat.le_of_not_lt hl)).symm
    · rw [if_neg hv, wipe_at j vs σ]
      have : j ∈ v :: vs ↔ j ∈ vs := by simp [Ne.symm hv]
      simp only [this]
theorem wipe_off2 {vs : List Nat} {σ σ' : L2.St} (h : Off vs (L2.wipe σ vs) σ') : L2.wipe σ' vs = L2.wipe σ vs := by
  apply List.ext_getElem?
  intro j
  have hl : σ'.length = σ.length := h.1.trans (L2.wipe_length σ vs)
  by_cases hj : j ∈ vs
  · rw [wipe_at, wipe_at, hl]
    by_cases hlt : j < σ.length
    · rw [if_pos ⟨hj, hlt⟩, if_pos ⟨hj, hlt⟩]
    · rw [if_neg (fun z => hlt z.2), if_neg (fun z => hlt z.2)]
      rw [List.getElem?_eq_none_iff.mpr (Nat.le_of_not_lt hlt), List.getElem?_eq_none_iff.mpr (by rw [hl]; exact Nat.le_of_not_lt hlt)]
  · rw [wipe_at, if_neg (fun z => hj z.1)]
    exact h.2 j hj
/-- the core: D stands for the new list, outside F and M -/
theorem lc_lift {K : PySem.W.Frag} {ti : DTI} {sl vs : List Nat} {g : DTG} {tt : DTT} {te : DTE} (hsl : ∀ x ∈ sl, x ∈ vs) {σ : L2.St} {H : Hp} {Q : VK} {F : Hp} {ρ : Rho} {M : MM} {Q' : List DL.D → MM → Prop}
    (e : EnvR K F σ ρ) (w : SWH K H F M) (t : ti ρ M fun its M1 => dComp g tt te (wipeR ρ vs) its [] M1 Q')
    (q : ∀ ys M' C xs H' F' H2 M2 F2, Stp K F H M F2 H2 M2 → Stp K F2 H2 M2 F' H' M' → H2 C = none → H' C = some (.lst xs) → F' C = none → (∀ x ∈ M', x.1 ≠ C) → Reps K F' xs ys → Q' ys M' → Q (.ref C) H') :
    tLc (liftI K ti) (liftG K sl g) (liftT K tt) (liftE K te) vs σ H Q := by
  refine ⟨F, ρ, M, _, e, w, t, fun its M1 J H1 F1 s1 ok t1 C hC => ?_⟩
  have e1 := (e.mono s1.same).wipes vs
  have nF1 : F1 C = none := s1.swh.none hC
  have nM1 : ∀ x ∈ M1, x.1 ≠ C := fun x hx => by
    obtain ⟨_, ho, b, _⟩ := s1.swh.mem x hx
    exact ne_of_none b hC
  refine ⟨fun i m H2 => i + m = its.length ∧ ∃ F2 acc xs M2, Stp K F1 H1 M1 F2 H2 M2 ∧ H2 C = some (.lst xs) ∧ F2 C = none ∧ (∀ x ∈ M2, x.1 ≠ C) ∧ Reps K F2 xs acc ∧ dComp g tt te (wipeR ρ vs) (its.drop i) acc M2 Q',
    ⟨its.length, by omega, F1, [], [], M1, (Stp.refl s1.swh).aside hC nF1 nM1 _, upd_same, nF1, nM1, .nil, t1⟩, ?_⟩
  rintro i m H2 ⟨him, F2, acc, xs, M2, s2, hC2, nF2, nM2, r2, t2⟩
  obtain ⟨og, os⟩ := ok i H2 F2 M2 s2.same s2.swh
  by_cases hi : i < its.length
  · obtain ⟨go, yl⟩ := og hi
    rw [List.drop_eq_getElem_cons hi] at t2
    refine .inr ⟨go, fun H' => ∃ F3 acc xs M3, Stp K F1 H1 M1 F3 H' M3 ∧ H' C = some (.lst xs) ∧ F3 C = none ∧ (∀ x ∈ M3, x.1 ≠ C) ∧ Reps K F3 xs acc ∧ dComp g tt te (wipeR ρ vs) (its.drop (i + 1)) acc M3 Q', fun H' z => ⟨m - 1, by omega, by omega, z⟩, fun x H3 y => ?_⟩
    obtain ⟨F3, d, s3, hd3, r3⟩ := yl x H3 y
    rw [List.getElem?_eq_getElem hi] at hd3
    cases hd3
    have e3 := (e1.mono s2.same).mono s3.same
    refine ⟨F3, wipeR ρ vs, M2, _, _, e3, s3.swh, r3, t2, fun ρ4 M4 σ4 H4 F4 s4 e4 o4 t4 => ⟨wipe_off2 (o4.mono hsl), ?_⟩⟩
    refine .of e4 s4.swh t4 fun b M5 H5 F5 s5 e5 t5 => ?_
    have sA := tr2 (tr2 s3 s4) s5
    have sB := tr2 s2 sA
    obtain ⟨hC5, nM5, nn5⟩ := sA.fr C _ hC2 nM2
    cases b with
    | true =>
      refine .of e5 s5.swh t5 fun y M6 v H6 F6 s6 r6 e6 t6 => ?_
      obtain ⟨hC6, nM6, nn6⟩ := s6.fr C _ hC5 nM5
      have nF6 := nn6 (nn5 nF2)
      have r2' := (r2.mono sA.same).mono s6.same
      refine ⟨xs, hC6, by rw [r2'.length]; exact t6.1, F6, acc ++ [y], xs ++ [v], M6, (tr2 sB s6).aside hC nF6 nM6 _, upd_same, nF6, nM6, r2'.append (.cons r6 .nil), t6.2⟩
    | false => exact ⟨F5, acc, xs, M5, sB, hC5, nn5 nF2, nM5, r2.mono sA.same, t5⟩
  · have hd : its.drop i = [] := List.drop_eq_nil_of_le (by omega)
    rw [hd] at t2
    exact .inl ⟨os (by omega), q acc M2 C xs H2 F2 H1 M1 F1 s1 s2 hC hC2 nF2 nM2 r2 t2⟩
theorem lcF_lift {K : PySem.W.Frag} {ti : DTI} {sl vs : List Nat} {g : DTG} {tt : DTT} {te : DTE} (hsl : ∀ x ∈ sl, x ∈ vs) {σ : L2.St} {H : Hp} {Q : VK} (h : liftE K (dLc ti g tt te vs) σ H Q) : tLc (liftI K ti) (liftG K sl g) (liftT K tt) (liftE K te) vs σ H Q := by
  obtain ⟨F, ρ, M, Q', e, w, t, q⟩ := h
  refine lc_lift hsl e w t fun ys M' C xs H' F' H2 M2 F2 s1 s2 hC hC' nF nM r t' => ?_
  have s := tr2 s1 s2
  have sm : Same F' (upd F' C (.lst xs)) := same_upd nF
  refine q _ _ _ _ (upd F' C (.lst xs)) ⟨L2.Same.trans s.same sm, ⟨fun b x e => ?_, fun x hx => ?_, s.swh.nd⟩, fun b o e k => ?_⟩ (.lst upd_same (r.mono sm)) t'
  · rcases upd_in e with ⟨e1, e2⟩ | ⟨e1, e2⟩
    · subst e1 e2; exact hC'
    · exact s.swh.sub _ _ e2
  · obtain ⟨a, ho, b, z⟩ := s.swh.mem x hx
    exact ⟨by rw [upd_ne (nM x hx)]; exact a, ho, b, z.mono sm⟩
  · obtain ⟨x1, x2, x3⟩ := s.fr b o e k
    refine ⟨x1, x2, fun z => ?_⟩
    obtain ⟨y1, _, _⟩ := s1.fr b o e k
    rw [upd_ne (ne_of_none y1 hC)]
    exact x3 z
theorem lcM_lift {K : PySem.W.Frag} {ti : DTI} {sl vs : List Nat} {g : DTG} {tt : DTT} {te : DTE} (hsl : ∀ x ∈ sl, x ∈ vs) {σ : L2.St} {H : Hp} {Q : VK} (h : liftE K (dLcM ti g tt te vs) σ H Q) : tLc (liftI K ti) (liftG K sl g) (liftT K tt) (liftE K te) vs σ H Q := by
  obtain ⟨F, ρ, M, Q', e, w, t, q⟩ := h
  refine lc_lift hsl e w t fun ys M' C xs H' F' H2 M2 F2 s1 s2 hC hC' nF nM r t' => ?_
  have s := tr2 s1 s2
  refine q _ _ _ _ F' ⟨s.same, ⟨s.swh.sub, fun x hx => ?_, ?_⟩, fun b o e k => ?_⟩ (.ptr C) (t' C)
  · rcases List.mem_cons.mp hx with z | z
    · subst z; exact ⟨nF, _, hC', .lst r⟩
    · exact s.swh.mem x z
  · rw [List.map_cons]
    refine List.nodup_cons.mpr ⟨fun hm => ?_, s.swh.nd⟩
    obtain ⟨x, hx, e⟩ := List.mem_map.mp hm
    exact nM x hx e
  · obtain ⟨x1, x2, x3⟩ := s.fr b o e k
    obtain ⟨y1, _, _⟩ := s1.fr b o e k
    refine ⟨x1, fun x hx => ?_, x3⟩
    rcases List.mem_cons.mp hx with z | z
    · subst z; exact (ne_of_none y1 hC).symm
    · exact x2 x z
/-- the tests of a comprehension -/
def DTs (X : Cx) (ifs : List Expr) (T : DTT) : Prop := PTs X ifs (liftT X.K T)
def dYes : DTT := fun _ M Q => Q true M
theorem dts_nil : DTs X [] dYes := ⟨fun pins s σ H Q I ⟨F, ρ, M, Q', e, w, t, q⟩ => pts_nil.run pins s σ H Q I (q _ _ _ F (Stp.refl w) t)⟩
theorem dts_one {c : Expr} {T : DTT} (h : DT X c T) : DTs X [c] T := pts_one h
section lc
variable {elt tg iter : Expr} {ifs : List Expr} {scope : Scope} {own : List (Str × Nat)} {ti : DTI} {sl : List Nat} {g : DTG} {tt : DTT} {te : DTE}
theorem de_lc (own : List (Str × Nat)) (hc : X.calm = true) (hN : X.N.Nodup) (hi : DI X tg iter ti) (ok : BlkOk X.N X.env.scope scope own) (hsl : ∀ x ∈ sl, x ∈ own.map (·.2))
    (hg : ∀ (s : Shared) (H : Hp) (C : Addr) (cl : List (Str × Addr)) (fp : List Addr), DG (X.blk s H scope (compEnvC scope cl C X.env) fp) tg sl g) (ht : ∀ (s : Shared) (H : Hp) (C : Addr) (cl : List (Str × Addr)) (fp : List Addr), DTs (X.blk s H scope (compEnvC scope cl C X.env) fp) ifs tt)
    (he : ∀ (s : Shared) (H : Hp) (C : Addr) (cl : List (Str × Addr)) (fp : List Addr), DE (X.blk s H scope (compEnvC scope cl C X.env) fp) elt te) (hs : ∀ x, foldedSetIterable iter X.env x = pure x := by intro _; rfl) :
    DE X (.ListComp elt [⟨tg, iter, ifs, 0⟩] scope pos) (dLc ti g tt te (own.map (·.2))) := pe_imp (pe_lc (g := liftG X.K sl g) (tt := liftT X.K tt) (te := liftE X.K te) hc hN hi ok hg ht he hs) fun _ _ _ h => lcF_lift hsl h
theorem de_lcM (own : List (Str × Nat)) (hc : X.calm = true) (hN : X.N.Nodup) (hi : DI X tg iter ti) (ok : BlkOk X.N X.env.scope scope own) (hsl : ∀ x ∈ sl, x ∈ own.map (·.2))
    (hg : ∀ (s : Shared) (H : Hp) (C : Addr) (cl : List (Str × Addr)) (fp : List Addr), DG (X.blk s H scope (compEnvC scope cl C X.env) fp) tg sl g) (ht : ∀ (s : Shared) (H : Hp) (C : Addr) (cl : List (Str × Addr)) (fp : List Addr), DTs (X.blk s H scope (compEnvC scope cl C X.env) fp) ifs tt)
    (he : ∀ (s : Shared) (H : Hp) (C : Addr) (cl : List (Str × Addr)) (fp : List Addr), DE (X.blk s H scope (compEnvC scope cl C X.env) fp) elt te) (hs : ∀ x, foldedSetIterable iter X.env x = pure x := by intro _; rfl) :
    DE X (.ListComp elt [⟨tg, iter, ifs, 0⟩] scope pos) (dLcM ti g tt te (own.map (·.2))) := pe_imp (pe_lc (g := liftG X.K sl g) (tt := liftT X.K tt) (te := liftE X.K te) hc hN hi ok hg ht he hs) fun _ _ _ h => lcM_lift hsl h
theorem asg_imp {t u : TE} {g : TG} {D : Ends} {σ : L2.St} {H : Hp} (k : ∀ σ H Q, u σ H Q → t σ H Q) (h : tAsg u g D σ H) : tAsg t g D σ H := k _ _ _ h
theorem ds_setLc (own : List (Str × Nat)) {i : Nat} {y : Str} {py spos : Pos} (hc : X.calm = true) (hN : X.N.Nodup) (hy : X.N[i]? = some y) (hyl : X.env.scope.names.lookup y = some .local)
    (hsw : swapsWith (.ListComp elt [⟨tg, iter, ifs, 0⟩] scope pos) (some (.Name y py)) spos.line X.env = pure true) (hi : DI X tg iter ti) (ok : BlkOk X.N X.env.scope scope own) (hsl : ∀ x ∈ sl, x ∈ own.map (·.2))
    (hg : ∀ (s : Shared) (H : Hp) (C : Addr) (cl : List (Str × Addr)) (fp : List Addr), DG (X.blk s H scope (compEnvC scope cl C X.env) fp) tg sl g) (ht : ∀ (s : Shared) (H : Hp) (C : Addr) (cl : List (Str × Addr)) (fp : List Addr), DTs (X.blk s H scope (compEnvC scope cl C X.env) fp) ifs tt)
    (he : ∀ (s : Shared) (H : Hp) (C : Addr) (cl : List (Str × Addr)) (fp : List Addr), DE (X.blk s H scope (compEnvC scope cl C X.env) fp) elt te) (hs : ∀ x, foldedSetIterable iter X.env x = pure x := by intro _; rfl) :
    DS X (.Assign [.Name y py] (.ListComp elt [⟨tg, iter, ifs, 0⟩] scope pos) spos) (dAsg (dLc ti g tt te (own.map (·.2))) (dName i)) :=
  ps_imp (ps_setLc (g := liftG X.K sl g) (tt := liftT X.K tt) (te := liftE X.K te) hc hN hy hyl hsw hi ok hg ht he hs) fun _ _ _ h => asg_imp (fun _ _ _ z => lcF_lift hsl z) (set_lift h)
theorem ds_setLcM (own : List (Str × Nat)) {i : Nat} {y : Str} {py spos : Pos} (hc : X.calm = true) (hN : X.N.Nodup) (hy : X.N[i]? = some y) (hyl : X.env.scope.names.lookup y = some .local)
    (hsw : swapsWith (.ListComp elt [⟨tg, iter, ifs, 0⟩] scope pos) (some (.Name y py)) spos.line X.env = pure true) (hi : DI X tg iter ti) (ok : BlkOk X.N X.env.scope scope own) (hsl : ∀ x ∈ sl, x ∈ own.map (·.2))
    (hg : ∀ (s : Shared) (H : Hp) (C : Addr) (cl : List (Str × Addr)) (fp : List Addr), DG (X.blk s H scope (compEnvC scope cl C X.env) fp) tg sl g) (ht : ∀ (s : Shared) (H : Hp) (C : Addr) (cl : List (Str × Addr)) (fp : List Addr), DTs (X.blk s H scope (compEnvC scope cl C X.env) fp) ifs tt)
    (he : ∀ (s : Shared) (H : Hp) (C : Addr) (cl : List (Str × Addr)) (fp : List Addr), DE (X.blk s H scope (compEnvC scope cl C X.env) fp) elt te) (hs : ∀ x, foldedSetIterable iter X.env x = pure x := by intro _; rfl) :
    DS X (.Assign [.Name y py] (.ListComp elt [⟨tg, iter, ifs, 0⟩] scope pos) spos) (dAsg (dLcM ti g tt te (own.map (·.2))) (dName i)) :=
  ps_imp (ps_setLc (g := liftG X.K sl g) (tt := liftT X.K tt) (te := liftE X.K te) hc hN hy hyl hsw hi ok hg ht he hs) fun _ _ _ h => asg_imp (fun _ _ _ z => lcM_lift hsl z) (set_lift h)
end lc
end
end DL

set_option Elab.async false
set_option linter.all false
set_option maxRecDepth 100000
set_option maxHeartbeats 4000000
namespace DL
open PySem PySem.Spec PyProof.Rows L2
section
variable {X : Cx} {pos : Pos}
/-! ### items -/
theorem Reps.atI {K : PySem.W.Frag} {F : Hp} {vs : List V} {ds : List DL.D} {i : Int} {d : DL.D} (r : Reps K F vs ds) (h : atI ds i = some d) : ∃ v, L2.atI vs i = some v ∧ Rep K F v d := by
  unfold L2.atI at h ⊢
  rw [r.length]
  cases e : ixN ds.length i with
  | none => rw [e] at h; cases h
  | some j =>
    rw [e] at h
    exact r.get' (i := j) h
def rIxD : DR2 := fun x y M Q => match x, y with
  | .tup ds, .int i => ∃ d, atI ds i = some d ∧ Q d M
  | .lst ds, .int i => ∃ d, atI ds i = some d ∧ Q d M
  | .scr ds, .int i => ∃ d, atI ds i = some d ∧ Q d M
  | .ptr p, .int i => ∃ ds d, (p, .lst ds) ∈ M ∧ atI ds i = some d ∧ Q d M
  | .str z, .int i => z.length ≤ sizeLine ∧ ∃ c, atI z.cps.toList i = some c ∧ Q (.str ⟨#[c]⟩) M
  | _, _ => False
theorem ref_ix {K : PySem.W.Frag} : OpRef K (rIx K) rIxD := by
  intro F H M v u x y Q Q' w r1 r2 t q
  cases r1 <;> cases r2 <;> first | exact t.elim | skip
  · obtain ⟨hz, c, hc, t⟩ := t
    exact .inr (.inr ⟨_, _, _, rfl, rfl, hz, hc, q _ _ _ _ F (Stp.refl w) (.str _) t⟩)
  · obtain ⟨ds, d, hm, hd, t⟩ := t
    obtain ⟨ho, e, z⟩ := w.at hm
    cases z with
    | lst z =>
      obtain ⟨v, hv, rv⟩ := z.atI hd
      exact .inl ⟨_, _, _, _, rfl, rfl, SqL.of e, hv, q _ _ _ _ F (Stp.refl w) rv t⟩
  · rename_i h1 g _
    obtain ⟨d, hd, t⟩ := t
    obtain ⟨v, hv, rv⟩ := g.atI hd
    exact .inr (.inl ⟨_, _, _, _, rfl, rfl, sqT_mono w.sub h1, hv, q _ _ _ _ F (Stp.refl w) rv t⟩)
  · rename_i h1 g _
    obtain ⟨d, hd, t⟩ := t
    obtain ⟨v, hv, rv⟩ := g.atI hd
    exact .inl ⟨_, _, _, _, rfl, rfl, SqL.of (w.sub _ _ h1), hv, q _ _ _ _ F (Stp.refl w) rv t⟩
  · rename_i h1 g _
    obtain ⟨d, hd, t⟩ := t
    obtain ⟨v, hv, rv⟩ := g.atI hd
    exact .inl ⟨_, _, _, _, rfl, rfl, w.sub.seq h1, hv, q _ _ _ _ F (Stp.refl w) rv t⟩
theorem de_ix {a b : Expr} {Ta Tb : DTE} (ha : DE X a Ta) (hb : DE X b Tb) (hs : PlainIx b := by exact fun _ _ => rfl) : DE X (.Subscript a b pos) (dOp rIxD Ta Tb) :=
  pe_imp (pe_ix ix_seq ha hb hs) fun _ _ _ h => op_lift ref_ix h

/-! ### slices -/
abbrev DTO := Rho → MM → (Option Int → MM → Prop) → Prop
def liftO (K : PySem.W.Frag) (T : DTO) : TO := fun σ H Q => ∃ F ρ M Q', EnvR K F σ ρ ∧ SWH K H F M ∧ T ρ M Q' ∧ ∀ b M' H' F', Stp K F H M F' H' M' → Q' b M' → Q b H'
def DO (X : Cx) (e : Option Expr) (T : DTO) : Prop := PO X e (liftO X.K T)
def dNoPart : DTO := fun _ M Q => Q none M
def dPart (Te : DTE) : DTO := fun ρ M Q => Te ρ M fun x M1 => match x with
  | .int i => Q (some i) M1
  | _ => False
theorem po_imp {e : Option Expr} {t u : TO} (h : PO X e t) (k : ∀ σ H Q, u σ H Q → t σ H Q) : PO X e u := ⟨fun pins s σ H Q I q => h.run pins s σ H Q I (k σ H Q q)⟩
theorem do_none : DO X none dNoPart := po_imp po_none fun σ H Q ⟨F, ρ, M, Q', e, w, t, q⟩ => q _ _ _ F (Stp.refl w) t
theorem do_some {e : Expr} {Te : DTE} (h : DE X e Te) : DO X (some e) (dPart Te) := po_imp (po_some h) fun σ H Q ⟨F, ρ, M, Q', e, w, t, q⟩ => .of e w t fun x M1 v H1 F1 s1 r1 e1 t1 => by
  cases r1 <;> first | exact t1.elim | skip
  exact ⟨_, rfl, q _ _ _ _ s1 t1⟩
def cutD {α : Type} (xs : List α) (lo hi : Option Int) : List α := (xs.drop (HT.sIx xs.length 0 lo)).take (HT.sIx xs.length xs.length hi - HT.sIx xs.length 0 lo)
theorem Reps.cut {K : PySem.W.Frag} {F : Hp} {vs : List V} {ds : List DL.D} (r : Reps K F vs ds) (lo hi : Option Int) : Reps K F (cutV vs lo hi) (cutD ds lo hi) := by
  unfold cutV cutD
  rw [r.length]
  exact (r.drop _).take _
def rSlD : DL.D → Option Int → Option Int → MM → QE → Prop := fun x lo hi M Q => match x with
  | .tup ds => Q (.tup (cutD ds lo hi)) M
  | .lst ds => Q (.lst (cutD ds lo hi)) M
  | .scr ds => Q (.lst (cutD ds lo hi)) M
  | .ptr p => ∃ ds, (p, .lst ds) ∈ M ∧ Q (.lst (cutD ds lo hi)) M
  | .str z => z.length ≤ sizeLine ∧ Q (.str (cutS z lo hi)) M
  | _ => False
def rSlV (K : PySem.W.Frag) : V → Option Int → Option Int → Hp → VK → Prop := fun x lo hi H Q => rSlL K x lo hi H Q ∨ (rSlA K x lo hi H Q ∨ rSlS x lo hi H Q)
theorem sl_all : SlR X (rSlV X.K) := sl_list.or (sl_tupA.or sl_str)
theorem sl_ref {K : PySem.W.Frag} {F H : Hp} {M : MM} {v : V} {x : DL.D} {lo hi : Option Int} {Q : VK} {Q' : QE} (w : SWH K H F M) (r : Rep K F v x) (t : rSlD x lo hi M Q')
    (q : ∀ d M' v' H' F', Stp K F H M F' H' M' → Rep K F' v' d → Q' d M' → Q v' H') : rSlV K v lo hi H Q := by
  have go : ∀ (a : Addr) (vs : List V) (ds : List DL.D), v = .ref a → SqL K H a vs → Reps K F vs ds → Q' (.lst (cutD ds lo hi)) M → rSlV K v lo hi H Q := fun a vs ds e h g z =>
    .inl ⟨a, vs, e, h, fun p hp => by
      have s := w.newF hp (.lst (cutV vs lo hi))
      exact q _ _ _ _ _ s (.lst upd_same ((g.cut lo hi).mono s.same)) z⟩
  cases r <;> first | exact t.elim | skip
  · exact .inr (.inr ⟨_, rfl, t.1, q _ _ _ _ F (Stp.refl w) (.str _) t.2⟩)
  · obtain ⟨ds, hm, t⟩ := t
    obtain ⟨ho, e, z⟩ := w.at hm
    cases z with
    | lst z => exact go _ _ _ rfl (SqL.of e) z t
  · rename_i a vs ds h1 g
    refine .inr (.inl ⟨a, vs, rfl, sqT_mono w.sub h1, fun ⟨e1, e2⟩ => ?_, fun _ p hp => ?_⟩)
    · have hcut : cutD ds lo hi = ds := by
        unfold cutD
        rw [← g.length, e1, e2, List.drop_zero, Nat.sub_zero, g.length]
        exact List.take_length
      have t : Q' (.tup (cutD ds lo hi)) M := t
      rw [hcut] at t
      exact q _ _ _ _ F (Stp.refl w) (.tup h1 g) t
    · have s := w.newF hp (.tup (cutV vs lo hi))
      exact q _ _ _ _ _ s (.tup (.inl (.inl upd_same)) ((g.cut lo hi).mono s.same)) t
  · rename_i a vs ds h1 g
    exact go _ _ _ rfl (SqL.of (w.sub _ _ h1)) g t
  · rename_i a vs ds h1 g
    exact go _ _ _ rfl (w.sub.seq h1) g t
def dSl (Te : DTE) (Tl Th : DTO) : DTE := fun ρ M Q => Te ρ M fun x M1 => Tl ρ M1 fun l M2 => Th ρ M2 fun h M3 => rSlD x l h M3 Q
theorem de_slice {e : Expr} {lo hi : Option Expr} {p2 : Pos} {Te : DTE} {Tl Th : DTO} (he : DE X e Te) (hl : DO X lo Tl) (hh : DO X hi Th) : DE X (.Subscript e (.Slice lo hi none p2) pos) (dSl Te Tl Th) :=
  pe_imp (pe_slice sl_all he hl hh) fun σ H Q ⟨F, ρ, M, Q', e, w, t, q⟩ => .of e w t fun x M1 v H1 F1 s1 r1 e1 t1 =>
    ⟨F1, ρ, M1, _, e1, s1.swh, t1, fun l M2 H2 F2 s2 t2 => ⟨F2, ρ, M2, _, e1.mono s2.same, s2.swh, t2, fun h M3 H3 F3 s3 t3 =>
      sl_ref s3.swh ((r1.mono s2.same).mono s3.same) t3 fun d M' v' H' F' s4 r4 t4 => q d M' v' H' F' (tr2 s1 (tr2 s2 (tr2 s3 s4))) r4 t4⟩⟩

/-! ### a list's item stored, its methods -/
/-- the object at p is changed from o to o' -/
def Chg (M : MM) (p : Addr) (o o' : MO) (M' : MM) : Prop := ∃ A B, M = A ++ (p, o) :: B ∧ M' = A ++ (p, o') :: B
theorem Chg.here {p : Addr} {o o' : MO} {M : MM} : Chg ((p, o) :: M) p o o' ((p, o') :: M) := ⟨[], M, rfl, rfl⟩
theorem Chg.there {p : Addr} {o o' : MO} {M M' : MM} {x : Addr × MO} (h : Chg M p o o' M') : Chg (x :: M) p o o' (x :: M') := by
  obtain ⟨A, B, rfl, rfl⟩ := h
  exact ⟨x :: A, B, rfl, rfl⟩
theorem Chg.mid {p : Addr} {o o' : MO} {A B : MM} : Chg (A ++ (p, o) :: B) p o o' (A ++ (p, o') :: B) := ⟨A, B, rfl, rfl⟩
def dgSubL (To Ti : DTE) : DTG := fun d ρ M Q => To ρ M fun o M1 => Ti ρ M1 fun i M2 => match o, i with
  | .ptr p, .int k => ∃ ds j M3, ixN ds.length k = some j ∧ Chg M2 p (.lst ds) (.lst (ds.set j d)) M3 ∧ Q ρ M3
  | _, _ => False
theorem dg_subL {o i : Expr} {To Ti : DTE} (ho : DE X o To) (hi : DE X i Ti)
    (ha : ∀ v, assign (.Subscript o i pos) X.env v = (do
      let ov ← holding [v] (eval o X.env)
      let iv ← holding [v, ov] (eval i X.env)
      standAt pos
      holding [v, ov, iv] (setItem ov iv v)
      release [v, ov, iv] []) := by intro _; rfl) : DG X (.Subscript o i pos) [] (dgSubL To Ti) :=
  pg_imp (pg_sub ho hi set_list ha) fun v σ H Q ⟨F, ρ, M, d, Q', e, w, r, t, q⟩ => .of e w t fun x M1 v1 H1 F1 s1 r1 e1 t1 => .of e1 s1.swh t1 fun y M2 v2 H2 F2 s2 r2 e2 t2 => by
    have r1' := r1.mono s2.same
    cases r1' <;> cases r2 <;> first | exact t2.elim | skip
    obtain ⟨ds, j, M3, hj, ⟨A, B, rfl, rfl⟩, t3⟩ := t2
    rename_i p i
    obtain ⟨ho, eH, z⟩ := s2.swh.at (p := p) (m := .lst ds) (by simp)
    cases z with
    | lst z =>
      refine ⟨_, _, _, j, rfl, rfl, eH, by rw [z.length]; exact hj, ?_⟩
      have sA := tr2 s1 s2
      have s3 := s2.swh.put (RepO.lst (z.set (r.mono sA.same) j))
      exact q ρ _ σ _ F2 (tr2 sA s3) e2 (Off.refl _ _) t3
def MtRef (K : PySem.W.Frag) (r : V → List V → Hp → VK → Prop) (R : DL.D → List DL.D → MM → QE → Prop) : Prop := ∀ (F H : Hp) (M : MM) (v : V) (x : DL.D) (vs : List V) (xs : List DL.D) (Q : VK) (Q' : QE), SWH K H F M → Rep K F v x → Reps K F vs xs → R x xs M Q' →
  (∀ d M' v' H' F', Stp K F H M F' H' M' → Rep K F' v' d → Q' d M' → Q v' H') → r v vs H Q
/-- what a built-in type's method is asked of -/
def TyD (T : String) (M : MM) : DL.D → Prop
  | .str _ => T = "str"
  | .int _ => T = "int"
  | .tup _ => T = "tuple"
  | .lst _ => T = "list"
  | .scr _ => T = "list"
  | .ptr p => T = "list" ∧ ∃ ds, (p, .lst ds) ∈ M
  | _ => False
def dBM0 (T : String) (R : DL.D → List DL.D → MM → QE → Prop) (To : DTE) : DTE := fun ρ M Q => To ρ M fun x M1 => TyD T M1 x ∧ R x [] M1 Q
def dBM (T : String) (R : DL.D → List DL.D → MM → QE → Prop) (To : DTE) (Ta : DTA) : DTE := fun ρ M Q => To ρ M fun x M1 => TyD T M1 x ∧ Ta ρ M1 fun xs M2 => R x xs M2 Q
theorem TyD.ty {K : PySem.W.Frag} {F H : Hp} {M : MM} {T : String} {v : V} {x : DL.D} (w : SWH K H F M) (r : Rep K F v x) (h : TyD T M x) (ht : T ≠ "tuple") : tyV K T v H := by
  cases r <;> first | exact h.elim | exact h | skip
  · obtain ⟨e, ds, hm⟩ := h
    obtain ⟨ho, e2, z⟩ := w.at hm
    cases z with
    | lst z => exact .inl ⟨e, _, SqL.of e2⟩
  · exact absurd h ht
  · rename_i h1 g
    exact .inl ⟨h, _, SqL.of (w.sub _ _ h1)⟩
  · rename_i h1 g
    exact .inl ⟨h, _, w.sub.seq h1⟩
section bm
variable {o e : Expr} {es : List Expr} {To : DTE} {T : DTA} {name : Str} {apos cpos : Pos} {Ty id : String} {r : V → List V → Hp → VK → Prop} {R : DL.D → List DL.D → MM → QE → Prop}
theorem de_bm0 (pa : PlainAttrs Ty) (slot : Slot Ty name id) (hty : typeOf (.builtin id) = pure (.type "method_descriptor")) (hm : MtR X id r) (hr : MtRef X.K r R) (ho : DE X o To) (ht : Ty ≠ "tuple" := by decide)
    (hbase : attributeBase o name X.env (eval o X.env) = eval o X.env := by rfl) (hline : (apos.endLine == cpos.line) = true := by rfl) : DE X (.Call (.Attribute o name apos) [] [] cpos) (dBM0 Ty R To) :=
  pe_imp (pe_bm0 pa slot hty hm ho hbase hline) fun σ H Q ⟨F, ρ, M, Q', e, w, t, q⟩ => .of e w t fun x M1 v H1 F1 s1 r1 e1 t1 =>
    ⟨t1.1.ty s1.swh r1 ht, hr F1 H1 M1 v x [] [] Q Q' s1.swh r1 .nil t1.2 fun d M' v' H' F' s2 r2 t2 => q d M' v' H' F' (tr2 s1 s2) r2 t2⟩
theorem de_bm (pa : PlainAttrs Ty) (slot : Slot Ty name id) (hty : typeOf (.builtin id) = pure (.type "method_descriptor")) (hm : MtR X id r) (hr : MtRef X.K r R) (ho : DE X o To) (ha : DA X (e :: es) T) (ht : Ty ≠ "tuple" := by decide)
    (hbase : attributeBase o name X.env (eval o X.env) = eval o X.env := by rfl)
    (hfew : ((backTo cpos (starEach (e :: es) X.env)).all (fun x => !x.1) && (backToKw cpos (keywordEach [] X.env)).all (fun x => x.1.isSome)
      && decide ((e :: es).length + ([] : List Keyword).length + (if ([] : List Keyword).isEmpty then 0 else 1) < 30)) = true := by rfl)
    (hline : (apos.endLine == cpos.line) = true := by rfl) (hs : starEach (e :: es) X.env = (false, eval e X.env) :: starEach es X.env := by rfl) (hplain : (backTo cpos (starEach es X.env)).any (·.1) = false := by rfl) :
    DE X (.Call (.Attribute o name apos) (e :: es) [] cpos) (dBM Ty R To T) :=
  pe_imp (pe_bm pa slot hty hm ho ha hbase hfew hline hs hplain) fun σ H Q ⟨F, ρ, M, Q', e, w, t, q⟩ => .of e w t fun x M1 v H1 F1 s1 r1 e1 t1 =>
    ⟨t1.1.ty s1.swh r1 ht, .of e1 s1.swh t1.2 fun xs M2 vs H2 F2 s2 r2 e2 t2 => hr F2 H2 M2 v x vs xs Q Q' s2.swh (r1.mono s2.same) r2 t2 fun d M' v' H' F' s3 r3 t3 => q d M' v' H' F' (tr2 s1 (tr2 s2 s3)) r3 t3⟩
end bm
def rAppendD : DL.D → List DL.D → MM → QE → Prop := fun x xs M Q => match x, xs with
  | .ptr p, [d] => ∃ ds M', ds.length < sizeLine ∧ Chg M p (.lst ds) (.lst (ds ++ [d])) M' ∧ Q .non M'
  | _, _ => False
theorem ref_append {K : PySem.W.Frag} : MtRef K L2.rAppend rAppendD := by
  intro F H M v x vs xs Q Q' w r rs t q
  cases r <;> first | exact t.elim | skip
  rename_i p
  cases rs with
  | nil => exact t.elim
  | cons r1 rs => cases rs with
    | cons _ _ => exact t.elim
    | nil =>
      obtain ⟨ds, M', hl, ⟨A, B, rfl, rfl⟩, t⟩ := t
      obtain ⟨ho, eH, z⟩ := w.at (p := p) (m := .lst ds) (by simp)
      cases z with
      | lst z =>
        exact ⟨p, _, _, rfl, rfl, eH, by rw [z.length]; exact hl, q _ _ _ _ F (w.put (RepO.lst (z.append (.cons r1 .nil)))) .non t⟩
/-- items of a list by itself in the heap -/
def ItemsH (M : MM) : DL.D → List DL.D → Prop
  | .lst xs, ys => xs = ys
  | .ptr p, ys => (p, .lst ys) ∈ M
  | _, _ => False
theorem ItemsH.at {K : PySem.W.Frag} {H F : Hp} {M : MM} (w : SWH K H F M) {v : V} {d : DL.D} {xs : List DL.D} (r : Rep K F v d) (h : ItemsH M d xs) : ∃ a vs, v = .ref a ∧ H a = some (.lst vs) ∧ Reps K F vs xs := by
  cases r <;> first | exact h.elim | skip
  · obtain ⟨ho, e, q⟩ := w.at h
    cases q with
    | lst q => exact ⟨_, _, rfl, e, q⟩
  · rename_i a vs ds h1 h2
    have h : ds = xs := h
    subst h
    exact ⟨_, _, rfl, w.sub _ _ h1, h2⟩
def rExtendD : DL.D → List DL.D → MM → QE → Prop := fun x xs M Q => match x, xs with
  | .ptr p, [y] => ∃ ds zs M', ItemsH M y zs ∧ ds.length + zs.length ≤ sizeLine ∧ Chg M p (.lst ds) (.lst (ds ++ zs)) M' ∧ Q .non M'
  | _, _ => False
theorem ref_extend {K : PySem.W.Frag} : MtRef K L2.rExtend rExtendD := by
  intro F H M v x vs xs Q Q' w r rs t q
  cases r <;> first | exact t.elim | skip
  rename_i p
  cases rs with
  | nil => exact t.elim
  | cons r1 rs => cases rs with
    | cons _ _ => exact t.elim
    | nil =>
      obtain ⟨ds, zs, M', hz, hl, ⟨A, B, rfl, rfl⟩, t⟩ := t
      obtain ⟨ho, eH, z⟩ := w.at (p := p) (m := .lst ds) (by simp)
      obtain ⟨a, us, rfl, ea, ra⟩ := hz.at w r1
      cases z with
      | lst z =>
        exact ⟨p, a, _, _, rfl, rfl, eH, ea, by rw [z.length, ra.length]; exact hl, q _ _ _ _ F (w.put (RepO.lst (z.append ra))) .non t⟩
def rPopD : DL.D → List DL.D → MM → QE → Prop := fun x xs M Q => match x, xs with
  | .ptr p, [] => ∃ ds d M', ds[ds.length - 1]? = some d ∧ Chg M p (.lst ds) (.lst ds.dropLast) M' ∧ Q d M'
  | _, _ => False
theorem ref_pop {K : PySem.W.Frag} : MtRef K L2.rPop rPopD := by
  intro F H M v x vs xs Q Q' w r rs t q
  cases r <;> first | exact t.elim | skip
  rename_i p
  cases rs with
  | cons _ _ => exact t.elim
  | nil =>
      obtain ⟨ds, d, M', hd, ⟨A, B, rfl, rfl⟩, t⟩ := t
      obtain ⟨ho, eH, z⟩ := w.at (p := p) (m := .lst ds) (by simp)
      cases z with
      | lst z =>
        obtain ⟨v, hv, rv⟩ := z.get' hd
        exact ⟨p, _, v, rfl, rfl, eH, by rw [z.length]; exact hv, q _ _ _ _ F (w.put (RepO.lst z.dropLast)) rv t⟩
def rPopAtD : DL.D → List DL.D → MM → QE → Prop := fun x xs M Q => match x, xs with
  | .ptr p, [.int i] => ∃ ds k d M', -(2 ^ 63) ≤ i ∧ i < 2 ^ 63 ∧ seqIndex? i ds.length = some k ∧ ds[k]? = some d ∧ Chg M p (.lst ds) (.lst (ds.eraseIdx k)) M' ∧ Q d M'
  | _, _ => False
theorem ref_popAt {K : PySem.W.Frag} : MtRef K L2.rPopAt rPopAtD := by
  intro F H M v x vs xs Q Q' w r rs t q
  cases r <;> first | exact t.elim | skip
  rename_i p
  cases rs with
  | nil => exact t.elim
  | cons r1 rs => cases rs with
    | cons _ _ => cases r1 <;> exact t.elim
    | nil =>
      cases r1 <;> first | exact t.elim | skip
      obtain ⟨ds, k, d, M', h1, h2, hs, hd, ⟨A, B, rfl, rfl⟩, t⟩ := t
      obtain ⟨ho, eH, z⟩ := w.at (p := p) (m := .lst ds) (by simp)
      cases z with
      | lst z =>
        obtain ⟨v, hv, rv⟩ := z.get' hd
        exact ⟨p, _, _, k, v, rfl, rfl, eH, h1, h2, by rw [z.length]; exact hs, hv, q _ _ _ _ F (w.put (RepO.lst (z.eraseIdx k))) rv t⟩

/-! ### a list times a number -/
def rMulD : DR2 := fun x y M Q => match x, y with
  | .int i, .int j => IntMulOk i j ∧ Q (.int (i * j)) M
  | .lst ds, .int k => -(2 ^ 63) ≤ k ∧ k < 2 ^ 63 ∧ ds.length * k.toNat ≤ sizeLine ∧ Q (.lst (List.replicate k.toNat ds).flatten) M
  | _, _ => False
def rMulM : DR2 := fun x y M Q => match x, y with
  | .lst ds, .int k => -(2 ^ 63) ≤ k ∧ k < 2 ^ 63 ∧ ds.length * k.toNat ≤ sizeLine ∧ ∀ p, Q (.ptr p) ((p, .lst (List.replicate k.toNat ds).flatten) :: M)
  | _, _ => False
theorem Reps.rep {K : PySem.W.Frag} {F : Hp} {vs : List V} {ds : List DL.D} (r : Reps K F vs ds) : ∀ k : Nat, Reps K F (List.replicate k vs).flatten (List.replicate k ds).flatten
  | 0 => .nil
  | k + 1 => by
    rw [List.replicate_succ, List.replicate_succ, List.flatten_cons, List.flatten_cons]
    exact r.append (Reps.rep r k)
def rMulV : R2 := fun x y H Q => rI IntMulOk (fun i j => .int (i * j)) x y H Q ∨ rRep x y H Q
theorem op_mulI : OpR X (binaryOp .Mult) (rI IntMulOk fun i j => .int (i * j)) := opI fun _ _ _ _ _ _ _ hc q => mul_int q hc
theorem op_mulV : OpR X (binaryOp .Mult) rMulV := op_mulI.or op_rep
theorem ref_mul {K : PySem.W.Frag} : OpRef K rMulV rMulD := by
  intro F H M v u x y Q Q' w r1 r2 t q
  cases r1 <;> cases r2 <;> first | exact t.elim | skip
  · exact .inl ⟨_, _, rfl, rfl, t.1, q _ _ _ _ F (Stp.refl w) (.int _) t.2⟩
  · rename_i a us ds h1 g i
    refine .inr ⟨_, _, _, rfl, rfl, w.sub _ _ h1, t.1, t.2.1, by rw [g.length]; exact t.2.2.1, fun p hp => ?_⟩
    have s := w.newF hp (.lst (List.replicate i.toNat us).flatten)
    exact q _ _ _ _ _ s (.lst upd_same ((g.rep _).mono s.same)) t.2.2.2
theorem ref_mulM {K : PySem.W.Frag} : OpRef K rRep rMulM := by
  intro F H M v u x y Q Q' w r1 r2 t q
  cases r1 <;> cases r2 <;> first | exact t.elim | skip
  rename_i h1 g _
  exact ⟨_, _, _, rfl, rfl, w.sub _ _ h1, t.1, t.2.1, by rw [g.length]; exact t.2.2.1, fun p hp => q _ _ _ _ _ (w.newM hp (.lst (g.rep _))) (.ptr p) (t.2.2.2 p)⟩
theorem de_mul {a b : Expr} {Ta Tb : DTE} (ha : DE X a Ta) (hb : DE X b Tb) : DE X (.BinOp a .Mult b pos) (dOp rMulD Ta Tb) := de_op op_mulV ref_mul ha hb
theorem de_mulM {a b : Expr} {Ta Tb : DTE} (ha : DE X a Ta) (hb : DE X b Tb) : DE X (.BinOp a .Mult b pos) (dOp rMulM Ta Tb) := de_op op_rep ref_mulM ha hb
theorem mul_small {i j : Int} (h : (-(2 ^ 64) < i ∧ i < 2 ^ 64) ∨ (-(2 ^ 64) < j ∧ j < 2 ^ 64)) : IntMulOk i j := CMul.ok h

/-! ### in, over ints, bools, texts -/
def flatD : DL.D → Bool
  | .non => true
  | .bl _ => true
  | .int _ => true
  | .str _ => true
  | _ => false
def D.v : DL.D → V
  | .non => .non
  | .bl b => .bl b
  | .int i => .int i
  | .str s => .str s
  | _ => .non
theorem Rep.flat {K : PySem.W.Frag} {F : Hp} {v : V} {d : DL.D} (r : Rep K F v d) (h : flatD d = true) : v = d.v ∧ flatV v = true := by
  cases r <;> first | exact ⟨rfl, rfl⟩ | cases h
theorem Reps.flat {K : PySem.W.Frag} {F : Hp} : ∀ {vs : List V} {ds : List DL.D}, Reps K F vs ds → ds.all flatD = true → vs = ds.map D.v ∧ vs.all flatV = true
  | _, _, .nil, _ => ⟨rfl, rfl⟩
  | _, _, .cons a b, h => by
    rw [List.all_cons, Bool.and_eq_true] at h
    obtain ⟨e1, f1⟩ := a.flat h.1
    obtain ⟨e2, f2⟩ := Reps.flat b h.2
    exact ⟨by rw [List.map_cons, ← e1, ← e2], by rw [List.all_cons, f1, f2]; rfl⟩
def inD (x : DL.D) (ys : List DL.D) : Bool := inV x.v (ys.map D.v)
def rInD (neg : Bool) : DR2 := fun x y M Q => ∃ ys, Items M y ys ∧ flatD x = true ∧ ys.all flatD = true ∧ Q (.bl (if neg then !inD x ys else inD x ys)) M
theorem ref_in {K : PySem.W.Frag} (neg : Bool) : OpRef K (rIn K neg) (rInD neg) := by
  intro F H M v u x y Q Q' w r1 r2 t q
  obtain ⟨ys, hy, fx, fy, t⟩ := t
  obtain ⟨a, vs, rfl, h, g⟩ := hy.sq w r2
  obtain ⟨e1, f1⟩ := r1.flat fx
  obtain ⟨e2, f2⟩ := g.flat fy
  refine ⟨a, vs, rfl, h.imp id And.left, f1, f2, ?_⟩
  rw [e1, e2]
  exact q _ _ _ _ F (Stp.refl w) (.bl _) t
theorem de_in {a b : Expr} {Ta Tb : DTE} (ha : DE X a Ta) (hb : DE X b Tb) (hm : behindInMarks .In b = false := by rfl) : DE X (.Compare a [.In] [b] pos) (dOp (rInD false) Ta Tb) := de_cmp op_in_seq (ref_in false) ha hb hm
theorem de_notin {a b : Expr} {Ta Tb : DTE} (ha : DE X a Ta) (hb : DE X b Tb) (hm : behindInMarks .NotIn b = false := by rfl) : DE X (.Compare a [.NotIn] [b] pos) (dOp (rInD true) Ta Tb) := de_cmp op_notIn_seq (ref_in true) ha hb hm
theorem dt_in {a b : Expr} {Ta Tb : DTE} (ha : DE X a Ta) (hb : DE X b Tb) (hm : behindInMarks .In b = false := by rfl) : DT X (.Compare a [.In] [b] pos) (dTest (dOp (rInD false) Ta Tb)) := dt_cmp op_in_seq (ref_in false) ha hb hm
theorem dt_notin {a b : Expr} {Ta Tb : DTE} (ha : DE X a Ta) (hb : DE X b Tb) (hm : behindInMarks .NotIn b = false := by rfl) : DT X (.Compare a [.NotIn] [b] pos) (dTest (dOp (rInD true) Ta Tb)) := dt_cmp op_notIn_seq (ref_in true) ha hb hm
theorem inD_int (i : Int) : ∀ ns : List Int, inD (.int i) (ns.map D.int) = decide (i ∈ ns)
  | [] => rfl
  | n :: ns => by
    have ih := inD_int i ns
    unfold inD inV at ih ⊢
    rw [List.map_cons, List.map_cons, List.any_cons, ih]
    have : eqV (D.int n).v (D.int i).v = decide (n = i) := by
      show eqV (.int n) (.int i) = _
      unfold eqV
      first | rfl | simp
    rw [this]
    by_cases h : n = i
    · subst h; simp
    · have h' : ¬ i = n := fun e => h e.symm
      simp [h, h']

/-! ### calls of the text's defs -/
abbrev DXK := Addr → List (Str × DL.D) → MM → Prop
abbrev DSp := List DL.D → MM → QE → DXK → Prop
abbrev DX0 : DXK := fun _ _ _ => False
def toSp (K : PySem.W.Frag) (dsp : DSp) : Sp := fun vs H Q E => ∃ F M ds Q' E', SWH K H F M ∧ Reps K F vs ds ∧ dsp ds M Q' E' ∧ (∀ d M' v H' F', Stp K F H M F' H' M' → Rep K F' v d → Q' d M' → Q v H') ∧
  ∀ C fs M' H' F' d hfs, Stp K F H M F' H' M' → H' d = some (.xd hfs) → PairK K F' fs hfs → E' C fs M' → E (.ref C) (some d) H'
def dCall (dsp : DSp) (E : DXK) (T : DTA) : DTE := fun ρ M Q => T ρ M fun xs M1 => dsp xs M1 Q E
section calls
variable {k : Nat} {f C : Addr} {fd : FuncData} {ps ks : List Str} {dsp : DSp} {x m : Str} {p apos : Pos} {e o : Expr} {es : List Expr} {kws : List Keyword} {T Tk : DTA} {To : DTE}
theorem call_lift {K : PySem.W.Frag} {σ : L2.St} {H : Hp} {Q : VK} (h : liftE K (dCall dsp DX0 T) σ H Q) : tCall (toSp K dsp) [] E0 (liftA K T) σ H Q := by
  obtain ⟨F, ρ, M, Q', e, w, t, q⟩ := h
  refine .of e w t fun xs M1 vs H1 F1 s1 r1 e1 t1 => ?_
  rw [List.append_nil]
  exact ⟨F1, M1, xs, Q', DX0, s1.swh, r1, t1, fun d M' v H' F' s2 r2 t2 => q d M' v H' F' (tr2 s1 s2) r2 t2, fun _ _ _ _ _ _ _ _ _ _ z => z.elim⟩
/-- f(e, ..): no exception leaves -/
theorem de_call (F : FnOk X.prog X.w X.K X.mg X.base CX0 k f fd ps (toSp X.K dsp)) (hr : Room k X.A) (hm : X.mg x = some (.ref f)) (hk : PySem.W.keepIn X.K (.ref f) = true) (hb : Binds X.K fd ps []) (ha : DA X (e :: es) T) (hg : Gl X x := by rfl)
    (hdb : (x == ("__debug__" : Str)) = false := by decide) (h1 : starEach (e :: es) X.env = (false, eval e X.env) :: starEach es X.env := by rfl) (h2 : (backTo pos (starEach es X.env)).any (·.1) = false := by rfl) :
    DE X (.Call (.Name x p) (e :: es) [] pos) (dCall dsp DX0 T) := pe_imp (pe_call F hr hg hm hk hb .nil pass0 ha hdb h1 h2) fun _ _ _ h => call_lift h
theorem de_call0 (F : FnOk X.prog X.w X.K X.mg X.base CX0 k f fd ps (toSp X.K dsp)) (hr : Room k X.A) (hm : X.mg x = some (.ref f)) (hk : PySem.W.keepIn X.K (.ref f) = true) (hb : Binds X.K fd ps []) (hg : Gl X x := by rfl)
    (hdb : (x == ("__debug__" : Str)) = false := by decide) : DE X (.Call (.Name x p) [] [] pos) (dCall dsp DX0 dNil) :=
  pe_imp (pe_call0 F hr hg hm hk hb .nil pass0 hdb) fun σ H Q ⟨F, ρ, M, Q', e, w, t, q⟩ => ⟨F, M, [], Q', DX0, w, .nil, t, fun d M' v H' F' s2 r2 t2 => q d M' v H' F' s2 r2 t2, fun _ _ _ _ _ _ _ _ _ _ z => z.elim⟩
/-- keywords -/
def DK (X : Cx) (kws : List Keyword) (T : DTA) : Prop := PK X kws (liftA X.K T)
theorem pk_imp {kws : List Keyword} {t u : TA} (h : PK X kws t) (k : ∀ σ H Q, u σ H Q → t σ H Q) : PK X kws u := ⟨fun pos pins s σ H Q I q => h.run pos pins s σ H Q I (k σ H Q q)⟩
theorem dk_nil : DK X [] dNil := pk_imp pk_nil fun σ H Q ⟨F, ρ, M, Q', e, w, t, q⟩ => q _ _ _ _ F (Stp.refl w) .nil t
theorem dk_cons {nm : Option Str} {kpos : Pos} {Te : DTE} (ha : DE X e Te) (hr : DK X kws T) : DK X (⟨nm, e, kpos⟩ :: kws) (dCons Te T) :=
  pk_imp (pk_cons ha hr) fun σ H Q ⟨F, ρ, M, Q', e, w, t, q⟩ => .of e w t fun x M1 v H1 F1 s1 r1 e1 t1 => .of e1 s1.swh t1 fun y M2 u H2 F2 s2 r2 e2 t2 =>
    q _ _ _ _ F2 (tr2 s1 s2) (.cons (r1.mono s2.same) r2) t2
/-- f(k = v, ..): all by name; g puts them into the parameters' order -/
theorem pe_callN0 {sp : Sp} {tk : TA} {g : List Value → List Value → List Value} {gV : List V → List V → List V} (F : FnOk X.prog X.w X.K X.mg X.base CX0 k f fd ps sp) (hr : Room k X.A) (hm : X.mg x = some (.ref f)) (hk : PySem.W.keepIn X.K (.ref f) = true) (hb : KBn X.K fd ps 0 ks g gV)
    (hkw : PK X kws tk) (hg : Gl X x := by rfl) (hall : (backToKw pos (keywordEach kws X.env)).all (·.1.isSome) = true := by rfl) (hks : (backToKw pos (keywordEach kws X.env)).filterMap (·.1) = ks := by rfl)
    (hdb : (x == ("__debug__" : Str)) = false := by decide) (hpl : ((backTo pos (starEach [] X.env)).any (·.1) || (backToKw pos (keywordEach kws X.env)).any (·.1.isNone)) = false := by rfl) :
    PE X (.Call (.Name x p) [] kws pos) (tCallN 0 ks.length sp gV E0 tNil tk) := by
  constructor
  intro pins s σ H Q I h
  refine wpAny_Call_Name_kw (ld_glob I hg hm ?_ hdb)
  refine PySem.W.callWith_KW0 I.ok.mod.kin hk hall (thn (hkw.run pos pins s σ H _ I h) ?_) hpl
  rintro ws s2 ⟨zs, H2, I2, rz, l1, l2, q2⟩
  rw [hks]
  exact ⟨I2.kIn, run_fnN (us := []) (vs := []) F hr hb pass0 I2 .nil rz rfl l2 q2⟩
/-- gD: the data in the parameters' order -/
def dCallN (n : Nat) (dsp : DSp) (gD : List DL.D → List DL.D) (E : DXK) (T : DTA) : DTE := fun ρ M Q => T ρ M fun xs M1 => xs.length = n ∧ dsp (gD xs) M1 Q E
theorem de_callN0 {g : List Value → List Value → List Value} {gV : List V → List V → List V} (gD : List DL.D → List DL.D) (F : FnOk X.prog X.w X.K X.mg X.base CX0 k f fd ps (toSp X.K dsp)) (hr : Room k X.A) (hm : X.mg x = some (.ref f)) (hk : PySem.W.keepIn X.K (.ref f) = true) (hb : KBn X.K fd ps 0 ks g gV)
    (hgD : ∀ (F : Hp) (vs : List V) (ds : List DL.D), vs.length = ks.length → Reps X.K F vs ds → Reps X.K F (gV [] vs) (gD ds)) (hkw : DK X kws T) (hg : Gl X x := by rfl) (hall : (backToKw pos (keywordEach kws X.env)).all (·.1.isSome) = true := by rfl) (hks : (backToKw pos (keywordEach kws X.env)).filterMap (·.1) = ks := by rfl)
    (hdb : (x == ("__debug__" : Str)) = false := by decide) (hpl : ((backTo pos (starEach [] X.env)).any (·.1) || (backToKw pos (keywordEach kws X.env)).any (·.1.isNone)) = false := by rfl) :
    DE X (.Call (.Name x p) [] kws pos) (dCallN ks.length dsp gD DX0 T) :=
  pe_imp (pe_callN0 F hr hm hk hb hkw hg hall hks hdb hpl) fun σ H Q ⟨F, ρ, M, Q', e, w, t, q⟩ => .of e w t fun xs M1 vs H1 F1 s1 r1 e1 t1 => by
    have l : vs.length = ks.length := by rw [r1.length]; exact t1.1
    exact ⟨rfl, l, F1, M1, gD xs, Q', DX0, s1.swh, hgD F1 vs xs l r1, t1.2, fun d M' v H' F' s2 r2 t2 => q d M' v H' F' (tr2 s1 s2) r2 t2, fun _ _ _ _ _ _ _ _ _ _ z => z.elim⟩
end calls

/-! ### repr: where no repr runs -/
def rReprD : DRA := fun xs M Q => ∃ x, xs = [x] ∧ x.ok = true ∧ (match x with | .tup _ => True | .lst _ => True | _ => False) ∧ x.py.showable = true ∧ x.py.hasDict = false ∧ x.py.depth ≤ 30 ∧ x.py.shown.length ≤ sizeLine ∧ Q (.str x.py.shown) M
def rReprV (K : PySem.W.Frag) : List V → Hp → VK → Prop := fun xs H Q => ∃ a P, xs = [.ref a] ∧ Dp K H (.ref a) P ∧ P.showable = true ∧ P.hasDict = false ∧ P.depth ≤ 30 ∧ P.shown.length ≤ sizeLine ∧ Q (.str P.shown) H
theorem call_reprV (hg : X.A.guards = some []) (hu : X.A.units + 64 < cLine) : CallR X (.builtin "repr") (rReprV X.K) := by
  intro pins s σ H xs us Q I r h
  obtain ⟨a, P, rfl, hd, h1, h2, h3, h4, q⟩ := h
  obtain ⟨u, rfl, ru⟩ := vals1 r
  cases ru
  obtain ⟨as, rd⟩ := Dp.reads I P _ _ hd rfl
  refine repr_of_reads' rd h1 (fun z => ?_) hg (by omega) (fun _ _ e => e) (fun h' u tk hk => ⟨.str _, H, I.kept (t' := tk) hk, ⟨u, rfl⟩, q⟩) h4
  rw [h2] at z; cases z
theorem ref_repr {K : PySem.W.Frag} : CallRef K (rReprV K) rReprD := by
  intro F H M vs xs Q Q' w r t q
  obtain ⟨x, rfl, ok, hx, h1, h2, h3, h4, t⟩ := t
  obtain ⟨v, rfl, r1⟩ := r.one
  have hd := r1.dp w.sub ok
  cases r1 <;> first | exact hx.elim | skip
  · exact ⟨_, _, rfl, hd, h1, h2, h3, h4, q _ _ _ _ F (Stp.refl w) (.str _) t⟩
  · exact ⟨_, _, rfl, hd, h1, h2, h3, h4, q _ _ _ _ F (Stp.refl w) (.str _) t⟩
end
end DL

set_option Elab.async false
set_option linter.all false
set_option maxRecDepth 100000
set_option maxHeartbeats 4000000
namespace DL
open PySem PySem.Spec PyProof.Rows L2
/-! ### enumerate and zip over lists and tuples -/
/-- at a: a tuple (t), else a list -/
def SeqH (t : Bool) (h : Heap) (a : Addr) (its : Array Value) : Prop := if t = true then h.IsTuple a its else h.IsList a its
def SeqI (t : Bool) (h : Heap) (it a : Addr) (i : Nat) : Prop := if t = true then h.IsTupleIter it a i else h.IsListIter it a i
def SeqV (K : PySem.W.Frag) (t : Bool) (H : Hp) (a : Addr) (xs : List V) : Prop := if t = true then SqT K H a xs else SqL K H a xs
def seqO (t : Bool) (a : Addr) : Obj := if t = true then { cls := .type "tuple_iterator", data := .fields #[.ref a, .int 0 0] } else { cls := .type "list_iterator", data := .fields #[.ref a, .int 0 0] }
theorem seq_begins (t : Bool) (a : Addr) (its : Array Value) : Begins (.ref a) (seqO t a) fun h => SeqH t h a its := by
  cases t
  · exact begins_list a its
  · exact begins_tuple a its
theorem seqI_of {t : Bool} {h : Heap} {it a : Addr} (e : h.get? it = some (seqO t a)) : SeqI t h it a 0 := by
  cases t
  · exact ⟨_, e, rfl, rfl⟩
  · exact ⟨_, e, rfl, rfl⟩
theorem seqI_obj {t : Bool} {h : Heap} {it a : Addr} {i : Nat} (e : SeqI t h it a i) : ∃ o, h.get? it = some o ∧ ∀ v, o.data ≠ .cell v := by
  cases t
  · obtain ⟨o, e, _, d⟩ := e
    exact ⟨o, e, fun v z => by rw [d] at z; cases z⟩
  · obtain ⟨o, e, _, d⟩ := e
    exact ⟨o, e, fun v z => by rw [d] at z; cases z⟩
theorem seqI_at {t : Bool} {h h' : Heap} {it a : Addr} {i : Nat} (e : SeqI t h it a i) (k : ∀ o, h.get? it = some o → h'.get? it = some o) : SeqI t h' it a i := by
  cases t
  · obtain ⟨o, e, c, d⟩ := e
    exact ⟨o, k o e, c, d⟩
  · obtain ⟨o, e, c, d⟩ := e
    exact ⟨o, k o e, c, d⟩
theorem seq_draws {P : Program} {w : World} {A : Around} (hh : A.handled = none) (t : Bool) (it a : Addr) (ne : a ≠ it) (its : Array Value) :
    Draws P w A it [it, a] its.size (fun i v => its[i]? = some v) (fun i h => SeqI t h it a i ∧ SeqH t h a its) := by
  cases t
  · exact Draws.list hh it a ne its
  · exact Draws.tuple hh it a ne its
theorem seq_of {X : Cx} {pins : List (Addr × Obj)} {σ : L2.St} {H : Hp} {s : Shared} {t : Bool} {a : Addr} {xs : List V} (I : Inv X pins σ H s) (h : SeqV X.K t H a xs) : ∃ its : List Value, Vals xs its ∧ SeqH t s.heap a its.toArray ∧ a < s.heap.objs.size := by
  cases t
  · obtain ⟨its, r, p, _⟩ := I.list h
    exact ⟨its, r, p.isList, p.lt⟩
  · obtain ⟨its, r, p, _⟩ := I.tuple h
    exact ⟨its, r, p, p.lt⟩
/-- enumerate -/
def Iten (K : PySem.W.Frag) (t : Bool) (a : Addr) (xs : List V) : It :=
  ⟨fun i H => SeqV K t H a xs ∧ i < xs.length, fun i H v H' => ∃ T x, v = .ref T ∧ H T = none ∧ H' = upd H T (.tup [.int (i : Nat), x]) ∧ xs[i]? = some x, fun i H => SeqV K t H a xs ∧ i = xs.length⟩
def Itzp (K : PySem.W.Frag) (t u : Bool) (a b : Addr) (xs ys : List V) : It :=
  ⟨fun i H => (SeqV K t H a xs ∧ SeqV K u H b ys) ∧ i < min xs.length ys.length, fun i H v H' => ∃ T x y, v = .ref T ∧ H T = none ∧ H' = upd H T (.tup [x, y]) ∧ xs[i]? = some x ∧ ys[i]? = some y,
    fun i H => (SeqV K t H a xs ∧ SeqV K u H b ys) ∧ i = min xs.length ys.length⟩
/-- the iterator's own cells have turned -/
theorem inv_turned {X : Cx} {pins : List (Addr × Obj)} {σ : L2.St} {H : Hp} {s : Shared} {h' : Heap} {tk : Nat} {ch : List Addr} (I : Inv X pins σ H s) (hf : ∀ b ∈ ch, FpOk X pins H b) (kk : ∀ b o, b ∉ ch → s.heap.get? b = some o → h'.get? b = some o) :
    Inv X pins σ H { s with heap := h', toks := tk } := by
  refine I.step (g' := s.gens) (d' := s.drawn) (ch := ch) (fun b hb => ?_) (fun b o _ _ hc e _ => kk b o hc e) (fun b o _ _ hc e _ => ⟨o.slots, kk b o hc e⟩) (fun _ _ _ _ n => n)
    (fun b o hc e => ⟨o, kk b o hc e⟩) (fun _ _ e => e) (fun _ _ _ e => e) (fun b ps e => ⟨#[], by rw [e]; simp⟩) (fun m hm => ?_) (fun b u e => ?_) I.bare
  · obtain ⟨f0, f1, f2, f3, f4, f5⟩ := hf b hb
    exact ⟨f3, f1, f4, f5⟩
  · obtain ⟨o, es, ep, ho, r⟩ := hm
    exact ⟨o, es, ep, kk _ o (fun z => (hf _ z).2.1 rfl) ho, r⟩
  · refine (I.hok b u e).stay (fun c v hc q => kk c v (fun z => ?_) q) (fun _ q => q) fun _ _ q => q
    have n := (hf c z).1
    rcases hc with y | y
    · rw [y, e] at n; cases n
    · rw [y] at n; cases n
theorem turn_en {P : Program} {w : World} {K : PySem.W.Frag} {elts : List Expr} {kk : Nat} {tpos : Pos} (t : Bool) (a e it : Addr) (xs : List V) (hei : e ≠ it) (hea : a ≠ e) (hia : a ≠ it) :
    Turn P w K (.Tuple elts kk tpos) (Iten K t a xs) [e, it] e (fun i h => (∃ old, IsEnum h e it ((0 : Int) + (i : Nat)) old) ∧ SeqI t h it a i) where
  mem := by simp
  obj := fun i h ⟨⟨old, he⟩, hi⟩ b hb => by
    rcases List.mem_cons.mp hb with z | z
    · rw [z]; exact ⟨_, he, fun v q => nomatch q⟩
    · rw [List.mem_singleton.mp z]; exact seqI_obj hi
  keep := fun i h h' ⟨⟨old, he⟩, hi⟩ k => ⟨⟨old, k e (by simp) _ he⟩, seqI_at hi fun o q => k it (by simp) o q⟩
  item := by
    intro X hP hw hK hc i pins s σ H E I hf st hg
    subst hP hw hK
    obtain ⟨hq, hi⟩ := hg
    obtain ⟨its, rv, p, la⟩ := seq_of I hq
    have W := GoesN.enumFrom (prog := X.prog) (w := X.w) (A := X.A) (elts := elts) (x1 := kk) (pos := tpos) 0 (seq_draws (A := X.A.in1) (P := X.prog) (w := X.w) (I.ok.hd hc) t it a hia its.toArray) e hei (by simp [hei, Ne.symm hea]) (by simp)
    have hlen := rv.length
    refine W.goes i s _ _ (by simp; omega) ⟨st.1, st.2, p⟩ fun v h' tk hY hS kk' _ => ?_
    obtain ⟨T, tk2, x, rfl, hT, hx, hI⟩ := hY
    obtain ⟨u, hu⟩ : ∃ u, xs[i]? = some u := ⟨xs[i], List.getElem?_eq_getElem hi⟩
    obtain ⟨x', hx', ru⟩ := rv.get hu
    have ex : x' = x := by
      have z : its[i]? = some x := by simpa using hx
      rw [hx'] at z; exact Option.some.inj z
    subst ex
    obtain ⟨o, ho, hoc, n, hod⟩ := hI
    have new : ObjOk X.prog X.w (upd H T (.tup [.int (i : Nat), u])) h' T (.tup [.int (i : Nat), u]) :=
      ⟨by show 2 ≤ sizeLine; decide, [.int (0 + (i : Nat)) tk2, x'], .cons ⟨tk2, by rw [Int.zero_add]⟩ (.cons ru .nil), ⟨o, ho, hoc, n, hod⟩⟩
    have I1 := I.turnedNew (t' := tk) (ch := [e, it]) kk' hf hT new
    refine ⟨.ref T, _, I1, rfl, ⟨T, u, rfl, I.hok.fresh hT, rfl, hu⟩, ⟨hS.1, hS.2.1⟩, fun b hb => ?_⟩
    have hbl : b < s.heap.objs.size := by
      rcases List.mem_cons.mp hb with z | z
      · obtain ⟨old, he⟩ := st.1
        rw [z]; exact Heap.lt_size he
      · obtain ⟨ob, q, _⟩ := seqI_obj st.2
        rw [List.mem_singleton.mp z]; exact Heap.lt_size q
    rw [upd_ne (Nat.ne_of_lt (Nat.lt_of_lt_of_le hbl hT))]
    exact (hf b hb).1
  done := by
    intro X hP hw hK hc i pins s σ H E I hf st hg
    subst hP hw hK
    obtain ⟨hq, hi⟩ := hg
    obtain ⟨its, rv, p, la⟩ := seq_of I hq
    have W := GoesN.enumFrom (prog := X.prog) (w := X.w) (A := X.A) (elts := elts) (x1 := kk) (pos := tpos) 0 (seq_draws (A := X.A.in1) (P := X.prog) (w := X.w) (I.ok.hd hc) t it a hia its.toArray) e hei (by simp [hei, Ne.symm hea]) (by simp)
    have hlen := rv.length
    have hn : i = its.toArray.size := by simp; omega
    subst hn
    refine W.stops s _ _ ⟨st.1, st.2, p⟩ fun h' tk kk' _ => ?_
    exact inv_turned I hf kk'
  self := fun A i s Q E ⟨⟨old, he⟩, _⟩ h => wpAny_pyIter_enum he h
theorem turn_zp {P : Program} {w : World} {K : PySem.W.Frag} {elts : List Expr} {kk : Nat} {tpos : Pos} (t u : Bool) (a b z TI TO i1 i2 : Addr) (xs ys : List V) (S : ZipSep2 z TI TO i1 i2 [i1, a] [i2, b]) (na : a ≠ i1) (nb : b ≠ i2) :
    Turn P w K (.Tuple elts kk tpos) (Itzp K t u a b xs ys) [z, TI, TO, i1, i2] z (fun i h => IsZip h z TI TO .none ∧ IsTupOf2 h TI (.ref i1) (.ref i2) ∧ (∃ a1 a2, IsTupOf2 h TO a1 a2) ∧ SeqI t h i1 a i ∧ SeqI u h i2 b i) where
  mem := by simp
  obj := fun i h ⟨h1, h2, ⟨a1, a2, h3⟩, h4, h5⟩ c hc => by
    simp only [List.mem_cons, List.mem_nil_iff, or_false] at hc
    rcases hc with e | e | e | e | e
    · rw [e]; exact ⟨_, h1, fun v q => nomatch q⟩
    · rw [e]; exact ⟨_, h2, fun v q => nomatch q⟩
    · rw [e]; exact ⟨_, h3, fun v q => nomatch q⟩
    · rw [e]; exact seqI_obj h4
    · rw [e]; exact seqI_obj h5
  keep := fun i h h' ⟨h1, h2, ⟨a1, a2, h3⟩, h4, h5⟩ k => ⟨k z (by simp) _ h1, k TI (by simp) _ h2, ⟨a1, a2, k TO (by simp) _ h3⟩, seqI_at h4 fun o q => k i1 (by simp) o q, seqI_at h5 fun o q => k i2 (by simp) o q⟩
  item := by
    intro X hP hw hK hc i pins s σ H E I hf st hg
    subst hP hw hK
    obtain ⟨⟨hq, hq2⟩, hi⟩ := hg
    obtain ⟨its, rv, p, la⟩ := seq_of I hq
    obtain ⟨its2, rv2, p2, lb⟩ := seq_of I hq2
    have W := GoesN.zip2 (prog := X.prog) (w := X.w) (A := X.A) (elts := elts) (x1 := kk) (pos := tpos) S
      (seq_draws (A := X.A.in1) (P := X.prog) (w := X.w) (I.ok.hd hc) t i1 a na its.toArray) (seq_draws (A := X.A.in1) (P := X.prog) (w := X.w) (I.ok.hd hc) u i2 b nb its2.toArray)
    have kf : ∀ (h' : Heap), (∀ c o, c ∉ [z, TO, i1, i2] → s.heap.get? c = some o → h'.get? c = some o) → ∀ c o, c ∉ [z, TI, TO, i1, i2] → s.heap.get? c = some o → h'.get? c = some o := fun h' k c o hc e => k c o (fun m => hc (by
      simp only [List.mem_cons, List.mem_nil_iff, or_false] at m ⊢
      rcases m with m | m | m | m
      · exact .inl m
      · exact .inr (.inr (.inl m))
      · exact .inr (.inr (.inr (.inl m)))
      · exact .inr (.inr (.inr (.inr m))))) e
    have hl1 := rv.length
    have hl2 := rv2.length
    obtain ⟨t1, t2, t3, t4, t5⟩ := st
    refine W.goes i s _ _ (by simp; omega) ⟨t1, t2, t3, ⟨t4, p⟩, ⟨t5, p2⟩⟩ fun v h' tk hY hS kk' _ => ?_
    obtain ⟨T, x, y, rfl, hT, hx, hy, hI⟩ := hY
    obtain ⟨v1, hv1⟩ : ∃ v1, xs[i]? = some v1 := ⟨xs[i], List.getElem?_eq_getElem (by omega)⟩
    obtain ⟨v2, hv2⟩ : ∃ v2, ys[i]? = some v2 := ⟨ys[i], List.getElem?_eq_getElem (by omega)⟩
    obtain ⟨x', hx', ru⟩ := rv.get hv1
    obtain ⟨y', hy', ru2⟩ := rv2.get hv2
    have ex : x' = x := by
      have q : its[i]? = some x := by simpa using hx
      rw [hx'] at q; exact Option.some.inj q
    have ey : y' = y := by
      have q : its2[i]? = some y := by simpa using hy
      rw [hy'] at q; exact Option.some.inj q
    subst ex ey
    obtain ⟨o, ho, hoc, n, hod⟩ := hI
    have new : ObjOk X.prog X.w (upd H T (.tup [v1, v2])) h' T (.tup [v1, v2]) :=
      ⟨by show 2 ≤ sizeLine; decide, [x', y'], .cons ru (.cons ru2 .nil), ⟨o, ho, hoc, n, hod⟩⟩
    have I1 := I.turnedNew (t' := tk) (ch := [z, TI, TO, i1, i2]) (kf h' kk') hf hT new
    obtain ⟨s1, s2, s3, s4, s5⟩ := hS
    refine ⟨.ref T, _, I1, rfl, ⟨T, v1, v2, rfl, I.hok.fresh hT, rfl, hv1, hv2⟩, ⟨s1, s2, s3, s4.1, s5.1⟩, fun c hm => ?_⟩
    have hbl : c < s.heap.objs.size := by
      have e5 := hm
      simp only [List.mem_cons, List.mem_nil_iff, or_false] at e5
      obtain ⟨a1, a2, t3⟩ := t3
      obtain ⟨_, q4, _⟩ := seqI_obj t4
      obtain ⟨_, q5, _⟩ := seqI_obj t5
      rcases e5 with e | e | e | e | e
      · rw [e]; exact Heap.lt_size t1
      · rw [e]; exact Heap.lt_size t2
      · rw [e]; exact Heap.lt_size t3
      · rw [e]; exact Heap.lt_size q4
      · rw [e]; exact Heap.lt_size q5
    rw [upd_ne (Nat.ne_of_lt (Nat.lt_of_lt_of_le hbl hT))]
    exact (hf c hm).1
  done := by
    intro X hP hw hK hc i pins s σ H E I hf st hg
    subst hP hw hK
    obtain ⟨⟨hq, hq2⟩, hi⟩ := hg
    obtain ⟨its, rv, p, la⟩ := seq_of I hq
    obtain ⟨its2, rv2, p2, lb⟩ := seq_of I hq2
    have W := GoesN.zip2 (prog := X.prog) (w := X.w) (A := X.A) (elts := elts) (x1 := kk) (pos := tpos) S
      (seq_draws (A := X.A.in1) (P := X.prog) (w := X.w) (I.ok.hd hc) t i1 a na its.toArray) (seq_draws (A := X.A.in1) (P := X.prog) (w := X.w) (I.ok.hd hc) u i2 b nb its2.toArray)
    have kf : ∀ (h' : Heap), (∀ c o, c ∉ [z, TO, i1, i2] → s.heap.get? c = some o → h'.get? c = some o) → ∀ c o, c ∉ [z, TI, TO, i1, i2] → s.heap.get? c = some o → h'.get? c = some o := fun h' k c o hc e => k c o (fun m => hc (by
      simp only [List.mem_cons, List.mem_nil_iff, or_false] at m ⊢
      rcases m with m | m | m | m
      · exact .inl m
      · exact .inr (.inr (.inl m))
      · exact .inr (.inr (.inr (.inl m)))
      · exact .inr (.inr (.inr (.inr m))))) e
    have hl1 := rv.length
    have hl2 := rv2.length
    obtain ⟨t1, t2, t3, t4, t5⟩ := st
    have hn : i = min its.toArray.size its2.toArray.size := by simp; omega
    subst hn
    exact W.stops s _ _ ⟨t1, t2, t3, ⟨t4, p⟩, ⟨t5, p2⟩⟩ fun h' tk kk' _ => inv_turned I hf (kf h' kk')
  self := fun A i s Q E ⟨h1, _⟩ h => wpAny_pyIter_zip h1 h

/-! enumerate of one argument begins -/
theorem meets_enum1 {v : Value} {o : Obj} {H : Heap → Prop} (B : Begins v o H) :
    Meets (Builtin.«enumerate.__new__» ⟨[.type "enumerate", v], []⟩) (fun _ R s => H s.heap ∧
      R (.ok (.ret (.ref (s.heap.push o).objs.size))) { s with heap := (s.heap.push o).push { cls := .type "enumerate", data := .fields #[.none, .bool false, .ref s.heap.objs.size, rawInt 0, .none, .none] } }) := by
  refine .of_wp fun prog w A R s h => ?_
  obtain ⟨hp, gs, dr, tk, osys⟩ := s
  obtain ⟨h1, h2⟩ := h
  have hsub := sub_enumerate
  have qI : ∀ {A' : Around} {E : Value → Shared → Prop} {Q : Value → Shared → Prop}, Q (.ref hp.objs.size) ⟨hp.push o, gs, dr, tk, osys⟩ → wpAny (model prog w) A' (pyIter v) Q E ⟨hp, gs, dr, tk, osys⟩ :=
    fun q => B.iter prog w _ _ ⟨hp, gs, dr, tk, osys⟩ _ h1 q
  wp_walk using qI
  refine wpAny_stack_any fun st => wpAny_pure ?_
  split
  · rename_i c _ _ _ _ _
    cases (c == Value.type "enumerate") <;> (wp_walk using qI; exact ⟨_, rfl, h2⟩)
  · wp_walk using qI
    exact ⟨_, rfl, h2⟩
theorem enum1_begins {prog : Program} {w : World} {A : Around} {E : Value → Shared → Prop} {s : Shared} {v : Value} {o : Obj} {H : Heap → Prop} {Q : Value → Shared → Prop} (B : Begins v o H) (h1 : H s.heap)
    (h : ∀ h', IsEnum h' (s.heap.objs.size + 1) s.heap.objs.size 0 .none → h'.get? s.heap.objs.size = some o → (∀ b o', s.heap.get? b = some o' → h'.get? b = some o') → Q (.ref (s.heap.objs.size + 1)) { s with heap := h' }) :
    wpAny (model prog w) A (call (.type "enumerate") [v]) Q E s := by
  refine callType_new F.called_enumerate (by decide) (F.typeCall_enumerate_1 _) (F.newCall_enumerate_1 _) (fun obj => F.args_object_init_2 obj _) F.entry_enumerate_new (meets_enum1 B) ⟨h1, ?_⟩
  have hz : (s.heap.push o).objs.size = s.heap.objs.size + 1 := Heap.size_push ..
  show _ ∧ _
  rw [hz]
  have he := Heap.get?_push_size (s.heap.push o) (o := { cls := .type "enumerate", data := .fields #[.none, .bool false, .ref s.heap.objs.size, rawInt 0, .none, .none] }) rfl
  rw [hz] at he
  exact ⟨⟨_, he, rfl⟩, h _ he (Heap.get?_push_of_some _ (Heap.get?_push_size _ B.free)) fun b o' x => Heap.get?_push_of_some _ (Heap.get?_push_of_some _ x)⟩

section
variable {X : Cx} {pos : Pos}
def iEn (K : PySem.W.Frag) (ta : TA) : TI := fun σ H R => ta σ H fun vs H1 => ∃ t a xs, vs = [.ref a] ∧ SeqV K t H1 a xs ∧ R (Iten K t a xs) H1
theorem pi_en {e : Expr} {ta : TA} {p tpos : Pos} {elts : List Expr} {kk : Nat} (hg : Gl X "enumerate") (hm : X.mg "enumerate" = none) (ha : PA X [e] ta) (hs : starEach [e] X.env = [(false, eval e X.env)] := by rfl) :
    PI X (.Tuple elts kk tpos) (.Call (.Name "enumerate" p) [e] [] pos) (iEn X.K ta) := by
  constructor
  intro pins s σ H R I h
  refine Call_ (ld_blt I hg hm boot_enumerate (PyProof.Rows.callWith_type1 (thn (ha.run pos pins s σ H _ I h) ?_) hs rfl))
  rintro us s1 ⟨vs, H1, I1, r1, t, a, xs, rfl, hq, q⟩
  cases r1 with
  | cons r rr =>
    cases rr
    cases r
    obtain ⟨its, rv, p', la⟩ := seq_of I1 hq
    refine enum1_begins (seq_begins t a its.toArray) p' fun h' he hit hk => wpAny_pyIter_enum he ?_
    refine ⟨s1.heap.objs.size + 1, [s1.heap.objs.size + 1, s1.heap.objs.size], _, _, H1, rfl, I1.kept (t' := s1.toks) hk, turn_en t a _ _ xs (Nat.succ_ne_self _) (Nat.ne_of_lt (Nat.lt_succ_of_lt la)) (Nat.ne_of_lt la), ⟨⟨.none, he⟩, seqI_of hit⟩, fun b hb => ?_, q⟩
    have hle : s1.heap.objs.size ≤ b := by
      rcases List.mem_cons.mp hb with z | z
      · rw [z]; exact Nat.le_succ _
      · rw [List.mem_singleton.mp z]; exact Nat.le_refl _
    exact I1.fpOk hle (I1.hok.fresh hle)
def iZp (K : PySem.W.Frag) (ta : TA) : TI := fun σ H R => ta σ H fun vs H1 => ∃ t u a b xs ys, vs = [.ref a, .ref b] ∧ SeqV K t H1 a xs ∧ SeqV K u H1 b ys ∧ R (Itzp K t u a b xs ys) H1
theorem pi_zp {e e2 : Expr} {ta : TA} {p tpos : Pos} {elts : List Expr} {kk : Nat} (hg : Gl X "zip") (hm : X.mg "zip" = none) (ha : PA X [e, e2] ta) (hs : starEach [e, e2] X.env = (false, eval e X.env) :: starEach [e2] X.env := by rfl) (hpl : (backTo pos (starEach [e2] X.env)).any (·.1) = false := by rfl) :
    PI X (.Tuple elts kk tpos) (.Call (.Name "zip" p) [e, e2] [] pos) (iZp X.K ta) := by
  constructor
  intro pins s σ H R I h
  refine Call_ (ld_blt I hg hm PyProof.Rows.boot_zip (PyProof.Rows.callWith_type1 (thn (ha.run pos pins s σ H _ I h) ?_) hs hpl))
  rintro us s1 ⟨vs, H1, I1, r1, t, u, a, b, xs, ys, rfl, hq, hq2, q⟩
  obtain ⟨v1, v2, rfl, r, r'⟩ := vals2 r1
  cases r
  cases r'
  obtain ⟨its, rv, p1, la⟩ := seq_of I1 hq
  obtain ⟨its2, rv2, p2, lb⟩ := seq_of I1 hq2
  refine zip_begins2 (seq_begins t a its.toArray) (seq_begins u b its2.toArray) p1 p2 fun h' hz hTI hTO h1 h2 hsz hk => wpAny_pyIter_zip hz ?_
  have S := zip_sep2 (N := s1.heap.objs.size) (fp1 := [a]) (fp2 := [b]) (fun c hc => by rw [List.mem_singleton.mp hc]; exact la) (fun c hc => by rw [List.mem_singleton.mp hc]; exact lb)
  refine ⟨s1.heap.objs.size + 4, [s1.heap.objs.size + 4, s1.heap.objs.size + 2, s1.heap.objs.size + 3, s1.heap.objs.size, s1.heap.objs.size + 1], _, _, H1, rfl, I1.kept (t' := s1.toks) hk,
    turn_zp t u a b _ _ _ _ _ xs ys S (Nat.ne_of_lt la) (Nat.ne_of_lt (Nat.lt_succ_of_lt lb)), ⟨hz, hTI, ⟨_, _, hTO⟩, seqI_of h1, seqI_of h2⟩, fun c hc => ?_, q⟩
  have hle : s1.heap.objs.size ≤ c := by
    simp only [List.mem_cons, List.mem_nil_iff, or_false] at hc
    rcases hc with z | z | z | z | z <;> rw [z] <;> first | exact Nat.le_refl _ | exact Nat.le_add_right _ _
  exact I1.fpOk hle (I1.hok.fresh hle)

/-- what is a list or a tuple as data -/
theorem seqV_of {K : PySem.W.Frag} {F : Hp} {v : V} {d : DL.D} {xs : List DL.D} (r : Rep K F v d) (h : d = .lst xs ∨ d = .tup xs ∨ d = .scr xs) : ∃ t a vs, v = .ref a ∧ SeqV K t F a vs ∧ Reps K F vs xs := by
  rcases h with h | h | h <;> subst h <;> cases r
  · exact ⟨false, _, _, rfl, SqL.of (by assumption), by assumption⟩
  · exact ⟨true, _, _, rfl, by assumption, by assumption⟩
  · exact ⟨false, _, _, rfl, by assumption, by assumption⟩
theorem seqV_mono {K : PySem.W.Frag} {F F' : Hp} (s : Same F F') {t : Bool} {a : Addr} {vs : List V} (h : SeqV K t F a vs) : SeqV K t F' a vs := by
  cases t
  · exact s.seq h
  · exact sqT_mono s h
def enumD (xs : List DL.D) : List DL.D := xs.mapIdx fun i x => .tup [.int (i : Nat), x]
theorem enumD_get (xs : List DL.D) (i : Nat) : (enumD xs)[i]? = (xs[i]?).map fun x => .tup [.int (i : Nat), x] := by
  unfold enumD; rw [List.getElem?_mapIdx]
theorem enumD_len (xs : List DL.D) : (enumD xs).length = xs.length := by unfold enumD; rw [List.length_mapIdx]
def zipD (xs ys : List DL.D) : List DL.D := List.zipWith (fun x y => .tup [x, y]) xs ys
theorem iten_ok {K : PySem.W.Frag} {F : Hp} {t : Bool} {a : Addr} {vs : List V} {ds : List DL.D} (h : SeqV K t F a vs) (r : Reps K F vs ds) : ItOk K (Iten K t a vs) (enumD ds) F := fun i H F' M s w => by
  have hH : SeqV K t H a vs := seqV_mono w.sub (seqV_mono s h)
  rw [enumD_len, ← r.length]
  refine ⟨fun hi => ⟨⟨hH, hi⟩, fun x H' ⟨T, y, e1, hn, e2, hy⟩ => ?_⟩, fun hi => ⟨hH, hi⟩⟩
  · subst e1 e2
    obtain ⟨d, hd, rd⟩ := r.get hy
    have st := w.newF hn (.tup [.int (i : Nat), y])
    exact ⟨_, _, st, by rw [enumD_get, hd]; rfl, .tup (.inl (.inl upd_same)) (.cons (.int _) (.cons ((rd.mono s).mono st.same) .nil))⟩
theorem itzp_ok {K : PySem.W.Frag} {F : Hp} {t u : Bool} {a b : Addr} {vs ws : List V} {ds es : List DL.D} (h : SeqV K t F a vs) (r : Reps K F vs ds) (h2 : SeqV K u F b ws) (r2 : Reps K F ws es) : ItOk K (Itzp K t u a b vs ws) (zipD ds es) F := fun i H F' M s w => by
  have hH : SeqV K t H a vs := seqV_mono w.sub (seqV_mono s h)
  have hH2 : SeqV K u H b ws := seqV_mono w.sub (seqV_mono s h2)
  have hl : (zipD ds es).length = min vs.length ws.length := by unfold zipD; rw [List.length_zipWith, r.length, r2.length]
  rw [hl]
  refine ⟨fun hi => ⟨⟨⟨hH, hH2⟩, hi⟩, fun x H' ⟨T, y, z, e1, hn, e2, hy, hz⟩ => ?_⟩, fun hi => ⟨⟨hH, hH2⟩, hi⟩⟩
  · subst e1 e2
    obtain ⟨d, hd, rd⟩ := r.get hy
    obtain ⟨d2, hd2, rd2⟩ := r2.get hz
    have st := w.newF hn (.tup [y, z])
    exact ⟨_, _, st, by unfold zipD; rw [List.getElem?_zipWith, hd, hd2], .tup (.inl (.inl upd_same)) (.cons ((rd.mono s).mono st.same) (.cons ((rd2.mono s).mono st.same) .nil))⟩
def seqOf : DL.D → Option (List DL.D)
  | .lst xs => some xs
  | .tup xs => some xs
  | .scr xs => some xs
  | _ => none
theorem seqOf_or {d : DL.D} {xs : List DL.D} (h : seqOf d = some xs) : d = .lst xs ∨ d = .tup xs ∨ d = .scr xs := by
  cases d <;> first | cases h | skip
  · exact .inr (.inl rfl)
  · exact .inl rfl
  · exact .inr (.inr rfl)
def dEnum (T : DTA) : DTI := fun ρ M Q => T ρ M fun ds M1 => match ds with
  | [.lst xs] => Q (enumD xs) M1
  | [.tup xs] => Q (enumD xs) M1
  | [.scr xs] => Q (enumD xs) M1
  | _ => False
theorem di_enum {e : Expr} {T : DTA} {p tpos : Pos} {elts : List Expr} {kk : Nat} (hm : X.mg "enumerate" = none) (ha : DA X [e] T) (hg : Gl X "enumerate" := by rfl) (hs : starEach [e] X.env = [(false, eval e X.env)] := by rfl) :
    DI X (.Tuple elts kk tpos) (.Call (.Name "enumerate" p) [e] [] pos) (dEnum T) :=
  pi_imp (pi_en hg hm ha hs) fun σ H R ⟨F, ρ, M, Q', e, w, t, q⟩ => .of e w t fun ds M1 vs H1 F1 s1 r1 e1 t1 => by
    cases r1 with
    | nil => exact t1.elim
    | cons a r =>
      rename_i v d us es
      cases r with
      | cons b r => cases d <;> exact t1.elim
      | nil =>
        cases d <;> first | exact t1.elim | skip
        all_goals
          rename_i xs
          obtain ⟨t, a', ws, rfl, hq, g⟩ := seqV_of (xs := xs) a (by simp)
          exact ⟨t, a', ws, rfl, seqV_mono s1.swh.sub hq, q _ M1 _ H1 F1 s1 (iten_ok hq g) t1⟩
def dZip (T : DTA) : DTI := fun ρ M Q => T ρ M fun ds M1 => ∃ x y xs ys, ds = [x, y] ∧ seqOf x = some xs ∧ seqOf y = some ys ∧ Q (zipD xs ys) M1
theorem di_zip {e e2 : Expr} {T : DTA} {p tpos : Pos} {elts : List Expr} {kk : Nat} (hm : X.mg "zip" = none) (ha : DA X [e, e2] T) (hg : Gl X "zip" := by rfl) (hs : starEach [e, e2] X.env = (false, eval e X.env) :: starEach [e2] X.env := by rfl) (hpl : (backTo pos (starEach [e2] X.env)).any (·.1) = false := by rfl) :
    DI X (.Tuple elts kk tpos) (.Call (.Name "zip" p) [e, e2] [] pos) (dZip T) :=
  pi_imp (pi_zp hg hm ha hs hpl) fun σ H R ⟨F, ρ, M, Q', e, w, t, q⟩ => .of e w t fun ds M1 vs H1 F1 s1 r1 e1 t1 => by
    obtain ⟨x, y, xs, ys, rfl, hx, hy, t2⟩ := t1
    obtain ⟨v, u, rfl, ra, rb⟩ := r1.two
    obtain ⟨t, a', ws, rfl, hq, g⟩ := seqV_of ra (seqOf_or hx)
    obtain ⟨t', b', ws', rfl, hq', g'⟩ := seqV_of rb (seqOf_or hy)
    exact ⟨t, t', a', b', ws, ws', rfl, seqV_mono s1.swh.sub hq, seqV_mono s1.swh.sub hq', q _ M1 _ H1 F1 s1 (itzp_ok hq g hq' g') t2⟩
end
end DL

set_option Elab.async false
set_option linter.all false
set_option maxRecDepth 100000
set_option maxHeartbeats 4000000
namespace DL
open PySem PySem.Spec PyProof.Rows L2
/-! ### sorted of pairs of ints -/
def prD (p : Int × Int) : DL.D := .tup [.int p.1, .int p.2]
def lexLe (p q : Int × Int) : Prop := p.1 < q.1 ∨ (p.1 = q.1 ∧ p.2 ≤ q.2)
def PrAt (K : PySem.W.Frag) (H : Hp) (x : V) (p : Int × Int) : Prop := ∃ t, x = .ref t ∧ SqT K H t [.int p.1, .int p.2]
def rSortPV (K : PySem.W.Frag) : List V → Hp → VK → Prop := fun vs H Q => ∃ (a : Addr) (xs : List V) (ps : List (Int × Int)), vs = [V.ref a] ∧ SqL K H a xs ∧ Paired (PrAt K H) xs ps ∧
  ∀ (zs : List (V × (Int × Int))) l, zs.Perm (xs.zip ps) → (zs.map (·.2)).Pairwise lexLe → H l = none → Q (.ref l) (upd H l (.lst (zs.map (·.1))))
/-- the pair that stands there -/
def prOf (h : Heap) : Value → Int × Int
  | .ref t => match h.get? t with
    | some o => match o.data with
      | .seq its _ => match its.toList with
        | [.int i _, .int j _] => (i, j)
        | _ => (0, 0)
      | _ => (0, 0)
    | none => (0, 0)
  | _ => (0, 0)
theorem paired_mem {α β : Type} {R : α → β → Prop} : ∀ {l : List α} {m : List β}, Paired R l m → ∀ a ∈ l, ∃ b ∈ m, R a b
  | _, _, .nil, _, h => nomatch h
  | _, _, .cons h t, a, hm => by
    rcases List.mem_cons.mp hm with e | hm
    · subst e; exact ⟨_, List.mem_cons_self, h⟩
    · obtain ⟨b, hb, r⟩ := paired_mem t a hm
      exact ⟨b, List.mem_cons_of_mem _ hb, r⟩
theorem paired_of {α β : Type} {R : α → β → Prop} {f : α → β} : ∀ {l : List α}, (∀ a ∈ l, R a (f a)) → Paired R l (l.map f)
  | [], _ => .nil
  | a :: l, h => .cons (h a List.mem_cons_self) (paired_of fun b hb => h b (List.mem_cons_of_mem _ hb))
section
variable {X : Cx} {pos : Pos}
theorem prAt_read {pins : List (Addr × Obj)} {σ : L2.St} {H : Hp} {s : Shared} (I : Inv X pins σ H s) {x : V} {p : Int × Int} {u : Value} (h : PrAt X.K H x p) (r : RelV x u) :
    Srt.IsPair s.heap u p.1 p.2 ∧ prOf s.heap u = p := by
  obtain ⟨t, rfl, hs⟩ := h
  obtain rfl : u = Value.ref t := r
  obtain ⟨its, rv, ⟨o, ho, hc, n, hd⟩, _⟩ := I.tuple hs
  obtain ⟨u1, u2, rfl, ⟨t1, rfl⟩, ⟨t2, rfl⟩⟩ := vals2 rv
  refine ⟨⟨t, o, t1, t2, n, rfl, ho, hc, hd⟩, ?_⟩
  unfold prOf
  simp only [ho, hd]
theorem cr_sortPV : CallR X (.builtin "sorted") (rSortPV X.K) := by
  intro pins s σ H vs us Q I r h
  obtain ⟨a, xs, ps, rfl, hs, hp, q⟩ := h
  obtain ⟨its, rv, hl, hz⟩ := I.list hs
  obtain ⟨u, rfl, ru⟩ := vals1 r
  obtain rfl : u = Value.ref a := ru
  obtain ⟨e1, e2⟩ := refs_back rv fun x m => by
    obtain ⟨p, _, t, e, _⟩ := paired_mem hp x m
    exact ⟨t, e⟩
  -- each value with its pair
  have key : ∀ u ∈ its, ∃ p, PrAt X.K H (backV u) p ∧ Srt.IsPair s.heap u p.1 p.2 ∧ prOf s.heap u = p := fun u hu => by
    obtain ⟨t, rfl⟩ := e2 u hu
    have hm : V.ref t ∈ xs := by rw [e1]; exact List.mem_map.mpr ⟨_, hu, rfl⟩
    obtain ⟨p, _, hpt⟩ := paired_mem hp _ hm
    obtain ⟨z1, z2⟩ := prAt_read I hpt (show RelV (.ref t) (.ref t) from rfl)
    exact ⟨p, hpt, z1, z2⟩
  have eps : its.map (fun u => (backV u, prOf s.heap u)) = xs.zip ps := by
    have go : ∀ {xs : List V} {us : List Value} {ps : List (Int × Int)}, Vals xs us → Paired (PrAt X.K H) xs ps → us.map (fun u => (backV u, prOf s.heap u)) = xs.zip ps := by
      intro xs us ps rv hp
      induction rv generalizing ps with
      | nil => cases hp; rfl
      | cons h t ih =>
        cases hp with
        | cons g gs =>
          rw [List.map_cons, ih gs, (prAt_read I g h).2, List.zip_cons_cons]
          obtain ⟨t, rfl, _⟩ := g
          obtain rfl := (show _ = Value.ref t from h)
          rfl
    exact go rv hp
  refine SrtO.sorted_pairsO (k := prOf s.heap) hl.isList (by rw [← rv.length]; exact hz) (fun v hv => ?_) fun h' d out h1 h2 kp hd hn => ?_
  · obtain ⟨p, _, z1, z2⟩ := key v hv
    rw [z2]; exact z1
  · have hin : ∀ u ∈ out, u ∈ its := fun u hu => h2.perm.mem_iff.mp hu
    obtain ⟨n, hn⟩ := hn
    have hr : ∀ u ∈ out, ∃ a, u = Value.ref a := fun u hu => e2 u (hin u hu)
    have hlen : (out.map backV).length ≤ sizeLine := by rw [List.length_map, h2.perm.length_eq, ← rv.length]; exact hz
    have q1 := q (out.map fun u => (backV u, prOf s.heap u)) d (by rw [← eps]; exact h2.perm.map _) (by
      rw [List.map_map]
      refine List.pairwise_map.mpr (h1.imp fun {x y} h => ?_)
      have := SrtO.lexB_no.mp h
      show lexLe (prOf s.heap x) (prOf s.heap y)
      unfold lexLe
      omega) (I.hok.fresh hd)
    rw [List.map_map] at q1
    exact ⟨.ref d, upd H d (.lst (out.map backV)), I.laid (t' := s.toks) kp hd ⟨hlen, out, n, vals_back hr, hn⟩, rfl, q1⟩
def rSortP : DRA := fun xs M Q => ∃ (x : DL.D) (ps : List (Int × Int)), xs = [x] ∧ ItemsL M x (ps.map prD) ∧ ∀ ps' : List (Int × Int), ps'.Perm ps → ps'.Pairwise lexLe → Q (.lst (ps'.map prD)) M
theorem reps_pairs {K : PySem.W.Frag} {F H : Hp} (s : Same F H) : ∀ {vs : List V} {ps : List (Int × Int)}, Reps K F vs (ps.map prD) → Paired (PrAt K H) vs ps
  | _, [], .nil => .nil
  | _, p :: ps, .cons h r => by
    cases h with
    | tup h1 h2 =>
      obtain ⟨v, u, rfl, r1, r2⟩ := h2.two
      cases r1
      cases r2
      exact .cons ⟨_, rfl, sqT_mono s h1⟩ (reps_pairs s r)
theorem ref_sortP {K : PySem.W.Frag} : CallRef K (rSortPV K) rSortP := by
  intro F H M vs xs Q Q' w r t q
  obtain ⟨x, ps, rfl, hi, t⟩ := t
  obtain ⟨v, rfl, r1⟩ := r.one
  obtain ⟨a, ws, rfl, hs, g⟩ := hi.sq w r1
  refine ⟨a, ws, ps, rfl, hs, reps_pairs w.sub g, fun zs l h1 h2 hl => ?_⟩
  have all : ∀ {vs : List V} {ps : List (Int × Int)}, Reps K F vs (ps.map prD) → ∀ z ∈ vs.zip ps, Rep K F z.1 (prD z.2) := by
    intro vs
    induction vs with
    | nil => intro ps _ z hz; simp at hz
    | cons v vs ih =>
      intro ps g z hz
      cases ps with
      | nil => simp at hz
      | cons p ps =>
        cases g with
        | cons h r =>
          rcases List.mem_cons.mp (by simpa using hz) with e | hz
          · subst e; exact h
          · exact ih r z hz
  have len : ∀ {vs : List V} {ps : List (Int × Int)}, vs.length = ps.length → (vs.zip ps).map (·.2) = ps := by
    intro vs
    induction vs with
    | nil => intro ps h; cases ps with
      | nil => rfl
      | cons => cases h
    | cons v vs ih => intro ps h; cases ps with
      | nil => cases h
      | cons p ps => rw [List.zip_cons_cons, List.map_cons, ih (Nat.succ.inj h)]
  have gz : ∀ zs : List (V × (Int × Int)), (∀ z ∈ zs, Rep K F z.1 (prD z.2)) → Reps K F (zs.map (·.1)) ((zs.map (·.2)).map prD) := by
    intro zs
    induction zs with
    | nil => intro _; exact .nil
    | cons z zs ih => intro h; exact .cons (h z List.mem_cons_self) (ih fun y hy => h y (List.mem_cons_of_mem _ hy))
  have g2 := gz zs fun z hz => all g z (h1.mem_iff.mp hz)
  have st := w.newF hl (.lst (zs.map (·.1)))
  refine q _ _ _ _ _ st (.lst upd_same (g2.mono st.same)) (t _ ?_ h2)
  have e := h1.map (·.2)
  rw [len (by have := g.length; rw [List.length_map] at this; exact this)] at e
  exact e

/-! ### dicts -/
section
variable {κ : Type} [DecidableEq κ]
def valD (kvs : List (κ × DL.D)) (k : κ) : Option DL.D := (kvs.find? fun kv => decide (kv.1 = k)).map (·.2)
def putD (kvs : List (κ × DL.D)) (k : κ) (v : DL.D) : List (κ × DL.D) :=
  if (kvs.any fun kv => decide (kv.1 = k)) = true then kvs.map (fun kv => if kv.1 = k then (kv.1, v) else kv) else kvs ++ [(k, v)]
theorem valD_nil {k : κ} : valD ([] : List (κ × DL.D)) k = none := rfl
theorem valD_cons (p : κ × DL.D) (r : List (κ × DL.D)) (k : κ) : valD (p :: r) k = if p.1 = k then some p.2 else valD r k := by
  unfold valD
  rw [List.find?_cons]
  by_cases h : p.1 = k
  · rw [if_pos h]; simp [h]
  · rw [if_neg h]; simp [h]
theorem PairK.val {K : PySem.W.Frag} {F : Hp} {a : List (κ × DL.D)} {b : List (κ × V)} (h : PairK K F a b) (k : κ) : (valD a k = none ∧ valV b k = none) ∨ ∃ d v, valD a k = some d ∧ valV b k = some v ∧ Rep K F v d := by
  unfold PairK at h
  induction h with
  | nil => exact .inl ⟨rfl, rfl⟩
  | @cons p q ps qs h t ih =>
    obtain ⟨h1, h2⟩ := h
    by_cases e : p.1 = k
    · rw [valD_cons, if_pos e]
      exact .inr ⟨_, _, rfl, valV_pos (h1 ▸ e), h2⟩
    · rw [valD_cons, if_neg e, valV_neg (fun z => e (h1.trans z))]
      exact ih
theorem PairK.length {K : PySem.W.Frag} {F : Hp} {a : List (κ × DL.D)} {b : List (κ × V)} (h : PairK K F a b) : a.length = b.length := Paired.length h
theorem PairK.put {K : PySem.W.Frag} {F : Hp} {a : List (κ × DL.D)} {b : List (κ × V)} (h : PairK K F a b) (k : κ) {v : V} {d : DL.D} (r : Rep K F v d) : PairK K F (putD a k d) (putK b k v) := by
  have any : ∀ {a : List (κ × DL.D)} {b : List (κ × V)}, PairK K F a b → (a.any fun kv => decide (kv.1 = k)) = b.any fun kv => decide (kv.1 = k) := by
    intro a b h
    unfold PairK at h
    induction h with
    | nil => rfl
    | cons h t ih => rw [List.any_cons, List.any_cons, h.1, ih]
  have mp : ∀ {a : List (κ × DL.D)} {b : List (κ × V)}, PairK K F a b → PairK K F (a.map fun kv => if kv.1 = k then (kv.1, d) else kv) (b.map fun kv => if kv.1 = k then (kv.1, v) else kv) := by
    intro a b h
    unfold PairK at h ⊢
    induction h with
    | nil => exact .nil
    | @cons p q ps qs h t ih =>
      rw [List.map_cons, List.map_cons]
      refine .cons ?_ ih
      obtain ⟨h1, h2⟩ := h
      by_cases e : p.1 = k
      · rw [if_pos e, if_pos (h1 ▸ e)]; exact ⟨h1, r⟩
      · rw [if_neg e, if_neg (fun z => e (h1.trans z))]; exact ⟨h1, h2⟩
  unfold putD putK
  rw [any h]
  split
  · exact mp h
  · unfold PairK at h ⊢
    exact h.snoc ⟨rfl, r⟩
theorem valD_put (kvs : List (κ × DL.D)) (k j : κ) (v : DL.D) : valD (putD kvs k v) j = if j = k then some v else valD kvs j := by
  have anyE : ∀ kvs : List (κ × DL.D), (kvs.any fun kv => decide (kv.1 = k)) = (valD kvs k).isSome := by
    intro kvs
    induction kvs with
    | nil => rfl
    | cons p r ih =>
      rw [List.any_cons, valD_cons, ih]
      by_cases h : p.1 = k <;> simp [h]
  have mp : ∀ kvs : List (κ × DL.D), (valD kvs k).isSome = true → valD (kvs.map fun kv => if kv.1 = k then (kv.1, v) else kv) j = if j = k then some v else valD kvs j := by
    intro kvs
    induction kvs with
    | nil => intro h; cases h
    | cons p r ih =>
      intro h
      rw [List.map_cons, valD_cons, valD_cons]
      rw [valD_cons] at h
      by_cases h1 : p.1 = k
      · rw [if_pos h1]
        by_cases h2 : j = k
        · rw [if_pos (h1.trans h2.symm), if_pos h2]
        · rw [if_neg (fun z => h2 (z.symm.trans h1)), if_neg h2, if_neg (fun z => h2 (z.symm.trans h1))]
          by_cases h3 : (valD r k).isSome = true
          · rw [ih h3, if_neg h2]
          · have hn : ∀ x ∈ r, ¬ x.1 = k := fun x hx e => by
              have := (anyE r).symm
              rw [eq_false_of_ne_true h3] at this
              have z := List.any_eq_false.mp this.symm x hx
              exact z (decide_eq_true e)
            have : r.map (fun kv => if kv.1 = k then (kv.1, v) else kv) = r := by
              have : r.map (fun kv => if kv.1 = k then (kv.1, v) else kv) = r.map id := List.map_congr_left fun x hx => if_neg (hn x hx)
              rw [this, List.map_id]
            rw [this]
      · rw [if_neg h1] at h ⊢
        by_cases h2 : p.1 = j
        · rw [if_pos h2, if_pos h2, if_neg (fun z => h1 (h2.trans z))]
        · rw [if_neg h2, if_neg h2]
          exact ih h
  have app : ∀ kvs : List (κ × DL.D), valD kvs k = none → valD (kvs ++ [(k, v)]) j = if j = k then some v else valD kvs j := by
    intro kvs
    induction kvs with
    | nil =>
      intro _
      show valD [(k, v)] j = _
      rw [valD_cons]
      by_cases h : j = k
      · rw [if_pos h, if_pos h.symm]
      · rw [if_neg h, if_neg (fun z => h z.symm)]
    | cons p r ih =>
      intro h
      rw [valD_cons] at h
      by_cases h1 : p.1 = k
      · rw [if_pos h1] at h; cases h
      · rw [if_neg h1] at h
        rw [List.cons_append, valD_cons, valD_cons]
        by_cases h2 : p.1 = j
        · rw [if_pos h2, if_pos h2, if_neg (fun z => h1 (h2.trans z))]
        · rw [if_neg h2, if_neg h2]
          exact ih h
  unfold putD
  rw [anyE]
  cases e : valD kvs k with
  | none => exact app kvs e
  | some d => exact mp kvs (by rw [e]; rfl)
end
theorem putD_len {κ : Type} [DecidableEq κ] (kvs : List (κ × DL.D)) (k : κ) (v : DL.D) : (putD kvs k v).length ≤ kvs.length + 1 := by
  unfold putD
  split
  · rw [List.length_map]; exact Nat.le_succ _
  · rw [List.length_append]; exact Nat.le_refl _
/-- keys as data -/
def kD : Key → DL.D
  | .inl i => .int i
  | .inr x => .str x
theorem rep_key {K : PySem.W.Frag} {F : Hp} {v : V} {k : Key} (r : Rep K F v (kD k)) : v = kV k := by
  cases k <;> cases r <;> rfl
theorem reps_keys {K : PySem.W.Frag} {F : Hp} : ∀ {vs : List V} {ks : List Key}, Reps K F vs (ks.map kD) → vs = ks.map kV
  | _, [], .nil => rfl
  | _, k :: ks, .cons h r => by rw [List.map_cons, rep_key h, reps_keys r]
def dDNewK : DTE := fun _ M Q => ∀ p, Q (.ptr p) ((p, .dK []) :: M)
def dDNewT : DTE := fun _ M Q => ∀ p, Q (.ptr p) ((p, .dT []) :: M)
theorem de_dnewK : DE X (.Dict [] [] pos) dDNewK := pe_imp pe_dnewK fun σ H Q ⟨F, ρ, M, Q', e, w, t, q⟩ => fun p hp => q _ _ _ _ _ (w.newM hp (.dK .nil)) (.ptr p) (t p)
theorem de_dnewT : DE X (.Dict [] [] pos) dDNewT := pe_imp pe_dnewT fun σ H Q ⟨F, ρ, M, Q', e, w, t, q⟩ => fun p hp => q _ _ _ _ _ (w.newM hp (.dT .nil)) (.ptr p) (t p)
/-- d[x, y] = v: the key a displayed tuple -/
def dsPutT (Td : DTE) (T : DTA) (Tv : DTE) : DTS := fun D ρ M => Tv ρ M fun v M1 => Td ρ M1 fun x M2 => T ρ M2 fun ks M3 => match x with
  | .ptr a => ∃ kvs key M4, ks = key.map kD ∧ ks.length ≤ sizeLine ∧ kvs.length < sizeLine ∧ Chg M3 a (.dT kvs) (.dT (putD kvs key v)) M4 ∧ D.nx ρ M4
  | _ => False
theorem ds_dputT {o value : Expr} {es : List Expr} {x1 : Nat} {tp pos' : Pos} {Td Tv : DTE} {T : DTA} (hu : X.A.units + 1 < cLine) (ho : DE X o Td) (hi : DA X es T) (hv : DE X value Tv) (hs : swapsWith value (some (.Subscript o (.Tuple es x1 tp) pos')) pos.line X.env = pure false := by rfl) :
    DS X (.Assign [.Subscript o (.Tuple es x1 tp) pos'] value pos) (dsPutT Td T Tv) :=
  ps_imp (ps_dput hu ho (pe_tup hi) hv hs) fun D σ H ⟨F, ρ, M, D', e, w, t, q⟩ => .of e w t fun v M1 vv H1 F1 s1 r1 e1 t1 => .of e1 s1.swh t1 fun x M2 xv H2 F2 s2 r2 e2 t2 => .of e2 s2.swh t2 fun ks M3 kvv H3 F3 s3 r3 e3 t3 => by
    have r2' := r2.mono s3.same
    cases r2' <;> first | exact t3.elim | skip
    rename_i a
    obtain ⟨kvs, key, M4, rfl, hl, hz, ⟨A, B, rfl, rfl⟩, t4⟩ := t3
    have ek := reps_keys r3
    subst ek
    refine ⟨by rw [List.length_map] at hl ⊢; exact hl, fun p hp => ?_⟩
    obtain ⟨ho, eH, z⟩ := s3.swh.at (p := a) (m := .dT kvs) (by simp)
    cases z with
    | dT z =>
      rename_i hk
      have sN := s3.swh.newF hp (.tup (key.map kV))
      have sA := tr2 s1 (tr2 s2 (tr2 s3 sN))
      have rv := (((r1.mono s2.same).mono s3.same).mono sN.same)
      have eN : upd H3 p (.tup (key.map kV)) a = some (.dT hk) := by rw [upd_ne (ne_of_none eH hp)]; exact eH
      exact ⟨a, _, rfl, DPut.t eN upd_same (by rw [← z.length]; exact hz), q.nx ρ _ σ _ _ (tr2 sA (sN.swh.put (RepO.dT ((z.mono sN.same).put key rv)))) (((e3.mono sN.same))) t4⟩
/-- d.get((x, y), z) -/
def dGet2T (Td : DTE) (T : DTA) (Tz : DTE) : DTE := fun ρ M Q => Td ρ M fun x M1 => match x with
  | .ptr a => (∃ kvs, (a, .dT kvs) ∈ M1) ∧ T ρ M1 fun ks M2 => ks.length ≤ sizeLine ∧ Tz ρ M2 fun z M3 => ∃ kvs key, ks = key.map kD ∧ (a, .dT kvs) ∈ M3 ∧ Q ((valD kvs key).getD z) M3
  | _ => False
theorem de_dget2T {o f : Expr} {es : List Expr} {x1 : Nat} {tp apos : Pos} {Td Tz : DTE} {T : DTA} (hu : X.A.units + 1 < cLine) (ho : DE X o Td) (he : DA X es T) (hf : DE X f Tz) (m : M2 X o "get" apos (.Tuple es x1 tp) f pos := by exact ⟨rfl, rfl, rfl, rfl⟩) :
    DE X (.Call (.Attribute o "get" apos) [.Tuple es x1 tp, f] [] pos) (dGet2T Td T Tz) :=
  pe_imp (pe_dget2 hu ho (pe_tup he) hf m) fun σ H Q ⟨F, ρ, M, Q', e, w, t, q⟩ => .of e w t fun x M1 xv H1 F1 s1 r1 e1 t1 => by
    cases r1 <;> first | exact t1.elim | skip
    rename_i a
    obtain ⟨⟨kvs, hm⟩, t1⟩ := t1
    obtain ⟨ho, eH, z⟩ := s1.swh.at hm
    cases z with
    | dT z =>
      refine ⟨a, rfl, .inr ⟨_, .inl eH⟩, ?_⟩
      refine .of e1 s1.swh t1 fun ks M2 kvv H2 F2 s2 r2 e2 t2 => ⟨by rw [r2.length]; exact t2.1, fun p hp => ?_⟩
      have sN := s2.swh.newF hp (.tup kvv)
      refine .of (e2.mono sN.same) sN.swh t2.2 fun zd M3 zv H3 F3 s3 r3 e3 t3 => ?_
      obtain ⟨kvs3, key, rfl, hm3, t3⟩ := t3
      obtain ⟨ho3, eH3, z3⟩ := s3.swh.at hm3
      have ek := reps_keys r2
      subst ek
      cases z3 with
      | dT z3 =>
        rename_i hk3
        -- the key's tuple stands still
        have fk : F3 p = some (.tup (key.map kV)) := s3.same _ _ upd_same
        have eb : H3 p = some (.tup (key.map kV)) := s3.swh.sub _ _ fk
        refine ⟨_, DGet.t eH3 eb, ?_⟩
        have sA := tr2 s1 (tr2 s2 (tr2 sN s3))
        rcases z3.val key with ⟨n1, n2⟩ | ⟨d, v, n1, n2, rv⟩
        · rw [n2]
          rw [n1] at t3
          exact q _ _ _ _ _ sA r3 t3
        · rw [n2]
          rw [n1] at t3
          exact q _ _ _ _ _ sA rv t3
end
end DL

set_option Elab.async false
set_option linter.all false
set_option maxRecDepth 100000
set_option maxHeartbeats 4000000
namespace DL
open PySem PySem.Spec PyProof.Rows L2
/-! ### a def's body over data -/
def startR (N : List Str) (ds : List DL.D) : Rho := ds.map some ++ List.replicate (N.length - ds.length) none
theorem start_env {K : PySem.W.Frag} {F : Hp} {N : List Str} {vs : List V} {ds : List DL.D} (r : Reps K F vs ds) : EnvR K F (L2.start N vs) (startR N ds) := by
  unfold L2.start startR
  rw [r.length]
  refine ⟨by simp [r.length], fun i d h => ?_⟩
  by_cases hi : i < ds.length
  · rw [List.getElem?_append_left (by simpa using hi), List.getElem?_map] at h
    cases e : ds[i]? with
    | none => rw [e] at h; cases h
    | some d' =>
      rw [e] at h
      cases h
      obtain ⟨v, hv, rv⟩ := r.get' e
      refine ⟨v, ?_, rv⟩
      rw [List.getElem?_append_left (by simp [r.length]; exact hi), List.getElem?_map, hv]
      rfl
  · rw [List.getElem?_append_right (by simpa using hi), List.getElem?_replicate] at h
    split at h <;> cases h
/-- what a body is to reach: the objects that it has made may be forgotten -/
def rtW (Q : QE) : QE := fun d M => ∃ M0, WkM M M0 ∧ Q d M0
theorem body_lift {K : PySem.W.Frag} {N : List Str} {T : DTS} {F H : Hp} {M : MM} {vs : List V} {ds : List DL.D} {Q' : QE} {Q : VK} (w : SWH K H F M) (r : Reps K F vs ds)
    (q : ∀ d M' v H' F', Stp K F H M F' H' M' → Rep K F' v d → Q' d M' → Q v H') (t : T { nx := fun _ M' => rtW Q' .non M', rt := rtW Q' } (startR N ds) M) :
    liftS K T { nx := fun _ H' => Q .non H', rt := Q } (L2.start N vs) H := by
  refine ⟨F, startR N ds, M, _, start_env r, w, t, ⟨fun ρ M' σ H' F' s e ⟨M0, k, z⟩ => q .non M0 .non H' F' (s.weaken k) .non z, fun d M' v H' F' s rv ⟨M0, k, z⟩ => q d M0 v H' F' (s.weaken k) rv z, fun _ _ _ _ _ _ _ z => z.elim, fun _ _ _ _ _ _ _ z => z.elim⟩⟩
section
variable {P : Program} {w : World} {K : PySem.W.Frag} {mg : Str → Option Value} {base : Heap}
/-- THE RULE for a def that raises nothing -/
theorem fun_ok {x qual : Str} {st : Stmt} {f : Addr} {fd : FuncData} {N ps : List Str} {k : Nat} {dsp : DSp} (F : Fun K x qual st f fd) (S : FnScope N ps (defScope st)) (len : ∀ ds M Q E, dsp ds M Q E → ds.length = ps.length)
    (hbody : ∀ (cdv : Value) (A : Around) (outer : List Env) (s : Shared) (H : Hp) (E : XK), Room k (A.deeper (envOfC qual (defScope st) s.heap.objs.size f cdv)) →
      ∃ T, DSs (cxOf CX0 P w K mg base N qual (defScope st) f cdv A outer s H E).nox (defBody st) T ∧ ∀ ds M Q E', dsp ds M Q E' → T { nx := fun _ M' => rtW Q .non M', rt := rtW Q } (startR N ds) M) :
    FnOk P w K mg base CX0 (k + 1) f fd ps (toSp K dsp) := by
  refine F.ok S (fun vs H Q E h => ?_) (fun cdv A outer s H vs Q E hr h => ?_)
  · obtain ⟨F0, M, ds, Q', E', w0, r, h, _⟩ := h
    rw [r.length]
    exact len _ _ _ _ h
  · obtain ⟨F0, M, ds, Q', E', w0, r, h, q, _⟩ := h
    obtain ⟨T, hT, hq⟩ := hbody cdv A outer s H E hr
    exact ⟨_, hT, body_lift w0 r q (hq ds M Q' E' h)⟩
/-! ### where it is known that no repr runs -/
structure FnG (P : Program) (w : World) (K : PySem.W.Frag) (mg : Str → Option Value) (base : Heap) (k : Nat) (f : Addr) (fd : FuncData) (ps : List Str) (sp : Sp) : Prop where
  len : ∀ vs H Q E, sp vs H Q E → vs.length = ps.length
  run : ∀ (B : Around) (outer : List Env) (s0 : Shared) (H0 : Hp) (args : Args) (us : List Value) (vs : List V) (Q : VK) (E : XK), B.guards = some [] → Room k B → Env0 P w K mg base B outer s0 H0 → BindsTo s0 fd args (ps.zip us) → Vals vs us → sp vs H0 Q E →
    codeAny (model P w) B (.call (.ref f) args) (CR CX0 outer P w H0 s0 Q E) s0
theorem fn_g {x qual : Str} {st : Stmt} {f : Addr} {fd : FuncData} {N ps : List Str} {k : Nat} {sp : Sp} (F : Fun K x qual st f fd) (S : FnScope N ps (defScope st)) (len : ∀ vs H Q E, sp vs H Q E → vs.length = ps.length)
    (hb : ∀ (cdv : Value) (B : Around) (outer : List Env) (s0 : Shared) (H0 : Hp) (vs : List V) (Q : VK) (E : XK), B.guards = some [] → Room k (B.deeper (envOfC qual (defScope st) s0.heap.objs.size f cdv)) → sp vs H0 Q E →
      ∃ t, PSs (cxOf CX0 P w K mg base N qual (defScope st) f cdv B outer s0 H0 E).nox (defBody st) t ∧ t { nx := fun _ H' => Q .non H', rt := Q } (L2.start N vs) H0) : FnG P w K mg base (k + 1) f fd ps sp := by
  obtain ⟨oc, od, kV, doc, pm, an, cdv, ct, osl, rfl, lk, hcd⟩ := F.ex
  constructor
  · exact len
  intro B outer s0 H0 args us vs Q E hg room env0 binds rel hsp
  have hlen := len _ _ _ _ hsp
  have inK : K.In s0.heap := env0.mod.kin.keeps fun b o e => (env0.bs b o e).1
  have noLim : s0.heap.NoLimit := env0.mod.nolimit.keeps fun b o e => (env0.bs b o e).1
  have kinds : ∀ y ∈ ps.zip us, (defScope st).names.lookup y.1 = some .local ∨ ((defScope st).names.lookup y.1 = some .cell ∧ ((cellsFrom (s0.heap.objs.size + 1) (defScope st).names []).lookup y.1).isSome = true) := by
    rintro ⟨nm, val⟩ hy
    have hp := S.par nm (List.of_mem_zip hy).1
    exact hp.imp id fun q => ⟨q, PySem.W.cellsFrom_some _ _ _ (.inl q)⟩
  refine codeAny_call_function room.depth (inK _ _ lk) rfl S.co S.gen rfl (PySem.W.codeRec_of inK hcd) (binds _ _ _ _ (wpAny_newFunctionEnv_cells S.kind kinds ?_))
  rintro env rfl s2 entered
  refine ⟨noLim.keeps entered.toInCall.keep, codeAny_func ?_⟩
  obtain ⟨t, ht, hq⟩ := hb cdv B outer s0 H0 vs Q E hg (room.deeper _) hsp
  have J0 := inv_start (CX := CX0) (E := E) S room.hd env0 hlen rel entered
  refine wpAny_mono (ht.nox.run [] s2 _ H0 _ J0 hq) (fun flow s3 h3 => ?_) fun exc s3 h3 => h3
  cases flow with
  | ret u =>
    obtain ⟨v, σ3, H3, J3, rv, q3⟩ := h3
    exact ⟨v, H3, J3.os, J3.bare, J3.base, J3.hok, rv, q3⟩
  | next =>
    obtain ⟨σ3, H3, J3, q3⟩ := h3
    exact ⟨.non, H3, J3.os, J3.bare, J3.base, J3.hok, rfl, q3⟩
  | brk => obtain ⟨_, _, _, q3⟩ := h3; exact q3.elim
  | cont => obtain ⟨_, _, _, q3⟩ := h3; exact q3.elim
theorem fun_okG {x qual : Str} {st : Stmt} {f : Addr} {fd : FuncData} {N ps : List Str} {k : Nat} {dsp : DSp} (F : Fun K x qual st f fd) (S : FnScope N ps (defScope st)) (len : ∀ ds M Q E, dsp ds M Q E → ds.length = ps.length)
    (hbody : ∀ (cdv : Value) (A : Around) (outer : List Env) (s : Shared) (H : Hp) (E : XK), A.guards = some [] → Room k (A.deeper (envOfC qual (defScope st) s.heap.objs.size f cdv)) →
      ∃ T, DSs (cxOf CX0 P w K mg base N qual (defScope st) f cdv A outer s H E).nox (defBody st) T ∧ ∀ ds M Q E', dsp ds M Q E' → T { nx := fun _ M' => rtW Q .non M', rt := rtW Q } (startR N ds) M) :
    FnG P w K mg base (k + 1) f fd ps (toSp K dsp) := by
  refine fn_g F S (fun vs H Q E h => ?_) (fun cdv A outer s H vs Q E hg hr h => ?_)
  · obtain ⟨F0, M, ds, Q', E', w0, r, h, _⟩ := h
    rw [r.length]
    exact len _ _ _ _ h
  · obtain ⟨F0, M, ds, Q', E', w0, r, h, q, _⟩ := h
    obtain ⟨T, hT, hq⟩ := hbody cdv A outer s H E hg hr
    exact ⟨_, hT, body_lift w0 r q (hq ds M Q' E' h)⟩
end
theorem guards_deeper {A : Around} {env : Env} (h : A.guards = some []) : (A.deeper env).guards = some [] := by
  first | exact h | simpa [Around.deeper, Around.under, pushGuards, Code.guards, Code.isGuard] using h

/-! ### the law: its one argument, a list of ints -/
def lawSp : DSp := fun ds M Q _ => ∃ ns : List Int, ds = [.scr (ns.map D.int)] ∧ ns.length ≤ 63 ∧ M = [] ∧ ∀ M', Q (.bl true) M'
theorem Reps.scr {K : PySem.W.Frag} {F : Hp} {a : Addr} {ns : List Int} (h : SqL K F a (ns.map V.int)) : Rep K F (.ref a) (.scr (ns.map D.int)) := .scr h (Reps.ofInts ns)
/-- the script's cell, where it is tracked -/
def scrH (a : Addr) (o : Obj) (ns : List Int) : Hp := fun b => if b = a then some (.frz o (.lst (ns.map V.int))) else none
theorem scr_at {a : Addr} {o : Obj} {ns : List Int} : scrH a o ns a = some (.frz o (.lst (ns.map V.int))) := if_pos rfl
theorem scr_ne {a b : Addr} {o : Obj} {ns : List Int} (h : b ≠ a) : scrH a o ns b = none := if_neg h
theorem law_g {P : Program} {w : World} {K : PySem.W.Frag} {mg mb : Str → Option Value} {k : Nat} {fa a : Addr} {fd : FuncData} {x : Str} {s₁ : Shared} {vs : List Value} {ns : List Int}
    (KX : K.In s₁.heap) (hns : s₁.heap.Ns mainGlobals mg) (hb : s₁.heap.Ns builtinsNs mb) (hbb : ∀ x : Str, x ≠ "__name__" → mb x = bootBuiltins x) (hlim : s₁.heap.NoLimit) (hg : s₁.gens = #[])
    (ha : s₁.heap.get? a = some { cls := .type "list", data := .seq vs.toArray }) (hi : IntsAre vs ns) (hl : ns.length ≤ 63) (hr : Room k callerA)
    (F : ∀ base : Heap, K.In base → base.Ns mainGlobals mg → FnG P w K mg base k fa fd [x] (toSp K lawSp)) (hbind : ∀ (s : Shared) (u : Value), BindsTo s fd ⟨[u], []⟩ [(x, u)]) :
    codeAny (model P w) callerA (.call (.ref fa) ⟨[.ref a], []⟩) (fun r s' => r = .ok (.ret (.bool true)) ∧ OldK s₁.heap s'.heap ∧ s'.os = s₁.os ∧ AllBare s'.gens) s₁ := by
  have rv := vals_ints hi
  have hz : (ns.map V.int).length ≤ sizeLine := by rw [List.length_map, sizeLine_eq]; omega
  -- run from a heap H of which nothing is tracked but perhaps the script
  have main : ∀ H : Hp, (∀ b, H b ≠ none → b = a ∧ ∃ o, H b = some (.frz o (.lst (ns.map V.int)))) → SqL K H a (ns.map V.int) → HOk P w H s₁.heap → (H a ≠ none → K.lookup a = none) →
      codeAny (model P w) callerA (.call (.ref fa) ⟨[.ref a], []⟩) (fun r s' => r = .ok (.ret (.bool true)) ∧ OldK s₁.heap s'.heap ∧ s'.os = s₁.os ∧ AllBare s'.gens) s₁ := by
    intro H only hS hok hK
    have free : ∀ {b : Addr} {o : Obj}, s₁.heap.get? b = some o → (∀ its n, o.data ≠ .seq its n) → H b = none := fun {b o} e d => by
      rcases hq : H b with _ | u
      · rfl
      · obtain ⟨e2, _⟩ := only b (by rw [hq]; nofun)
        subst e2
        rw [ha] at e
        cases e
        exact absurd rfl (d _ _)
    have nsB : ∀ {b : Addr} {m : Str → Option Value}, s₁.heap.Ns b m → (hidT s₁.heap H).Ns b m := fun {b m} ⟨o, es, ep, e, d, r⟩ => ⟨o, es, ep, hidT_get e (free e fun its n z => by rw [d] at z; cases z), d, r⟩
    have inB : K.In (hidT s₁.heap H) := fun b o e => by
      refine hidT_get (KX b o e) ?_
      rcases hq : H b with _ | u
      · rfl
      · have ne : H b ≠ none := by rw [hq]; nofun
        obtain ⟨e2, _⟩ := only b ne
        subst e2
        rw [hK ne] at e
        cases e
    have mod : Mod K mg (hidT s₁.heap H) := ⟨inB, nsB hns, ⟨mb, nsB hb, hbb⟩, by obtain ⟨mc, c1, c2⟩ := hlim; exact ⟨mc, nsB c1, c2⟩⟩
    have env0 : Env0 P w K mg (hidT s₁.heap H) callerA [] s₁ H := ⟨rfl, mod, fun _ _ e => of_hidT e, Nat.le_of_eq (hidT_size _ _), trivial, fun b z => (List.not_mem_nil z).elim, hok, .of_eq hg⟩
    have sw : SWH K H H [] := ⟨Same.refl H, fun x z => (List.not_mem_nil z).elim, List.nodup_nil⟩
    refine codeAny_mono ((F _ inB (nsB hns)).run callerA [] s₁ H ⟨[.ref a], []⟩ [.ref a] [.ref a] (fun v _ => v = .bl true) (fun _ _ _ => False) rfl hr env0 (hbind s₁ (.ref a)) (.cons rfl .nil)
      ⟨H, [], _, fun d _ => d = .bl true, DX0, sw, .cons (Reps.scr hS) .nil, ⟨ns, rfl, hl, rfl, fun _ => rfl⟩, fun d M' v H' F' _ r e => by subst e; cases r; rfl, fun _ _ _ _ _ _ _ _ _ _ z => z.elim⟩) fun res s' h => ?_
    cases res with
    | error e => exact False.elim h
    | ok fl =>
      cases fl with
      | next => exact False.elim h
      | brk => exact False.elim h
      | cont => exact False.elim h
      | ret u =>
        obtain ⟨v, H', os, bare, un, hok2, ru, qv⟩ := h
        have qv : v = .bl true := qv
        subst qv
        obtain rfl : u = Value.bool true := ru
        refine ⟨rfl, OldK.of_keep fun b o e => ?_, os, bare⟩
        rcases hq : H b with _ | u
        · exact un.keep b o e hq (fun z => (List.not_mem_nil (show b ∈ ([] : List Addr) from z)).elim) (List.not_mem_nil)
        · obtain ⟨_, ob, e3⟩ := only b (by rw [hq]; nofun)
          obtain ⟨y1, _⟩ := hok b _ e3
          obtain ⟨y2, _⟩ := hok2 b _ (un.frzs b ob _ e3)
          rw [e] at y1
          cases y1
          exact y2
  rcases hk : K.lookup a with _ | o
  · refine main (scrH a { cls := .type "list", data := .seq vs.toArray } ns) (fun b z => ?_) (.inl (.inr ⟨_, scr_at⟩)) (fun b u z => ?_) fun _ => hk
    · by_cases e : b = a
      · exact ⟨e, _, by rw [e]; exact scr_at⟩
      · exact absurd (scr_ne e) z
    · by_cases e : b = a
      · subst e
        rw [scr_at] at z
        cases z
        exact ⟨ha, hz, vs, _, rv, ha⟩
      · rw [scr_ne e] at z
        cases z
  · have e := KX a o hk
    rw [ha] at e
    cases e
    exact main (fun _ => none) (fun b z => absurd rfl z) (.inr ⟨_, vs.toArray, _, hk, rfl, rfl, rfl, by rw [List.size_toArray, hi.length, sizeLine_eq]; omega, by simpa using rv⟩) (fun b u z => by cases (show (none : Option HO) = some u from z)) fun z => absurd rfl z
theorem walk_g {l : PySem.W.OpenLaw} {k : Nat} {q : Program} {loose : List Str} {XP : (Str → Option Value) → Heap → Prop} {YP : World → Heap → Prop} {d : DefRec} {K : Params → PySem.W.Frag} {x : Str}
    (hn : l.most = some 63) (hdf : d.params.defaults = []) (hr : Room k callerA) (hY : ∀ (w : World) (h : Heap), YP w h → (K w.params).In h)
    (F : ∀ (w : World) (mg : Str → Option Value) (fa : Addr) (h : Heap), (K w.params).In h → h.Ns mainGlobals mg → mg d.name = some (.ref fa) →
      ∃ fd : FuncData, (∀ (s : Shared) (u : Value), BindsTo s fd ⟨[u], []⟩ [(x, u)]) ∧ ∀ base : Heap, (K w.params).In base → base.Ns mainGlobals mg → FnG l.prog w (K w.params) mg base k fa fd [x] (toSp (K w.params) lawSp)) :
    PySem.W.WalkO q loose XP YP l.row.toRowW d [] (fun f vs => PySem.call f vs) := by
  refine Att.attach_call hn hdf ?_
  intro w s₀ s₁ mg mb fa o pm cd doc a vs ns G Y ho hd hcd hmg hobj hints hlen hg
  obtain ⟨fd, hb, hF⟩ := F w mg fa _ (hY w _ Y) G.T.g hmg
  exact law_g (hY w _ Y) G.T.g G.T.b G.T.builtins G.T.nolimit hg hobj hints hlen hr hF hb
end DL

set_option Elab.async false
set_option linter.all false
set_option maxRecDepth 100000
set_option maxHeartbeats 4000000
namespace DL
open PySem PySem.Spec PyProof.Rows L2
section
variable {X : Cx} {pos : Pos}
/-! ### a list that may change is data from here on -/
def dFrz (i : Nat) (T : DTS) : DTS := fun D ρ M => match ρ[i]? with
  | some (some (.ptr p)) => ∃ A ds B, M = A ++ (p, .lst ds) :: B ∧ T D (ρ.set i (some (.lst ds))) (A ++ B)
  | _ => False
theorem EnvR.frz {K : PySem.W.Frag} {F : Hp} {σ : L2.St} {ρ : Rho} (h : EnvR K F σ ρ) {i : Nat} {v : V} {d : DL.D} (hv : σ[i]? = some (some v)) (r : Rep K F v d) : EnvR K F σ (ρ.set i (some d)) := by
  refine ⟨by rw [List.length_set]; exact h.1, fun j e hj => ?_⟩
  rw [List.getElem?_set] at hj
  by_cases hij : i = j
  · subst hij
    rw [if_pos rfl] at hj
    split at hj
    · cases hj; exact ⟨v, hv, r⟩
    · cases hj
  · rw [if_neg hij] at hj
    exact h.2 j e hj
theorem dss_frz (i : Nat) {b : List Stmt} {T : DTS} (h : DSs X b T) : DSs X b (dFrz i T) :=
  pss_imp h fun D σ H ⟨F, ρ, M, D', e, w, t, q⟩ => by
    unfold dFrz at t
    split at t
    · rename_i p hd
      obtain ⟨A, ds, B, rfl, t⟩ := t
      obtain ⟨v, hv, r⟩ := e.2 i _ hd
      cases r
      obtain ⟨F', s, r1⟩ := w.freeze
      exact ⟨F', _, _, D', (e.mono s.same).frz hv r1, s.swh, t, q.mono s⟩
    · exact t.elim
/-! ### constants of the module -/
theorem de_globI {x : Str} {i : Int} (hm : ∃ t, X.mg x = some (.int i t)) (hg : Gl X x := by rfl) (hd : (x == ("__debug__" : Str)) = false := by decide) : DE X (.Name x pos) (dC (.int i)) := by
  obtain ⟨t, hm⟩ := hm
  exact de_glob (v := .int i) hg hm ⟨t, rfl⟩ rfl hd
theorem de_globS {x i : Str} (hm : ∃ t, X.mg x = some (.str i t)) (hg : Gl X x := by rfl) (hd : (x == ("__debug__" : Str)) = false := by decide) : DE X (.Name x pos) (dC (.str i)) := by
  obtain ⟨t, hm⟩ := hm
  exact de_glob (v := .str i) hg hm ⟨t, rfl⟩ rfl hd
theorem de_globR {x : Str} {a : Addr} (hm : X.mg x = some (.ref a)) (hg : Gl X x := by rfl) (hd : (x == ("__debug__" : Str)) = false := by decide) : DE X (.Name x pos) (dC (.ptr a)) :=
  de_glob (v := .ref a) hg hm rfl rfl hd
/-! ### isinstance -/
def TyM (M : MM) : DL.D → String → Prop
  | .non, n => n = "NoneType"
  | .bl _, n => n = "bool"
  | .int _, n => n = "int"
  | .str _, n => n = "str"
  | .tup _, n => n = "tuple"
  | .lst _, n => n = "list"
  | .scr _, n => n = "list"
  | .ptr p, n => n = "list" ∧ ∃ ds, (p, .lst ds) ∈ M
  | .ty _, _ => False
theorem TyM.tyx {K : PySem.W.Frag} {F H : Hp} {M : MM} (w : SWH K H F M) {v : V} {d : DL.D} {n : String} (r : Rep K F v d) (h : TyM M d n) : TyX K H v (.type n) := by
  have hl : ∀ (a : Addr) (vs : List V), SqL K H a vs → TyX K H (.ref a) (.type "list") := fun a vs h => by
    rcases h with (h | ⟨o, h⟩) | ⟨o, its, n, h1, h2, _⟩
    · exact .base (.lst h)
    · exact .base (.frz h)
    · exact .kList h1 h2
  cases r <;> first | exact h.elim | skip
  · have h : n = "NoneType" := h
    subst h; exact .base .non
  · have h : n = "bool" := h
    subst h; exact .base (.bl _)
  · have h : n = "int" := h
    subst h; exact .base (.int _)
  · have h : n = "str" := h
    subst h; exact .base (.str _)
  · obtain ⟨h, ds, hm⟩ := h
    subst h
    obtain ⟨ho, e, q⟩ := w.at hm
    cases q with
    | lst q => exact .base (.lst e)
  · rename_i a vs ds h1 g
    have h : n = "tuple" := h
    subst h
    rcases sqT_mono w.sub h1 with (h | ⟨o, h⟩) | ⟨o, its, n, h1, h2, _⟩
    · exact .base (.tup h)
    · exact .fTuple h
    · exact .kTuple h1 h2
  · rename_i a vs ds h1 g
    have h : n = "list" := h
    subst h
    exact hl _ _ (SqL.of (w.sub _ _ h1))
  · rename_i a vs ds h1 g
    have h : n = "list" := h
    subst h
    exact hl _ _ (w.sub.seq h1)
def kitAnyB (n : String) : List String → Option Bool
  | [] => some false
  | c :: cs => match kitB n c with
    | some true => some true
    | some false => kitAnyB n cs
    | none => none
theorem kitAnyB_ok {K : PySem.W.Frag} {n : String} : ∀ {cs : List String} {b : Bool}, kitAnyB n cs = some b → PySem.W.kitAny K (.type n) (cs.map fun c => Value.type c) = some b
  | [], b, h => by cases h; exact kitAny_nil
  | c :: cs, b, h => by
    unfold kitAnyB at h
    rw [List.map_cons]
    split at h
    · rename_i e
      cases h
      exact kitAny_cons (kit_ty e) (fun z => by cases z) fun _ => rfl
    · rename_i e
      exact kitAny_cons (kit_ty e) (fun _ => kitAnyB_ok h) (fun z => by cases z)
    · cases h
def rIsiD : DRA := fun xs M Q => ∃ (x : DL.D) (c n : String) (b : Bool), xs = [x, .ty c] ∧ TyM M x n ∧ kitB n c = some b ∧ Q (.bl b) M
theorem ref_isi {K : PySem.W.Frag} : CallRef K (L2.rIsi K) rIsiD := by
  intro F H M vs xs Q Q' w r t q
  obtain ⟨x, c, n, b, rfl, ht, hb, t⟩ := t
  obtain ⟨v, u, rfl, r1, r2⟩ := r.two
  cases r2
  exact ⟨v, .ty c, .type n, .type c, b, rfl, .ty c, ht.tyx w r1, kit_ty hb, q _ _ _ _ F (Stp.refl w) (.bl _) t⟩
def rIsiAV (K : PySem.W.Frag) : List V → Hp → VK → Prop := fun xs H Q => ∃ (x : V) (tp : Addr) (cs : List String) (t : Value) (b : Bool), xs = [x, .ref tp] ∧ SqT K H tp (cs.map V.ty) ∧ TyX K H x t ∧ PySem.W.kitAny K t (cs.map fun c => Value.type c) = some b ∧ Q (.bl b) H
theorem vals_ty : ∀ {cs : List String} {us : List Value}, Vals (cs.map V.ty) us → us = cs.map fun c => Value.type c
  | [], _, .nil => rfl
  | c :: cs, _, .cons h r => by
    rw [List.map_cons, vals_ty r]
    have h : _ = Value.type c := h
    rw [h]
theorem call_isiAV : CallR X (.builtin "isinstance") (rIsiAV X.K) := by
  intro pins s σ H xs us Q I r h
  obtain ⟨x, tp, cs, t, b, rfl, hT, ty, e, q⟩ := h
  obtain ⟨u1, u2, rfl, r1, r2⟩ := vals2 r
  cases (show u2 = Value.ref tp from r2)
  obtain ⟨P, Z, p, hx⟩ := kit_of I r1 ty
  obtain ⟨its, rv, ⟨o, h1, h2, n, h3⟩, hz⟩ := I.tuple hT
  have e3 := vals_ty rv
  subst e3
  obtain ⟨oc, od, dt, sl⟩ := o
  simp only at h2 h3
  subst h2 h3
  exact PySem.W.kia_tup Z I.kIn p h1 e hx fun tk => ⟨.bl b, H, I.tok tk, rfl, q⟩
theorem Reps.tys {K : PySem.W.Frag} {F : Hp} : ∀ {vs : List V} {ns : List String}, Reps K F vs (ns.map DL.D.ty) → vs = ns.map V.ty
  | _, [], .nil => rfl
  | _, n :: ns, .cons h r => by cases h; rw [Reps.tys r]; rfl
def rIsiTD : DRA := fun xs M Q => ∃ (x : DL.D) (cs : List String) (n : String) (b : Bool), xs = [x, .tup (cs.map DL.D.ty)] ∧ TyM M x n ∧ kitAnyB n cs = some b ∧ Q (.bl b) M
theorem ref_isiT {K : PySem.W.Frag} : CallRef K (rIsiAV K) rIsiTD := by
  intro F H M vs xs Q Q' w r t q
  obtain ⟨x, cs, n, b, rfl, ht, hb, t⟩ := t
  obtain ⟨v, u, rfl, r1, r2⟩ := r.two
  generalize hcs : cs.map DL.D.ty = dcs at r2
  cases r2 with
  | tup h1 g =>
    subst hcs
    rw [g.tys] at h1
    exact ⟨v, _, cs, .type n, b, rfl, sqT_mono w.sub h1, ht.tyx w r1, kitAnyB_ok hb, q _ _ _ _ F (Stp.refl w) (.bl _) t⟩
end
end DL

set_option Elab.async false
set_option linter.all false
set_option maxRecDepth 100000
set_option maxHeartbeats 4000000
namespace DL
open PySem PySem.Spec PyProof.Rows L2
section
variable {K : PySem.W.Frag}
theorem Fun_kbn {x qual : Str} {st : Stmt} {f : Addr} {fd : FuncData} {ps ks : List Str} {g : List Value → List Value → List Value} {gV : List V → List V → List V} (F : Fun K x qual st f fd)
    (h : ∀ (kV doc pm : Value) (an : Option Addr) (cdv ct : Value) (ws : List Value), ws.length = ks.length → bindArgs (PySem.W.fnOf x qual (defArgs st) (defBody st) (defScope st) .none kV doc pm an cdv ct) ⟨[], ks.zip ws⟩ = pure (ps.zip (g [] ws)))
    (hrel : ∀ {zs : List V} {ws : List Value}, Vals zs ws → Vals (gV [] zs) (g [] ws)) (hg : ∀ us ws, g us ws = g [] ws := by intros; rfl) (hgV : ∀ us ws, gV us ws = gV [] ws := by intros; rfl) : KBn K fd ps 0 ks g gV := by
  obtain ⟨oc, od, kV, doc, pm, an, cdv, ct, osl, rfl, lk, hcd⟩ := F.ex
  refine ⟨fun s us ws X l1 l2 => ?_, fun r1 r2 => by rw [hg, hgV]; exact hrel r2⟩
  have : us = [] := List.length_eq_zero_iff.mp l1
  subst this
  exact .of_eq (h kV doc pm an cdv ct ws l2)
end
section
variable {K : PySem.W.Frag} {X : Cx} {pos : Pos}
theorem ref_lt : OpRef K (rI0 fun i j => .bl (decide (i < j))) rLt := ref_int0 fun _ _ => rfl
theorem ref_le : OpRef K (rI0 fun i j => .bl (decide (i ≤ j))) rLe := ref_int0 fun _ _ => rfl
theorem ref_gt : OpRef K (rI0 fun i j => .bl (decide (j < i))) rGt := ref_int0 fun _ _ => rfl
theorem ref_ge : OpRef K (rI0 fun i j => .bl (decide (j ≤ i))) rGe := ref_int0 fun _ _ => rfl
/-- a, b, c = x, y, z with plain local names -/
def dPar3 (i j l : Nat) (T : DTA) : DTS := fun D ρ M => T ρ M fun ds M1 => match ds with
  | [x, y, z] => D.nx (((ρ.set i (some x)).set j (some y)).set l (some z)) M1
  | _ => False
theorem ds_par3 {i j l : Nat} {x y z : Str} {a b c : Expr} {T : DTA} {px py pz pt : Pos} {kt k2 pt2} (hc : X.calm = true) (hN : X.N.Nodup) (hi : X.N[i]? = some x) (hj : X.N[j]? = some y) (hl : X.N[l]? = some z) (hij : i ≠ j) (hil : i ≠ l) (hjl : j ≠ l)
    (hx : X.env.scope.names.lookup x = some .local) (hy : X.env.scope.names.lookup y = some .local) (hz : X.env.scope.names.lookup z = some .local) (ha : DA X [a, b, c] T)
    (hw : swappedStores [.Tuple [.Name x px, .Name y py, .Name z pz] kt pt] (.Tuple [a, b, c] k2 pt2) X.env = pure (some [x, y, z]))
    (hs : swapsWithSole [.Tuple [.Name x px, .Name y py, .Name z pz] kt pt] (.Tuple [a, b, c] k2 pt2) pos.line X.env = pure false := by rfl) :
    DS X (.Assign [.Tuple [.Name x px, .Name y py, .Name z pz] kt pt] (.Tuple [a, b, c] k2 pt2) pos) (dPar3 i j l T) :=
  ps_imp (ps_par3 hc hN hi hj hl hij hil hjl hx hy hz ha hw hs) fun D σ H ⟨F, ρ, M, D', e, w, t, q⟩ => .of e w t fun ds M1 vs H1 F1 s1 r1 e1 t1 => by
    cases r1 with
    | nil => exact t1.elim
    | cons a r1 => cases r1 with
      | nil => exact t1.elim
      | cons b r1 => cases r1 with
        | nil => exact t1.elim
        | cons c r1 => cases r1 with
          | cons _ _ => exact t1.elim
          | nil => exact ⟨_, _, _, rfl, q.nx _ _ _ _ F1 s1 (((e1.set i a).set j b).set l c) t1⟩
end
theorem kitB_ii : kitB "int" "int" = some true := by decide +kernel
theorem kitB_ib : kitB "int" "bool" = some false := by decide +kernel
/-- the end of a body -/
theorem rtW_of {Q : QE} {d : DL.D} {M : MM} (h : Q d M) : rtW Q d M := ⟨M, WkM.refl M, h⟩
theorem rtW_w {Q : QE} {d : DL.D} {M M0 : MM} (k : WkM M M0) (h : Q d M0) : rtW Q d M := ⟨M0, k, h⟩
/-! ### readings by steps -/
/-- one statement, the others (K) aside -/
theorem seq_i {T U : DTS} {D' : DEnds} {ρ : Rho} {M : MM} (h : ∀ K, K = U D' → T { D' with nx := K } ρ M) : dSeq T U D' ρ M := h _ rfl
theorem comp_map {g : DTG} {tt : DTT} {te : DTE} {ρ : Rho} {its : List DL.D} {M : MM} {Q : List DL.D → MM → Prop} (f : DL.D → DL.D) : ∀ {acc : List DL.D}, acc.length + its.length ≤ sizeLine →
    (∀ x ∈ its, ∀ (R : QE) (N : MM → Prop), R (f x) M → g x ρ M fun ρ1 M1 => tt ρ1 M1 fun b M2 => if b = true then te ρ1 M2 R else N M2) → Q (acc ++ its.map f) M → dComp g tt te ρ its acc M Q := by
  induction its with
  | nil => intro acc _ _ hq; rw [List.map_nil, List.append_nil] at hq; exact hq
  | cons x xs ih =>
    intro acc hl step hq
    rw [List.length_cons] at hl
    exact step x (List.mem_cons_self ..) _ _ ⟨by omega, ih (acc := acc ++ [f x]) (by rw [List.length_append, List.length_singleton]; omega) (fun y hy => step y (List.mem_cons_of_mem _ hy)) (by rw [List.append_assoc]; exact hq)⟩
theorem comp_filter {g : DTG} {tt : DTT} {te : DTE} {ρ : Rho} {its : List DL.D} {M : MM} {Q : List DL.D → MM → Prop} (f : DL.D → DL.D) (p : DL.D → Bool) : ∀ {acc : List DL.D}, acc.length + its.length ≤ sizeLine →
    (∀ x ∈ its, ∀ (R : QE) (N : MM → Prop), (p x = true → R (f x) M) → (p x = false → N M) → g x ρ M fun ρ1 M1 => tt ρ1 M1 fun b M2 => if b = true then te ρ1 M2 R else N M2) → Q (acc ++ (its.filter p).map f) M → dComp g tt te ρ its acc M Q := by
  induction its with
  | nil => intro acc _ _ hq; rw [List.filter_nil, List.map_nil, List.append_nil] at hq; exact hq
  | cons x xs ih =>
    intro acc hl step hq
    rw [List.length_cons] at hl
    refine step x (List.mem_cons_self ..) _ _ (fun e => ⟨by omega, ih (acc := acc ++ [f x]) (by rw [List.length_append, List.length_singleton]; omega) (fun y hy => step y (List.mem_cons_of_mem _ hy)) ?_⟩) (fun e => ih (acc := acc) (by omega) (fun y hy => step y (List.mem_cons_of_mem _ hy)) ?_)
    · rw [List.filter_cons, if_pos e, List.map_cons] at hq
      rw [List.append_assoc]; exact hq
    · rw [List.filter_cons, if_neg (by rw [e]; nofun)] at hq
      exact hq
/-- a comprehension, by what holds between two turns -/
theorem comp_inv {g : DTG} {tt : DTT} {te : DTE} {ρ : Rho} {its : List DL.D} {M : MM} {Q : List DL.D → MM → Prop} (W : Nat → List DL.D → MM → Prop) (h0 : W 0 [] M) (hl : its.length ≤ sizeLine) (hlen : ∀ i acc M, W i acc M → acc.length ≤ i)
    (step : ∀ i x acc M, its[i]? = some x → W i acc M → ∀ (R : QE) (N : MM → Prop), (∀ y M', W (i + 1) (acc ++ [y]) M' → R y M') → (∀ M', W (i + 1) acc M' → N M') → g x ρ M fun ρ1 M1 => tt ρ1 M1 fun b M2 => if b = true then te ρ1 M2 R else N M2)
    (hd : ∀ acc M, W its.length acc M → Q acc M) : dComp g tt te ρ its [] M Q := by
  have go : ∀ (k : Nat) (xs : List DL.D) (i : Nat) (acc : List DL.D) (M : MM), xs = its.drop i → i ≤ its.length → xs.length = k → W i acc M → dComp g tt te ρ xs acc M Q := by
    intro k
    induction k with
    | zero =>
      intro xs i acc M e hi hk w
      have : xs = [] := List.length_eq_zero_iff.mp hk
      subst this
      have hl := congrArg List.length e
      rw [List.length_drop, List.length_nil] at hl
      have : i = its.length := by omega
      subst this
      exact hd acc M w
    | succ k ih =>
      intro xs i acc M e hi hk w
      cases xs with
      | nil => cases hk
      | cons x xs =>
        have hl2 := congrArg List.length e
        rw [List.length_drop, List.length_cons] at hl2
        have hlt : i < its.length := by omega
        rw [List.drop_eq_getElem_cons hlt] at e
        injection e with e1 e2
        rw [List.length_cons] at hk
        refine step i x acc M (by rw [e1]; exact List.getElem?_eq_getElem hlt) w _ _ (fun y M' w' => ⟨?_, ih xs (i + 1) (acc ++ [y]) M' e2 (by omega) (by omega) w'⟩) (fun M' w' => ih xs (i + 1) acc M' e2 (by omega) (by omega) w')
        have := hlen i acc M w
        omega
  exact go its.length its 0 [] M rfl (Nat.zero_le _) rfl h0
/-- cuts of data -/
theorem cutD_take {α : Type} (xs : List α) (n : Nat) : cutD xs none (some (n : Int)) = xs.take n := by
  unfold cutD
  rw [show HT.sIx xs.length 0 none = 0 from HT.sIx_none _ _, show HT.sIx xs.length xs.length (some (n : Int)) = min n xs.length from HT.sIx_nat _ _ _, List.drop_zero, Nat.sub_zero]
  by_cases h : n ≤ xs.length
  · rw [Nat.min_eq_left h]
  · rw [Nat.min_eq_right (by omega), List.take_of_length_le (Nat.le_refl _), List.take_of_length_le (by omega)]
end DL

set_option Elab.async false
set_option linter.all false
set_option maxRecDepth 100000
set_option maxHeartbeats 4000000
namespace DL
open PySem PySem.Spec PyProof.Rows L2
/-! ### how long a repr is -/
mutual
def D.wt : DL.D → Nat
  | .str s => 10 * s.length + 2
  | .int _ => 22
  | .tup xs => D.wts xs + 4
  | .lst xs => D.wts xs + 4
  | .scr xs => D.wts xs + 4
  | _ => 5
def D.wts : List DL.D → Nat
  | [] => 0
  | x :: xs => D.wt x + 2 + D.wts xs
end
mutual
/-- data whose repr is short: ints of at most twenty digits, texts of signs -/
def D.nice : DL.D → Bool
  | .int i => decide (i.natAbs < 10 ^ 20)
  | .str s => s.cps.toList.all fun c => decide (c < 16 ^ 8)
  | .tup xs => D.nices xs
  | .lst xs => D.nices xs
  | .scr xs => D.nices xs
  | .ty _ => false
  | .ptr _ => false
  | _ => true
def D.nices : List DL.D → Bool
  | [] => true
  | x :: xs => D.nice x && D.nices xs
end
mutual
def D.dp : DL.D → Nat
  | .tup xs => D.dps xs + 1
  | .lst xs => D.dps xs + 1
  | .scr xs => D.dps xs + 1
  | _ => 0
def D.dps : List DL.D → Nat
  | [] => 0
  | x :: xs => max (D.dp x) (D.dps xs)
end
theorem listText_le (ts : List Str) : (listText ts).length ≤ piled ts + 4 := by
  cases ts with
  | nil => decide
  | cons t r =>
    have h := textFrom_length_pos r 1 (("[" : Str) ++ (if (0 : Nat) > 0 then ", " else "" : String) ++ t) (Nat.succ_pos 0)
    have e : ((("[" : Str) ++ (if (0 : Nat) > 0 then ", " else "" : String) ++ t)).length = 1 + t.length := by
      rw [strLen_append, strLen_append]; rfl
    have hX : (listText (t :: r)).length = (textFrom 0 "[" (t :: r)).length + 1 := by
      show (textFrom 0 "[" (t :: r) ++ "]").length = _
      rw [strLen_append]; rfl
    have hY : (textFrom 0 "[" (t :: r)).length = (textFrom 1 (("[" : Str) ++ (if (0 : Nat) > 0 then ", " else "" : String) ++ t) r).length := rfl
    rw [hX, hY, h, e, piled_cons]; omega
theorem tupleText_le (ts : List Str) : (tupleText ts).length ≤ piled ts + 4 := by
  unfold tupleText
  rw [strLen_append, strLen_append]
  have e1 : ((("(" : String) : Str)).length = 1 := rfl
  have e3 : (((if ts.length == 1 then ",)" else ")" : String) : Str)).length ≤ 2 := by split <;> decide
  rw [e1]
  cases ts with
  | nil =>
    have : (Str.join ", " ([] : List Str)).length = 0 := rfl
    omega
  | cons t r =>
    have := join_length_add (t :: r) (by simp)
    omega
mutual
theorem D.show_ok : ∀ d : DL.D, d.nice = true → d.py.showable = true ∧ d.py.hasDict = false ∧ d.py.depth = d.dp ∧ d.py.shown.length ≤ d.wt ∧ d.ok = true
  | .non, _ => ⟨by simp [D.py, PyData.showable], by simp [D.py, PyData.hasDict], by simp [D.py, PyData.depth, D.dp], by simp only [D.py, PyData.shown, D.wt]; decide, by simp [D.ok]⟩
  | .bl b, _ => ⟨by simp [D.py, PyData.showable], by simp [D.py, PyData.hasDict], by simp [D.py, PyData.depth, D.dp], by simp only [D.py, PyData.shown, D.wt]; cases b <;> decide, by simp [D.ok]⟩
  | .int i, h => by
    have h : i.natAbs < 10 ^ 20 := by simpa [D.nice] using h
    refine ⟨?_, by simp [D.py, PyData.hasDict], by simp [D.py, PyData.depth, D.dp], ?_, by simp [D.ok]⟩
    · simp only [D.py, PyData.showable, decide_eq_true_eq]
      by_cases h0 : i.natAbs = 0
      · rw [h0]; decide
      · refine (Nat.log2_lt h0).mpr (Nat.lt_trans h (Nat.lt_of_lt_of_le (by decide : 10 ^ 20 < 2 ^ 70) (Nat.pow_le_pow_right (by decide) (by decide : 70 ≤ 1920))))
    · simp only [D.py, PyData.shown, D.wt]
      have := int_text_length_le10 (k := 20) (by decide) h
      show (Str.ofString (toString i)).length ≤ 22
      rw [PySem.ofString_length]
      exact Nat.le_succ_of_le this
  | .str s, h => by
    refine ⟨by simp [D.py, PyData.showable], by simp [D.py, PyData.hasDict], by simp [D.py, PyData.depth, D.dp], ?_, by simp [D.ok]⟩
    simp only [D.py, PyData.shown, D.wt]
    refine StrLaws.reprText_len s fun c hc => ?_
    rw [D.nice] at h
    have := List.all_eq_true.mp h c hc
    simpa using this
  | .ty _, h => by rw [D.nice] at h; cases h
  | .ptr _, h => by rw [D.nice] at h; cases h
  | .tup xs, h => by
    rw [D.nice] at h
    obtain ⟨h1, h2, h3, h4, h5⟩ := D.shows_ok xs h
    refine ⟨by simp only [D.py, PyData.showable]; exact h1, by simp only [D.py, PyData.hasDict]; exact h2, by simp only [D.py, PyData.depth, D.dp, h3], ?_, by simp only [D.ok]; exact h5⟩
    simp only [D.py, PyData.shown, D.wt]
    exact Nat.le_trans (tupleText_le _) (by omega)
  | .lst xs, h => by
    rw [D.nice] at h
    obtain ⟨h1, h2, h3, h4, h5⟩ := D.shows_ok xs h
    refine ⟨by simp only [D.py, PyData.showable]; exact h1, by simp only [D.py, PyData.hasDict]; exact h2, by simp only [D.py, PyData.depth, D.dp, h3], ?_, by simp only [D.ok]; exact h5⟩
    simp only [D.py, PyData.shown, D.wt]
    exact Nat.le_trans (listText_le _) (by omega)
  | .scr xs, h => by
    rw [D.nice] at h
    obtain ⟨h1, h2, h3, h4, h5⟩ := D.shows_ok xs h
    refine ⟨by simp only [D.py, PyData.showable]; exact h1, by simp only [D.py, PyData.hasDict]; exact h2, by simp only [D.py, PyData.depth, D.dp, h3], ?_, by simp only [D.ok]; exact h5⟩
    simp only [D.py, PyData.shown, D.wt]
    exact Nat.le_trans (listText_le _) (by omega)
theorem D.shows_ok : ∀ ds : List DL.D, D.nices ds = true → PyData.showableAll (D.pys ds) = true ∧ PyData.hasDictAll (D.pys ds) = false ∧ PyData.depthAll (D.pys ds) = D.dps ds ∧ piled (PyData.shownAll (D.pys ds)) ≤ D.wts ds ∧ D.oks ds = true
  | [], _ => ⟨by simp [D.pys, PyData.showableAll], by simp [D.pys, PyData.hasDictAll], by simp [D.pys, PyData.depthAll, D.dps], by simp [D.pys, PyData.shownAll, piled_nil], by simp [D.oks]⟩
  | d :: ds, h => by
    rw [D.nices, Bool.and_eq_true] at h
    obtain ⟨a1, a2, a3, a4, a5⟩ := D.show_ok d h.1
    obtain ⟨b1, b2, b3, b4, b5⟩ := D.shows_ok ds h.2
    refine ⟨by simp only [D.pys, PyData.showableAll, a1, b1, Bool.and_self], by simp only [D.pys, PyData.hasDictAll, a2, b2, Bool.or_self], by simp only [D.pys, PyData.depthAll, D.dps, a3, b3], ?_, by simp only [D.oks, a5, b5, Bool.and_self]⟩
    simp only [D.pys, PyData.shownAll, piled_cons, D.wts]
    omega
end
theorem D.nices_iff : ∀ ds : List DL.D, D.nices ds = true ↔ ∀ d ∈ ds, d.nice = true
  | [] => by simp [D.nices]
  | d :: ds => by simp [D.nices, D.nices_iff ds]
theorem D.oks_iff : ∀ ds : List DL.D, D.oks ds = true ↔ ∀ d ∈ ds, d.ok = true
  | [] => by simp [D.oks]
  | d :: ds => by simp [D.oks, D.oks_iff ds]
theorem D.wts_le {n : Nat} : ∀ ds : List DL.D, (∀ d ∈ ds, d.wt ≤ n) → D.wts ds ≤ ds.length * (n + 2)
  | [], _ => by simp [D.wts]
  | d :: ds, h => by
    have h1 := h d (List.mem_cons_self ..)
    have h2 := D.wts_le ds fun x hx => h x (List.mem_cons_of_mem _ hx)
    rw [D.wts, List.length_cons, Nat.succ_mul]
    omega
theorem D.dps_le {n : Nat} : ∀ ds : List DL.D, (∀ d ∈ ds, d.dp ≤ n) → D.dps ds ≤ n
  | [], _ => by simp [D.dps]
  | d :: ds, h => by
    rw [D.dps]
    exact Nat.max_le.mpr ⟨h d (List.mem_cons_self ..), D.dps_le ds fun x hx => h x (List.mem_cons_of_mem _ hx)⟩
theorem repr_q {x : DL.D} {M : MM} {Q : QE} (hx : ∃ xs, x = .tup xs ∨ x = .lst xs) (hn : x.nice = true) (hd : x.dp ≤ 30) (hw : x.wt ≤ sizeLine) (h : Q (.str x.py.shown) M) : rReprD [x] M Q := by
  obtain ⟨h1, h2, h3, h4, h5⟩ := D.show_ok x hn
  exact ⟨x, rfl, h5, by rcases hx with ⟨xs, rfl | rfl⟩ <;> trivial, h1, h2, by rw [h3]; exact hd, Nat.le_trans h4 hw, h⟩
/-! ### == over data -/
theorem oks_ints : ∀ ns : List Int, D.oks (ns.map D.int) = true
  | [] => by simp [D.oks]
  | n :: ns => by simp [D.oks, D.ok, oks_ints ns]
theorem lay_ints : ∀ ns : List Int, PyData.canLayAll0 (D.pys (ns.map D.int)) = true
  | [] => by simp [D.pys, PyData.canLayAll0]
  | n :: ns => by simp [D.pys, D.py, PyData.canLayAll0, PyData.canLay0, lay_ints ns]
theorem dep_ints : ∀ ns : List Int, PyData.depthAll (D.pys (ns.map D.int)) = 0
  | [] => by simp [D.pys, PyData.depthAll]
  | n :: ns => by simp [D.pys, D.py, PyData.depthAll, PyData.depth, dep_ints ns]
theorem eqv_ints : ∀ ns ms : List Int, PyData.eqvAll (D.pys (ns.map D.int)) (D.pys (ms.map D.int)) = decide (ns = ms)
  | [], [] => by simp [D.pys, PyData.eqvAll]
  | n :: ns, [] => by simp [D.pys, PyData.eqvAll]
  | [], m :: ms => by simp [D.pys, PyData.eqvAll]
  | n :: ns, m :: ms => by
    simp only [List.map_cons, D.pys, D.py, PyData.eqvAll, PyData.eqv, eqv_ints ns ms, List.cons.injEq, Bool.decide_and]
    rw [Bool.beq_eq_decide_eq]
theorem shaped_ints (ns : List Int) : SeqAt.shaped (.list (D.pys (ns.map D.int))) = true := by
  unfold SeqAt.shaped
  simp [PyData.canLay0, PyData.depth, lay_ints, dep_ints]
theorem neD_ints {ns ms : List Int} {M : MM} {Q : QE} (h : Q (.bl (!decide (ns = ms))) M) : DL.rNeD (.lst (ns.map D.int)) (.lst (ms.map D.int)) M Q := by
  refine ⟨.list (D.pys (ns.map D.int)), .list (D.pys (ms.map D.int)), ?_, ?_, shaped_ints _, shaped_ints _, ?_⟩
  · have := PyOf.pure (M := M) (d := .lst (ns.map D.int)) (by rw [D.ok]; exact oks_ints _)
    rw [D.py] at this; exact this
  · have := PyOf.pure (M := M) (d := .lst (ms.map D.int)) (by rw [D.ok]; exact oks_ints _)
    rw [D.py] at this; exact this
  · rw [show PyData.eqv (.list (D.pys (ns.map D.int))) (.list (D.pys (ms.map D.int))) = PyData.eqvAll (D.pys (ns.map D.int)) (D.pys (ms.map D.int)) from by rw [PyData.eqv], eqv_ints]
    exact h
end DL

set_option Elab.async false
set_option linter.all false
set_option maxRecDepth 100000
set_option maxHeartbeats 4000000
namespace DL
open PySem PySem.Spec PyProof.Rows L2
/-! ### readings by the kind of data -/
theorem at_d {α : Type} {xs : List α} {z : Int} {j : Nat} {v : α} (h : xs[j]? = some v) (e : z = (j : Int)) : atI xs z = some v := by
  rw [e]
  exact atI_nat h
theorem ix_d {n j : Nat} {z : Int} (e : z = (j : Int)) (h : j < n) : ixN n z = some j := by
  unfold ixN
  rw [if_pos (by omega), if_pos (by omega)]
  congr 1
  omega
section
variable {M : MM} {Q : QE} {xs ys ds : List DL.D} {i j : Int} {s t : Str} {b c : Bool} {p a : Addr} {lo hi : Option Int}
theorem q_ixT : DL.rIxD (.tup ds) (.int i) M Q = ∃ d, atI ds i = some d ∧ Q d M := rfl
theorem q_ixL : DL.rIxD (.lst ds) (.int i) M Q = ∃ d, atI ds i = some d ∧ Q d M := rfl
theorem q_ixS : DL.rIxD (.scr ds) (.int i) M Q = ∃ d, atI ds i = some d ∧ Q d M := rfl
theorem q_ixP : DL.rIxD (.ptr p) (.int i) M Q = ∃ ds, (p, .lst ds) ∈ M ∧ ∃ d, atI ds i = some d ∧ Q d M := propext ⟨fun ⟨ds, d, h1, h2, h3⟩ => ⟨ds, h1, d, h2, h3⟩, fun ⟨ds, h1, d, h2, h3⟩ => ⟨ds, d, h1, h2, h3⟩⟩
theorem q_ixC : DL.rIxD (.str s) (.int i) M Q = (s.length ≤ sizeLine ∧ ∃ c, atI s.cps.toList i = some c ∧ Q (.str ⟨#[c]⟩) M) := rfl
theorem q_int {C : Int → Int → Prop} {g : Int → Int → DL.D} : rInt C g (.int i) (.int j) M Q = (C i j ∧ Q (g i j) M) := rfl
theorem q_int0 {g : Int → Int → DL.D} : rInt0 g (.int i) (.int j) M Q = Q (g i j) M := rfl
theorem q_addI : rAddD (.int i) (.int j) M Q = Q (.int (i + j)) M := rfl
theorem q_addS : rAddD (.str s) (.str t) M Q = (s.length + t.length ≤ sizeLine ∧ Q (.str (s ++ t)) M) := rfl
theorem q_addT : rAddD (.tup xs) (.tup ys) M Q = (xs.length + ys.length ≤ sizeLine ∧ Q (.tup (xs ++ ys)) M) := rfl
theorem q_addL : rAddD (.lst xs) (.lst ys) M Q = (xs.length + ys.length ≤ sizeLine ∧ Q (.lst (xs ++ ys)) M) := rfl
theorem q_mulI : rMulD (.int i) (.int j) M Q = (IntMulOk i j ∧ Q (.int (i * j)) M) := rfl
theorem q_mulL : rMulD (.lst ds) (.int j) M Q = (-(2 ^ 63) ≤ j ∧ j < 2 ^ 63 ∧ ds.length * j.toNat ≤ sizeLine ∧ Q (.lst (List.replicate j.toNat ds).flatten) M) := rfl
theorem q_mulM : rMulM (.lst ds) (.int j) M Q = (-(2 ^ 63) ≤ j ∧ j < 2 ^ 63 ∧ ds.length * j.toNat ≤ sizeLine ∧ ∀ p, Q (.ptr p) ((p, .lst (List.replicate j.toNat ds).flatten) :: M)) := rfl
theorem one_ex {P : DL.D → Prop} {x : DL.D} : (∃ y, [x] = [y] ∧ P y) ↔ P x := ⟨fun ⟨y, e, h⟩ => by cases e; exact h, fun h => ⟨x, rfl, h⟩⟩
theorem q_lenS : DL.rLen [.str s] M Q = (s.length ≤ sizeLine ∧ Q (.int s.length) M) := propext one_ex
theorem q_lenT : DL.rLen [.tup ys] M Q = Q (.int ys.length) M := propext one_ex
theorem q_lenL : DL.rLen [.lst ys] M Q = Q (.int ys.length) M := propext one_ex
theorem q_lenX : DL.rLen [.scr ys] M Q = Q (.int ys.length) M := propext one_ex
theorem q_lenP : DL.rLen [.ptr p] M Q = (∃ ys, (p, .lst ys) ∈ M ∧ Q (.int ys.length) M) := propext one_ex
theorem q_intI : rIntOf [.int i] M Q = Q (.int i) M := propext one_ex
theorem q_intB : rIntOf [.bl b] M Q = Q (.int (if b then 1 else 0)) M := propext one_ex
theorem q_eqI : rEqF (.int i) (.int j) M Q = Q (.bl (decide (i = j))) M := rfl
theorem q_eqS : rEqF (.str s) (.str t) M Q = Q (.bl (decide (s = t))) M := rfl
theorem q_eqB : rEqF (.bl b) (.bl c) M Q = Q (.bl (decide (b = c))) M := rfl
theorem q_neI : rNeF (.int i) (.int j) M Q = Q (.bl (!decide (i = j))) M := rfl
theorem q_neS : rNeF (.str s) (.str t) M Q = Q (.bl (!decide (s = t))) M := rfl
theorem q_neB : rNeF (.bl b) (.bl c) M Q = Q (.bl (!decide (b = c))) M := rfl
theorem q_slT : rSlD (.tup ds) lo hi M Q = Q (.tup (cutD ds lo hi)) M := rfl
theorem q_slL : rSlD (.lst ds) lo hi M Q = Q (.lst (cutD ds lo hi)) M := rfl
theorem q_slX : rSlD (.scr ds) lo hi M Q = Q (.lst (cutD ds lo hi)) M := rfl
theorem q_slP : rSlD (.ptr p) lo hi M Q = (∃ ds, (p, .lst ds) ∈ M ∧ Q (.lst (cutD ds lo hi)) M) := rfl
theorem q_slS : rSlD (.str s) lo hi M Q = (s.length ≤ sizeLine ∧ Q (.str (cutS s lo hi)) M) := rfl
/-- what a for walks, if it is data -/
def itq (x : DL.D) (M : MM) (Q : List DL.D → MM → Prop) : Prop := match x with
  | .lst xs => Q xs M
  | .tup xs => Q xs M
  | .scr xs => Q xs M
  | _ => False
theorem dIt_q (Te : DTE) : dIt Te = fun ρ M Q => Te ρ M fun x M1 => itq x M1 Q := rfl
variable {R : List DL.D → MM → Prop}
theorem q_itL : itq (.lst xs) M R = R xs M := rfl
theorem q_itT : itq (.tup xs) M R = R xs M := rfl
theorem q_itX : itq (.scr xs) M R = R xs M := rfl
theorem q_mem {A B : MM} {m : MO} : ((p, m) ∈ A ++ (p, m) :: B) = True := by simp
end
end DL
namespace DL
open PySem PySem.Spec PyProof.Rows L2
/-- a comprehension that changes nothing: ys, item by item -/
theorem comp_to {g : DTG} {tt : DTT} {te : DTE} {ρ : Rho} {its : List DL.D} {M : MM} {Q : List DL.D → MM → Prop} (ys : List DL.D) (hlen : ys.length = its.length) (hl : its.length ≤ sizeLine)
    (step : ∀ (i : Nat) (x y : DL.D), its[i]? = some x → ys[i]? = some y → ∀ (R : QE) (N : MM → Prop), R y M → g x ρ M fun ρ1 M1 => tt ρ1 M1 fun b M2 => if b = true then te ρ1 M2 R else N M2) (hq : Q ys M) : dComp g tt te ρ its [] M Q := by
  refine comp_inv (fun i acc M' => acc = ys.take i ∧ M' = M) ⟨rfl, rfl⟩ hl (fun i acc M' h => by rw [h.1, List.length_take]; exact Nat.min_le_left _ _) (fun i x acc M' hx h R N hR hN => ?_) (fun acc M' h => ?_)
  · obtain ⟨rfl, rfl⟩ := h
    have hi : i < ys.length := by rw [hlen]; exact (List.getElem?_eq_some_iff.mp hx).1
    refine step i x ys[i] hx (List.getElem?_eq_getElem hi) R N (hR _ _ ⟨?_, rfl⟩)
    rw [List.take_add_one, List.getElem?_eq_getElem hi]
    rfl
  · obtain ⟨rfl, rfl⟩ := h
    rw [← hlen, List.take_length]
    exact hq
end DL
namespace DL
open PySem PySem.Spec PyProof.Rows L2
theorem isiT_q (cs : List String) (n : String) {b : Bool} {x : DL.D} {M : MM} {Q : QE} (hn : TyM M x n) (hk : kitAnyB n cs = some b) (h : Q (.bl b) M) : rIsiTD [x, .tup (cs.map DL.D.ty)] M Q := ⟨x, cs, n, b, rfl, hn, hk, h⟩
theorem kit_lt_t : kitAnyB "tuple" ["list", "tuple"] = some true := by decide +kernel
theorem kit_lt_l : kitAnyB "list" ["list", "tuple"] = some true := by decide +kernel
theorem all_q {ys : List DL.D} {bs : List Bool} {M : MM} {Q : QE} (e : ys = bs.map DL.D.bl) (h : Q (.bl (bs.all id)) M) : rAllD [.lst ys] M Q := ⟨_, bs, rfl, e, h⟩
theorem any_q {ys : List DL.D} {bs : List Bool} {M : MM} {Q : QE} (e : ys = bs.map DL.D.bl) (h : Q (.bl (bs.any id)) M) : rAnyD [.lst ys] M Q := ⟨_, bs, rfl, e, h⟩
theorem sum_q {ys : List DL.D} {ns : List Int} {M : MM} {Q : QE} (e : ys = ns.map DL.D.int) (h : Q (.int ns.sum) M) : DL.rSumD [.lst ys] M Q := ⟨_, ns, rfl, e, h⟩
theorem sortI_q {ys : List DL.D} {ns : List Int} {M : MM} {Q : QE} (e : ys = ns.map DL.D.int) (h : ∀ ns' : List Int, ns'.Perm ns → ns'.Pairwise (· ≤ ·) → Q (.lst (ns'.map D.int)) M) : rSortI [.lst ys] M Q := ⟨_, ns, rfl, e, h⟩
theorem sortP_q {ys : List DL.D} {ps : List (Int × Int)} {M : MM} {Q : QE} (e : ys = ps.map prD) (h : ∀ ps' : List (Int × Int), ps'.Perm ps → ps'.Pairwise lexLe → Q (.lst (ps'.map prD)) M) : DL.rSortP [.lst ys] M Q := ⟨_, ps, rfl, e, h⟩
theorem sortPp_q {p : Addr} {ps : List (Int × Int)} {M : MM} {Q : QE} (e : (p, .lst (ps.map prD)) ∈ M) (h : ∀ ps' : List (Int × Int), ps'.Perm ps → ps'.Pairwise lexLe → Q (.lst (ps'.map prD)) M) : DL.rSortP [.ptr p] M Q := ⟨_, ps, rfl, e, h⟩
theorem sortIp_q {p : Addr} {ns : List Int} {M : MM} {Q : QE} (e : (p, .lst (ns.map D.int)) ∈ M) (h : ∀ ns' : List Int, ns'.Perm ns → ns'.Pairwise (· ≤ ·) → Q (.lst (ns'.map D.int)) M) : rSortI [.ptr p] M Q := ⟨_, ns, rfl, e, h⟩
theorem chain_q {k : Bool} {P N : Prop} : (match D.bl k with | .bl k => if k = true then P else N | _ => False) = if k = true then P else N := rfl
end DL
namespace DL
open PySem PySem.Spec PyProof.Rows L2
/-- data that is a list or a tuple -/
def SeqX (x : DL.D) (xs : List DL.D) : Prop := x = .lst xs ∨ x = .tup xs
theorem SeqX.isi {x : DL.D} {xs : List DL.D} {M : MM} {Q : QE} (h : SeqX x xs) (q : Q (.bl true) M) : rIsiTD [x, .tup [.ty "list", .ty "tuple"]] M Q := by
  rcases h with rfl | rfl
  · exact isiT_q ["list", "tuple"] "list" rfl kit_lt_l q
  · exact isiT_q ["list", "tuple"] "tuple" rfl kit_lt_t q
theorem SeqX.len {x : DL.D} {xs : List DL.D} {M : MM} {Q : QE} (h : SeqX x xs) (q : Q (.int xs.length) M) : DL.rLen [x] M Q := by
  rcases h with rfl | rfl
  · rw [q_lenL]; exact q
  · rw [q_lenT]; exact q
theorem SeqX.it {x : DL.D} {xs : List DL.D} {M : MM} {Q : List DL.D → MM → Prop} (h : SeqX x xs) (q : Q xs M) : itq x M Q := by
  rcases h with rfl | rfl <;> exact q
theorem SeqX.of {x : DL.D} {xs : List DL.D} (h : SeqX x xs) : seqOf x = some xs := by
  rcases h with rfl | rfl <;> rfl
theorem SeqX.ix {x : DL.D} {xs : List DL.D} {M : MM} {Q : QE} {i : Int} {d : DL.D} (h : SeqX x xs) (hd : atI xs i = some d) (q : Q d M) : DL.rIxD x (.int i) M Q := by
  rcases h with rfl | rfl <;> exact ⟨d, hd, q⟩
end DL
namespace DL
theorem sz0 : (0 ≤ PySem.sizeLine) = True := eq_true (by decide)
theorem sz1 : (1 ≤ PySem.sizeLine) = True := eq_true (by decide)
theorem sz2 : (2 ≤ PySem.sizeLine) = True := eq_true (by decide)
theorem sz3 : (3 ≤ PySem.sizeLine) = True := eq_true (by decide)
theorem sz4 : (4 ≤ PySem.sizeLine) = True := eq_true (by decide)
theorem sz5 : (5 ≤ PySem.sizeLine) = True := eq_true (by decide)
theorem sz6 : (6 ≤ PySem.sizeLine) = True := eq_true (by decide)
theorem sz7 : (7 ≤ PySem.sizeLine) = True := eq_true (by decide)
theorem sz8 : (8 ≤ PySem.sizeLine) = True := eq_true (by decide)
theorem sz9 : (9 ≤ PySem.sizeLine) = True := eq_true (by decide)
theorem sz10 : (10 ≤ PySem.sizeLine) = True := eq_true (by decide)
theorem sz11 : (11 ≤ PySem.sizeLine) = True := eq_true (by decide)
theorem sz12 : (12 ≤ PySem.sizeLine) = True := eq_true (by decide)
end DL
namespace DL
open PySem PySem.Spec PyProof.Rows L2
theorem flat_ints (ns : List Int) : (ns.map DL.D.int).all flatD = true := by
  rw [List.all_map]
  exact List.all_eq_true.mpr fun _ _ => rfl
theorem inP_q {neg : Bool} {i : Int} {ns : List Int} {p : Addr} {M : MM} {Q : QE} (h : (p, .lst (ns.map DL.D.int)) ∈ M) (q : Q (.bl (if neg = true then !decide (i ∈ ns) else decide (i ∈ ns))) M) : rInD neg (.int i) (.ptr p) M Q :=
  ⟨ns.map DL.D.int, h, rfl, flat_ints ns, by rw [inD_int]; exact q⟩
theorem inX_q {neg : Bool} {i : Int} {ns : List Int} {x : DL.D} {M : MM} {Q : QE} (h : SeqX x (ns.map DL.D.int)) (q : Q (.bl (if neg = true then !decide (i ∈ ns) else decide (i ∈ ns))) M) : rInD neg (.int i) x M Q :=
  ⟨ns.map DL.D.int, by rcases h with rfl | rfl <;> rfl, rfl, flat_ints ns, by rw [inD_int]; exact q⟩
end DL
namespace DL
open PySem PySem.Spec PyProof.Rows L2
/-- what enumerate walks -/
def enq (x : DL.D) (M : MM) (Q : List DL.D → MM → Prop) : Prop := match x with
  | .lst xs => Q (enumD xs) M
  | .tup xs => Q (enumD xs) M
  | .scr xs => Q (enumD xs) M
  | _ => False
theorem dEnum_q (T : DTE) : dEnum (dCons T dNil) = fun ρ M Q => T ρ M fun x M1 => enq x M1 Q := by
  funext ρ M Q
  unfold dEnum dCons dNil
  congr 1
  funext x M1
  cases x <;> rfl
theorem q_enL {xs : List DL.D} {M : MM} {Q : List DL.D → MM → Prop} : enq (.lst xs) M Q = Q (enumD xs) M := rfl
theorem q_enT {xs : List DL.D} {M : MM} {Q : List DL.D → MM → Prop} : enq (.tup xs) M Q = Q (enumD xs) M := rfl
theorem q_enX {xs : List DL.D} {M : MM} {Q : List DL.D → MM → Prop} : enq (.scr xs) M Q = Q (enumD xs) M := rfl
theorem SeqX.en {x : DL.D} {xs : List DL.D} {M : MM} {Q : List DL.D → MM → Prop} (h : SeqX x xs) (q : Q (enumD xs) M) : enq x M Q := by
  rcases h with rfl | rfl <;> exact q
end DL
namespace DL
open PySem PySem.Spec PyProof.Rows L2
/-! sizes of lists of ints -/
theorem nices_ints {ns : List Int} (h : ∀ z ∈ ns, z.natAbs < 10 ^ 20) : D.nices (ns.map DL.D.int) = true := by
  rw [D.nices_iff]
  intro d hd
  obtain ⟨z, hz, rfl⟩ := List.mem_map.mp hd
  rw [D.nice]
  exact decide_eq_true (h z hz)
theorem wts_ints (ns : List Int) : D.wts (ns.map DL.D.int) ≤ ns.length * 24 := by
  have := D.wts_le (n := 22) (ns.map DL.D.int) fun d hd => by
    obtain ⟨z, hz, rfl⟩ := List.mem_map.mp hd
    rw [D.wt]; exact Nat.le_refl _
  rwa [List.length_map] at this
theorem dps_ints (ns : List Int) : D.dps (ns.map DL.D.int) = 0 := Nat.le_zero.mp (D.dps_le _ fun d hd => by
    obtain ⟨z, hz, rfl⟩ := List.mem_map.mp hd
    simp only [D.dp]; exact Nat.le_refl _)
theorem nice_prD {p : Int × Int} (h1 : p.1.natAbs < 10 ^ 20) (h2 : p.2.natAbs < 10 ^ 20) : (prD p).nice = true := by
  unfold prD
  simp only [D.nice, D.nices, h1, h2, decide_true, Bool.and_self]
theorem wt_prD (p : Int × Int) : (prD p).wt = 52 := by
  unfold prD
  simp only [D.wt, D.wts]
theorem dp_prD (p : Int × Int) : (prD p).dp = 1 := by
  unfold prD
  simp only [D.dp, D.dps]; rfl
end DL

set_option Elab.async false
set_option linter.all false
set_option maxRecDepth 100000
set_option maxHeartbeats 4000000
namespace K63
open DL (lexLe)
/-! ### the mathematics of plans -/
def duesOf (fs made : List Int) : List (Int × Int) := fs.mapIdx fun i f => ((made.getD i 0 + 1) * f, (i : Int))
def srt (l : List Int) : List Int := l.mergeSort fun a b => decide (a ≤ b)
def leB (p q : Int × Int) : Bool := decide (p.1 < q.1) || (decide (p.1 = q.1) && decide (p.2 ≤ q.2))
theorem leB_iff {p q : Int × Int} : leB p q = true ↔ lexLe p q := by
  unfold leB lexLe
  simp
def srtP (l : List (Int × Int)) : List (Int × Int) := l.mergeSort leB
theorem srt_perm (l : List Int) : (srt l).Perm l := List.mergeSort_perm l _
theorem srtP_perm (l : List (Int × Int)) : (srtP l).Perm l := List.mergeSort_perm l _
theorem srt_sorted (l : List Int) : (srt l).Pairwise (· ≤ ·) := by
  have := List.pairwise_mergeSort (le := fun a b : Int => decide (a ≤ b)) (fun a b c h k => by simp at *; omega) (fun a b => by simp; omega) l
  exact this.imp fun h => by simpa using h
theorem srtP_sorted (l : List (Int × Int)) : (srtP l).Pairwise lexLe := by
  have := List.pairwise_mergeSort (le := leB) (fun a b c h k => by
    rw [leB_iff] at *
    unfold lexLe at *
    omega) (fun a b => by
    rw [Bool.or_eq_true, leB_iff, leB_iff]
    unfold lexLe
    omega) l
  exact this.imp fun h => leB_iff.mp h
theorem srt_eq {l l' : List Int} (h : l'.Perm l) (s : l'.Pairwise (· ≤ ·)) : l' = srt l :=
  List.Perm.eq_of_pairwise (fun a b _ _ h1 h2 => Int.le_antisymm h1 h2) s (srt_sorted l) (h.trans (srt_perm l).symm)
theorem srtP_eq {l l' : List (Int × Int)} (h : l'.Perm l) (s : l'.Pairwise lexLe) : l' = srtP l :=
  List.Perm.eq_of_pairwise (fun a b _ _ h1 h2 => by
    unfold lexLe at h1 h2
    exact Prod.ext (by omega) (by omega)) s (srtP_sorted l) (h.trans (srtP_perm l).symm)
/-- the places in the order of their dues -/
def ordOf (fs made : List Int) : List Int := (srtP (duesOf fs made)).map (·.2)
def rowOf (fs : List Int) (h : Nat) (made : List Int) : List Int := srt ((ordOf fs made).take h)
def incr (made ps : List Int) : List Int := made.mapIdx fun i m => if (i : Int) ∈ ps then m + 1 else m
def madeN (fs : List Int) (h : Nat) : Nat → List Int
  | 0 => fs.map fun _ => 0
  | n + 1 => incr (madeN fs h n) (rowOf fs h (madeN fs h n))
def rowN (fs : List Int) (h n : Nat) : List Int := rowOf fs h (madeN fs h n)
theorem incr_len (made ps : List Int) : (incr made ps).length = made.length := List.length_mapIdx
theorem madeN_len (fs : List Int) (h : Nat) : ∀ n, (madeN fs h n).length = fs.length
  | 0 => List.length_map _
  | n + 1 => by rw [madeN, incr_len, madeN_len fs h n]
theorem dues_snd (fs made : List Int) : (duesOf fs made).map (·.2) = (List.range fs.length).map fun i => ((i : Nat) : Int) := by
  apply List.ext_getElem?
  intro i
  unfold duesOf
  rw [List.getElem?_map, List.getElem?_mapIdx, List.getElem?_map]
  by_cases hi : i < fs.length
  · rw [List.getElem?_eq_getElem hi, List.getElem?_range hi]; rfl
  · rw [List.getElem?_eq_none (by omega), List.getElem?_eq_none (by rw [List.length_range]; omega)]; rfl
theorem ord_perm (fs made : List Int) : (ordOf fs made).Perm ((List.range fs.length).map fun i => ((i : Nat) : Int)) := by
  unfold ordOf
  rw [← dues_snd fs made]
  exact (srtP_perm _).map _
theorem ints_nodup (n : Nat) : ((List.range n).map fun i => ((i : Nat) : Int)).Nodup := by
  unfold List.Nodup
  rw [List.pairwise_map]
  exact List.nodup_range.imp fun h e => h (by omega)
theorem ord_nodup (fs made : List Int) : (ordOf fs made).Nodup := (ord_perm fs made).nodup_iff.mpr (ints_nodup _)
theorem ord_len (fs made : List Int) : (ordOf fs made).length = fs.length := by rw [(ord_perm fs made).length_eq, List.length_map, List.length_range]
theorem ord_mem {fs made : List Int} {p : Int} : p ∈ ordOf fs made ↔ 0 ≤ p ∧ p < fs.length := by
  rw [(ord_perm fs made).mem_iff, List.mem_map]
  constructor
  · rintro ⟨i, hi, rfl⟩
    rw [List.mem_range] at hi
    omega
  · intro ⟨h1, h2⟩
    exact ⟨p.toNat, List.mem_range.mpr (by omega), by omega⟩
theorem row_perm (fs : List Int) (h : Nat) (made : List Int) : (rowOf fs h made).Perm ((ordOf fs made).take h) := srt_perm _
theorem row_nodup (fs : List Int) (h : Nat) (made : List Int) : (rowOf fs h made).Nodup := (row_perm fs h made).nodup_iff.mpr ((ord_nodup fs made).sublist (List.take_sublist ..))
theorem row_mem {fs made : List Int} {h : Nat} {p : Int} (k : p ∈ rowOf fs h made) : 0 ≤ p ∧ p < fs.length :=
  ord_mem.mp (List.mem_of_mem_take ((row_perm fs h made).mem_iff.mp k))
theorem row_len (fs : List Int) (h : Nat) (made : List Int) : (rowOf fs h made).length ≤ h := by
  rw [(row_perm fs h made).length_eq, List.length_take]
  exact Nat.min_le_left _ _
/-- one place behind another -/
theorem incr_step {made ps : List Int} {j : Nat} {p : Int} (nd : ps.Nodup) (hp : ps[j]? = some p) (h0 : 0 ≤ p) (h1 : p < made.length) :
    (incr made (ps.take j)).set p.toNat ((incr made (ps.take j)).getD p.toNat 0 + 1) = incr made (ps.take (j + 1)) := by
  have hj := (List.getElem?_eq_some_iff.mp hp).1
  have ht : ps.take (j + 1) = ps.take j ++ [p] := by rw [List.take_add_one, hp]; rfl
  have np : p ∉ ps.take j := fun hm => by
    have nd' : (ps.take (j + 1)).Nodup := nd.sublist (List.take_sublist ..)
    rw [ht] at nd'
    exact (List.nodup_append.mp nd').2.2 p hm p (List.mem_singleton.mpr rfl) rfl
  apply List.ext_getElem?
  intro i
  rw [ht, List.getElem?_set]
  unfold incr
  rw [List.getElem?_mapIdx, List.getElem?_mapIdx, List.length_mapIdx]
  by_cases hi : p.toNat = i
  · subst hi
    have hlt : p.toNat < made.length := by omega
    have ep : ((p.toNat : Nat) : Int) = p := by omega
    rw [if_pos rfl, if_pos hlt, List.getElem?_eq_getElem hlt, List.getD_eq_getElem?_getD, List.getElem?_mapIdx, List.getElem?_eq_getElem hlt]
    simp [ep, np]
  · rw [if_neg hi]
    cases e : made[i]? with
    | none => rfl
    | some m =>
      have : ((i : Nat) : Int) ∈ ps.take j ++ [p] ↔ ((i : Nat) : Int) ∈ ps.take j := by
        rw [List.mem_append, List.mem_singleton]
        constructor
        · rintro (h | h)
          · exact h
          · omega
        · exact .inl
      simp only [Option.map_some, this]
theorem incr_nil (made : List Int) : incr made [] = made := by
  apply List.ext_getElem?
  intro i
  unfold incr
  rw [List.getElem?_mapIdx]
  cases made[i]? <;> simp
theorem incr_getD (made ps : List Int) (i : Nat) (hi : i < made.length) : (incr made ps).getD i 0 = made.getD i 0 + (if (i : Int) ∈ ps then 1 else 0) := by
  unfold incr
  rw [List.getD_eq_getElem?_getD, List.getD_eq_getElem?_getD, List.getElem?_mapIdx, List.getElem?_eq_getElem hi]
  simp
  split <;> simp
theorem incr_congr {made ps qs : List Int} (h : ∀ x, x ∈ ps ↔ x ∈ qs) : incr made ps = incr made qs := by
  unfold incr
  simp only [h]
/-- made is between 0 and the ticks -/
theorem madeN_range (fs : List Int) (h : Nat) : ∀ (n i : Nat), i < fs.length → 0 ≤ (madeN fs h n).getD i 0 ∧ (madeN fs h n).getD i 0 ≤ n
  | 0, i, hi => by
    unfold madeN
    rw [List.getD_eq_getElem?_getD, List.getElem?_map, List.getElem?_eq_getElem hi]
    simp
  | n + 1, i, hi => by
    have ih := madeN_range fs h n i hi
    rw [madeN, incr_getD _ _ _ (by rw [madeN_len]; exact hi)]
    split <;> omega
end K63
namespace K63
theorem dues_len (fs made : List Int) : (duesOf fs made).length = fs.length := List.length_mapIdx
theorem dues_get {fs made : List Int} {k : Nat} {f : Int} (h : fs[k]? = some f) : (duesOf fs made)[k]? = some ((made.getD k 0 + 1) * f, (k : Int)) := by
  unfold duesOf
  rw [List.getElem?_mapIdx, h]; rfl
theorem getD_get {m : List Int} {k : Nat} (h : k < m.length) : m[k]? = some (m.getD k 0) := by
  rw [List.getD_eq_getElem?_getD, List.getElem?_eq_getElem h]; rfl
end K63
namespace K63
open DL (lexLe)
def prOf (fs made : List Int) (p : Nat) : Int × Int := ((made.getD p 0 + 1) * fs.getD p 0, (p : Int))
/-- the best of the first i places that are not in c -/
def BestInv (fs made c : List Int) (i : Nat) (best : Option Nat) : Prop :=
  match best with
  | none => ∀ q, q < i → (q : Int) ∈ c
  | some b => b < i ∧ (b : Int) ∉ c ∧ ∀ q, q < i → (q : Int) ∉ c → lexLe (prOf fs made b) (prOf fs made q)
theorem best_take {fs made c : List Int} {i : Nat} {best : Option Nat} (h : BestInv fs made c i best) (hi : (i : Int) ∉ c)
    (hb : ∀ b, best = some b → fs.getD i 0 * (made.getD i 0 + 1) < fs.getD b 0 * (made.getD b 0 + 1)) : BestInv fs made c (i + 1) (some i) := by
  refine ⟨Nat.lt_succ_self i, hi, fun q hq hc => ?_⟩
  by_cases e : q = i
  · subst e; unfold lexLe; omega
  · have hq : q < i := by omega
    cases best with
    | none => exact absurd (h q hq) hc
    | some b =>
      have h1 := h.2.2 q hq hc
      have h2 := hb b rfl
      unfold lexLe prOf at *
      simp only at *
      rw [Int.mul_comm (made.getD i 0 + 1), Int.mul_comm (made.getD q 0 + 1)]
      rw [Int.mul_comm (made.getD b 0 + 1), Int.mul_comm (made.getD q 0 + 1)] at h1
      left
      omega
theorem best_keep_in {fs made c : List Int} {i : Nat} {best : Option Nat} (h : BestInv fs made c i best) (hi : (i : Int) ∈ c) : BestInv fs made c (i + 1) best := by
  cases best with
  | none =>
    intro q hq
    by_cases e : q = i
    · subst e; exact hi
    · exact h q (by omega)
  | some b =>
    refine ⟨Nat.lt_succ_of_lt h.1, h.2.1, fun q hq hc => ?_⟩
    by_cases e : q = i
    · subst e; exact absurd hi hc
    · exact h.2.2 q (by omega) hc
theorem best_keep_le {fs made c : List Int} {i b : Nat} (h : BestInv fs made c i (some b)) (hb : ¬ fs.getD i 0 * (made.getD i 0 + 1) < fs.getD b 0 * (made.getD b 0 + 1)) : BestInv fs made c (i + 1) (some b) := by
  refine ⟨Nat.lt_succ_of_lt h.1, h.2.1, fun q hq hc => ?_⟩
  by_cases e : q = i
  · subst e
    have := h.1
    unfold lexLe prOf
    simp only
    rw [Int.mul_comm (made.getD b 0 + 1), Int.mul_comm (made.getD q 0 + 1)]
    omega
  · exact h.2.2 q (by omega) hc
theorem best_end {fs made : List Int} {k : Nat} {best : Option Nat} (hk : k < fs.length) (h : BestInv fs made ((ordOf fs made).take k) fs.length best) : ∃ b : Nat, best = some b ∧ (ordOf fs made)[k]? = some (b : Int) := by
  have hS : (srtP (duesOf fs made)).length = fs.length := by rw [(srtP_perm _).length_eq, dues_len]
  have getS : ∀ l (hl : l < fs.length), ∃ j, j < fs.length ∧ (srtP (duesOf fs made))[l]? = some (prOf fs made j) ∧ (ordOf fs made)[l]? = some (j : Int) := fun l hl => by
    have hl' : l < (srtP (duesOf fs made)).length := by omega
    have hm : (srtP (duesOf fs made))[l] ∈ duesOf fs made := (srtP_perm _).mem_iff.mp (List.getElem_mem hl')
    obtain ⟨j, hj⟩ := List.getElem?_of_mem hm
    have hjl : j < fs.length := by
      have := (List.getElem?_eq_some_iff.mp hj).1
      rw [dues_len] at this; exact this
    rw [dues_get (List.getElem?_eq_getElem hjl)] at hj
    have e : (srtP (duesOf fs made))[l]? = some (prOf fs made j) := by
      rw [List.getElem?_eq_getElem hl', ← Option.some.inj hj]
      unfold prOf
      rw [List.getD_eq_getElem?_getD (l := fs), List.getElem?_eq_getElem hjl]
      rfl
    exact ⟨j, hjl, e, by unfold ordOf; rw [List.getElem?_map, e]; rfl⟩
  have notin : ∀ l (b : Int), (ordOf fs made)[l]? = some b → (b ∈ (ordOf fs made).take k ↔ l < k) := fun l b hb => by
    constructor
    · intro hm
      obtain ⟨i, hi⟩ := List.getElem?_of_mem hm
      have hik : i < k := by
        have := (List.getElem?_eq_some_iff.mp hi).1
        rw [List.length_take] at this
        omega
      rw [List.getElem?_take, if_pos hik] at hi
      have := L2.nd_ix (ord_nodup fs made) hi hb
      omega
    · intro hl
      refine List.mem_of_getElem? (i := l) ?_
      rw [List.getElem?_take, if_pos hl]; exact hb
  obtain ⟨j, hj, e1, e2⟩ := getS k hk
  have nj : (j : Int) ∉ (ordOf fs made).take k := fun z => Nat.lt_irrefl k ((notin k _ e2).mp z)
  cases best with
  | none => exact absurd (h j hj) nj
  | some b =>
    refine ⟨b, rfl, ?_⟩
    have h1 := h.2.2 j hj nj
    have hbm : (b : Int) ∈ ordOf fs made := ord_mem.mpr ⟨by omega, by have := h.1; omega⟩
    obtain ⟨l, hl⟩ := List.getElem?_of_mem hbm
    have hll : l < fs.length := by
      have := (List.getElem?_eq_some_iff.mp hl).1
      rw [ord_len] at this; exact this
    have hkl : k ≤ l := Nat.le_of_not_lt fun z => h.2.1 ((notin l _ hl).mpr z)
    obtain ⟨b', hb', e3, e4⟩ := getS l hll
    have ebb : b' = b := by rw [hl] at e4; have := Option.some.inj e4; omega
    subst ebb
    by_cases ekl : k = l
    · subst ekl; exact hl
    · have hlt : k < l := by omega
      obtain ⟨hk1, ek⟩ := List.getElem?_eq_some_iff.mp e1
      obtain ⟨hl1, el⟩ := List.getElem?_eq_some_iff.mp e3
      have h2 := List.pairwise_iff_getElem.mp (srtP_sorted (duesOf fs made)) k l hk1 hl1 hlt
      rw [ek, el] at h2
      unfold lexLe at h1 h2
      have : (prOf fs made j).2 = (prOf fs made b').2 := by omega
      have : (j : Int) = (b' : Int) := this
      have : j = b' := by omega
      subst this
      exact e2
/-- at which tick p comes the m-th time -/
def whenV (fs : List Int) (h : Nat) : Nat → Int → Int → Option Int
  | 0, _, _ => none
  | t + 1, p, m => if p ∈ rowN fs h t ∧ m = (madeN fs h t).getD p.toNat 0 + 1 then some ((t : Int) + 1) else whenV fs h t p m
/-- .. with the first j of c in tick t + 1 -/
def whenJ (fs : List Int) (h t : Nat) (c : List Int) (p m : Int) : Option Int := if p ∈ c ∧ m = (madeN fs h t).getD p.toNat 0 + 1 then some ((t : Int) + 1) else whenV fs h t p m
theorem zeros_eq (n : Nat) (fs : List Int) (h : n = fs.length) : (List.replicate n [DL.D.int 0]).flatten = (fs.map fun _ => (0 : Int)).map DL.D.int := by
  subst h
  induction fs with
  | nil => rfl
  | cons f fs ih =>
    rw [List.length_cons, List.replicate_succ, List.flatten_cons, ih]
    rfl
theorem take_min {α : Type} (l : List α) (h : Nat) : l.take (min h l.length) = l.take h := by
  by_cases k : h ≤ l.length
  · rw [Nat.min_eq_left k]
  · rw [Nat.min_eq_right (by omega), List.take_of_length_le (Nat.le_refl _), List.take_of_length_le (by omega)]
theorem row_mem_iff {fs made : List Int} {h : Nat} {p : Int} : p ∈ rowOf fs h made ↔ p ∈ (ordOf fs made).take h := (row_perm fs h made).mem_iff
end K63
namespace K63
def rowsD (fs : List Int) (h n : Nat) : List DL.D := (List.range n).map fun i => .tup ((rowN fs h i).map DL.D.int)
end K63
namespace K63
open DL (lexLe)
/-! ### late steps -/
def lateOf (fs made : List Int) (t : Int) (ps : List Int) : List (Int × Int) := (ps.filter fun p => decide ((made.getD p.toNat 0 + 1) * fs.getD p.toNat 0 ≤ t)).map fun p => (p, made.getD p.toNat 0 + 1)
def lateT (fs : List Int) (h t : Nat) : List (Int × Int) := lateOf fs (madeN fs h t) t (rowN fs h t)
def found1 (fs : List Int) (h n : Nat) : List (Int × Int) := ((List.range n).map (lateT fs h)).flatten
def restP (fs : List Int) (h n i : Nat) : List (Int × Int) := (List.range ((n : Int) / fs.getD i 0 + 1 - ((madeN fs h n).getD i 0 + 1)).toNat).map fun (s : Nat) => ((i : Int), (madeN fs h n).getD i 0 + 1 + (s : Int))
def found2 (fs : List Int) (h n k : Nat) : List (Int × Int) := found1 fs h n ++ ((List.range k).map (restP fs h n)).flatten
def lawP (fs : List Int) (h n i : Nat) : List (Int × Int) := (((List.range ((n : Int) / fs.getD i 0 + 1 - 1).toNat).map fun (s : Nat) => 1 + (s : Int)).filter fun s => decide ((whenV fs h n i s).getD (n + 1) > fs.getD i 0 * s)).map fun s => ((i : Int), s)
def lawF (fs : List Int) (h n k : Nat) : List (Int × Int) := ((List.range k).map (lawP fs h n)).flatten
section
variable {fs : List Int} {h : Nat}
theorem made_step {n i : Nat} (hi : i < fs.length) : (madeN fs h (n + 1)).getD i 0 = (madeN fs h n).getD i 0 + (if (i : Int) ∈ rowN fs h n then 1 else 0) := by
  rw [madeN, incr_getD _ _ _ (by rw [madeN_len]; exact hi)]
  rfl
theorem made_mono {i : Nat} (hi : i < fs.length) {m n : Nat} (hmn : m ≤ n) : (madeN fs h m).getD i 0 ≤ (madeN fs h n).getD i 0 := by
  induction n with
  | zero => have : m = 0 := by omega
            subst this; exact Int.le_refl _
  | succ n ih =>
    by_cases e : m = n + 1
    · subst e; exact Int.le_refl _
    · have := ih (by omega)
      rw [made_step hi]
      split <;> omega
theorem when_some {i : Nat} {s v : Int} : ∀ {n : Nat}, whenV fs h n i s = some v → ∃ t : Nat, t < n ∧ v = (t : Int) + 1 ∧ (i : Int) ∈ rowN fs h t ∧ s = (madeN fs h t).getD i 0 + 1
  | 0, e => by cases e
  | n + 1, e => by
    rw [whenV] at e
    split at e
    · rename_i c
      refine ⟨n, Nat.lt_succ_self n, (Option.some.inj e).symm, c.1, ?_⟩
      have := c.2
      rwa [Int.toNat_natCast] at this
    · obtain ⟨t, h1, h2⟩ := when_some e
      exact ⟨t, by omega, h2⟩
theorem when_of {i t : Nat} {s : Int} (hi : i < fs.length) (hr : (i : Int) ∈ rowN fs h t) (hs : s = (madeN fs h t).getD i 0 + 1) : ∀ {n : Nat}, t < n → whenV fs h n i s = some ((t : Int) + 1)
  | 0, e => absurd e (Nat.not_lt_zero _)
  | n + 1, e => by
    rw [whenV]
    by_cases ht : t = n
    · subst ht
      rw [if_pos ⟨hr, by rw [Int.toNat_natCast]; exact hs⟩]
    · have hlt : t < n := by omega
      have h1 := made_step (h := h) (n := t) hi
      rw [if_pos hr] at h1
      have h2 := made_mono (h := h) hi (show t + 1 ≤ n from hlt)
      rw [if_neg (fun z => by have := z.2; rw [Int.toNat_natCast] at this; omega)]
      exact when_of hi hr hs hlt
theorem when_ex {i : Nat} (hi : i < fs.length) {s : Int} (h1 : 1 ≤ s) : ∀ {n : Nat}, s ≤ (madeN fs h n).getD i 0 → ∃ t : Nat, t < n ∧ (i : Int) ∈ rowN fs h t ∧ s = (madeN fs h t).getD i 0 + 1
  | 0, e => by
    have := (madeN_range fs h 0 i hi).2
    omega
  | n + 1, e => by
    rw [made_step hi] at e
    by_cases hr : (i : Int) ∈ rowN fs h n
    · rw [if_pos hr] at e
      by_cases hs : s = (madeN fs h n).getD i 0 + 1
      · exact ⟨n, Nat.lt_succ_self n, hr, hs⟩
      · obtain ⟨t, a, b⟩ := when_ex hi h1 (n := n) (by omega)
        exact ⟨t, by omega, b⟩
    · rw [if_neg hr] at e
      obtain ⟨t, a, b⟩ := when_ex hi h1 (n := n) (by omega)
      exact ⟨t, by omega, b⟩
theorem mem_lateT {t : Nat} {p s : Int} : (p, s) ∈ lateT fs h t ↔ p ∈ rowN fs h t ∧ s = (madeN fs h t).getD p.toNat 0 + 1 ∧ s * fs.getD p.toNat 0 ≤ t := by
  unfold lateT lateOf
  rw [List.mem_map]
  constructor
  · rintro ⟨q, hq, e⟩
    obtain ⟨h1, h2⟩ := List.mem_filter.mp hq
    cases e
    exact ⟨h1, rfl, of_decide_eq_true h2⟩
  · rintro ⟨h1, rfl, h3⟩
    exact ⟨p, List.mem_filter.mpr ⟨h1, decide_eq_true h3⟩, rfl⟩
theorem mem_found1 {n : Nat} {p s : Int} : (p, s) ∈ found1 fs h n ↔ ∃ t : Nat, t < n ∧ p ∈ rowN fs h t ∧ s = (madeN fs h t).getD p.toNat 0 + 1 ∧ s * fs.getD p.toNat 0 ≤ t := by
  unfold found1
  rw [List.mem_flatten]
  constructor
  · rintro ⟨l, hl, hm⟩
    obtain ⟨t, ht, rfl⟩ := List.mem_map.mp hl
    exact ⟨t, List.mem_range.mp ht, mem_lateT.mp hm⟩
  · rintro ⟨t, ht, hm⟩
    exact ⟨_, List.mem_map.mpr ⟨t, List.mem_range.mpr ht, rfl⟩, mem_lateT.mpr hm⟩
theorem mem_rest {n i : Nat} {p s : Int} : (p, s) ∈ restP fs h n i ↔ p = (i : Int) ∧ (madeN fs h n).getD i 0 + 1 ≤ s ∧ s ≤ (n : Int) / fs.getD i 0 := by
  unfold restP
  rw [List.mem_map]
  constructor
  · rintro ⟨q, hq, e⟩
    cases e
    rw [List.mem_range] at hq
    exact ⟨rfl, by omega, by omega⟩
  · rintro ⟨rfl, h1, h2⟩
    refine ⟨(s - ((madeN fs h n).getD i 0 + 1)).toNat, List.mem_range.mpr (by omega), ?_⟩
    exact Prod.ext rfl (by show (madeN fs h n).getD i 0 + 1 + _ = s; omega)
theorem mem_law {n i : Nat} {p s : Int} : (p, s) ∈ lawP fs h n i ↔ p = (i : Int) ∧ 1 ≤ s ∧ s ≤ (n : Int) / fs.getD i 0 ∧ fs.getD i 0 * s < (whenV fs h n i s).getD (n + 1) := by
  unfold lawP
  rw [List.mem_map]
  constructor
  · rintro ⟨q, hq, e⟩
    cases e
    obtain ⟨h1, h2⟩ := List.mem_filter.mp hq
    obtain ⟨k, hk, rfl⟩ := List.mem_map.mp h1
    rw [List.mem_range] at hk
    exact ⟨rfl, by omega, by omega, of_decide_eq_true h2⟩
  · rintro ⟨rfl, h1, h2, h3⟩
    refine ⟨s, List.mem_filter.mpr ⟨List.mem_map.mpr ⟨(s - 1).toNat, List.mem_range.mpr (by omega), by omega⟩, decide_eq_true h3⟩, rfl⟩
theorem mem_lawF {n k : Nat} {p s : Int} : (p, s) ∈ lawF fs h n k ↔ ∃ i, i < k ∧ (p, s) ∈ lawP fs h n i := by
  unfold lawF
  rw [List.mem_flatten]
  constructor
  · rintro ⟨l, hl, hm⟩
    obtain ⟨t, ht, rfl⟩ := List.mem_map.mp hl
    exact ⟨t, List.mem_range.mp ht, hm⟩
  · rintro ⟨t, ht, hm⟩
    exact ⟨_, List.mem_map.mpr ⟨t, List.mem_range.mpr ht, rfl⟩, hm⟩
theorem mem_found2 {n k : Nat} {p s : Int} : (p, s) ∈ found2 fs h n k ↔ (p, s) ∈ found1 fs h n ∨ ∃ i, i < k ∧ (p, s) ∈ restP fs h n i := by
  unfold found2
  rw [List.mem_append, List.mem_flatten]
  constructor
  · rintro (h | ⟨l, hl, hm⟩)
    · exact .inl h
    · obtain ⟨t, ht, rfl⟩ := List.mem_map.mp hl
      exact .inr ⟨t, List.mem_range.mp ht, hm⟩
  · rintro (h | ⟨t, ht, hm⟩)
    · exact .inl h
    · exact .inr ⟨_, List.mem_map.mpr ⟨t, List.mem_range.mpr ht, rfl⟩, hm⟩
def ltP (p q : Int × Int) : Prop := p.1 < q.1 ∨ (p.1 = q.1 ∧ p.2 < q.2)
theorem lawF_strict (n k : Nat) : (lawF fs h n k).Pairwise ltP := by
  unfold lawF
  rw [List.pairwise_flatten]
  constructor
  · intro l hl
    obtain ⟨i, _, rfl⟩ := List.mem_map.mp hl
    unfold lawP
    rw [List.pairwise_map]
    refine List.Pairwise.filter _ ?_
    rw [List.pairwise_map]
    refine List.pairwise_lt_range.imp fun hab => Or.inr ⟨rfl, ?_⟩
    show (1 : Int) + _ < 1 + _
    omega
  · rw [List.pairwise_map]
    refine List.pairwise_lt_range.imp fun {i j} hij => ?_
    rintro ⟨p, s⟩ hx ⟨q, t⟩ hy
    have h1 := (mem_law.mp hx).1
    have h2 := (mem_law.mp hy).1
    left
    show p < q
    omega
theorem found2_nodup {n k : Nat} (hk : k ≤ fs.length) : (found2 fs h n k).Nodup := by
  unfold found2
  rw [List.nodup_append]
  refine ⟨?_, ?_, ?_⟩
  · unfold found1 List.Nodup
    rw [List.pairwise_flatten]
    constructor
    · intro l hl
      obtain ⟨t, _, rfl⟩ := List.mem_map.mp hl
      unfold lateT lateOf
      rw [List.pairwise_map]
      refine List.Pairwise.imp (fun hab e => hab ?_) ((show (rowN fs h t).Nodup from row_nodup _ _ _).filter _)
      exact congrArg Prod.fst e
    · rw [List.pairwise_map]
      refine List.pairwise_lt_range.imp fun {a b} hab => ?_
      rintro ⟨p, s⟩ hx ⟨q, u⟩ hy e
      cases e
      obtain ⟨a1, a2, _⟩ := mem_lateT.mp hx
      obtain ⟨b1, b2, _⟩ := mem_lateT.mp hy
      obtain ⟨p0, p1⟩ := row_mem a1
      have hp : ((p.toNat : Nat) : Int) = p := by omega
      have hi : p.toNat < fs.length := by omega
      have h1 := made_step (h := h) (n := a) hi
      rw [hp, if_pos a1] at h1
      have h2 := made_mono (h := h) hi (show a + 1 ≤ b from hab)
      omega
  · unfold List.Nodup
    rw [List.pairwise_flatten]
    constructor
    · intro l hl
      obtain ⟨i, _, rfl⟩ := List.mem_map.mp hl
      unfold restP
      rw [List.pairwise_map]
      refine List.nodup_range.imp fun hab e => hab ?_
      have := congrArg Prod.snd e
      simp only at this
      omega
    · rw [List.pairwise_map]
      refine List.pairwise_lt_range.imp fun {i j} hij => ?_
      rintro ⟨p, s⟩ hx ⟨q, t⟩ hy e
      cases e
      have h1 := (mem_rest.mp hx).1
      have h2 := (mem_rest.mp hy).1
      omega
  · rintro ⟨p, s⟩ hx ⟨q, u⟩ hy e
    cases e
    obtain ⟨t, ht, a1, a2, _⟩ := mem_found1.mp hx
    obtain ⟨l, hl, hm⟩ := List.mem_flatten.mp hy
    obtain ⟨i, hi, rfl⟩ := List.mem_map.mp hl
    obtain ⟨b1, b2, _⟩ := mem_rest.mp hm
    subst b1
    have hi : i < fs.length := Nat.lt_of_lt_of_le (List.mem_range.mp hi) hk
    rw [Int.toNat_natCast] at a2
    have h1 := made_step (h := h) (n := t) hi
    rw [if_pos a1] at h1
    have h2 := made_mono (h := h) hi (show t + 1 ≤ n from ht)
    omega
theorem late_perm {n : Nat} (hf : ∀ f ∈ fs, 1 ≤ f ∧ f ≤ 1000000) : (found2 fs h n fs.length).Perm (lawF fs h n fs.length) := by
  refine (List.perm_ext_iff_of_nodup (found2_nodup (Nat.le_refl _)) ((lawF_strict n fs.length).imp fun hab e => ?_)).mpr ?_
  · subst e
    unfold ltP at hab
    omega
  rintro ⟨p, s⟩
  rw [mem_found2, mem_lawF]
  have hfi : ∀ i, i < fs.length → 1 ≤ fs.getD i 0 := fun i hi => by
    have := hf (fs.getD i 0) (by rw [List.getD_eq_getElem?_getD, List.getElem?_eq_getElem hi]; exact List.getElem_mem _)
    exact this.1
  constructor
  · rintro (hm | ⟨i, hi, hm⟩)
    · obtain ⟨t, ht, a1, a2, a3⟩ := mem_found1.mp hm
      obtain ⟨p0, p1⟩ := row_mem a1
      obtain ⟨i, rfl⟩ := Int.eq_ofNat_of_zero_le p0
      have hi : i < fs.length := by omega
      rw [Int.toNat_natCast] at a2 a3
      have hF := hfi i hi
      have hr := madeN_range fs h t i hi
      refine ⟨i, hi, mem_law.mpr ⟨rfl, by omega, ?_, ?_⟩⟩
      · exact (Int.le_ediv_iff_mul_le (by omega)).mpr (by omega)
      · rw [when_of hi a1 a2 ht]
        show fs.getD i 0 * s < (t : Int) + 1
        rw [Int.mul_comm]
        omega
    · obtain ⟨rfl, b2, b3⟩ := mem_rest.mp hm
      have hF := hfi i hi
      have hr := madeN_range fs h n i hi
      refine ⟨i, hi, mem_law.mpr ⟨rfl, by omega, b3, ?_⟩⟩
      have hle : s * fs.getD i 0 ≤ n := (Int.le_ediv_iff_mul_le (by omega)).mp b3
      rw [Int.mul_comm] at hle
      cases e : whenV fs h n i s with
      | none => show _ < (n : Int) + 1; omega
      | some v =>
        obtain ⟨t, ht, _, c1, c2⟩ := when_some e
        have h1 := made_step (h := h) (n := t) hi
        rw [if_pos c1] at h1
        have h2 := made_mono (h := h) hi (show t + 1 ≤ n from ht)
        omega
  · rintro ⟨i, hi, hm⟩
    obtain ⟨rfl, b1, b2, b3⟩ := mem_law.mp hm
    by_cases hs : s ≤ (madeN fs h n).getD i 0
    · left
      obtain ⟨t, ht, c1, c2⟩ := when_ex hi b1 hs
      rw [when_of hi c1 c2 ht] at b3
      refine mem_found1.mpr ⟨t, ht, c1, by rw [Int.toNat_natCast]; exact c2, ?_⟩
      rw [Int.toNat_natCast, Int.mul_comm]
      have b3 : fs.getD i 0 * s < (t : Int) + 1 := b3
      omega
    · right
      exact ⟨i, hi, mem_rest.mpr ⟨rfl, by omega, b2⟩⟩
theorem late_eq {n : Nat} (hf : ∀ f ∈ fs, 1 ≤ f ∧ f ≤ 1000000) {ps : List (Int × Int)} (hp : ps.Perm (found2 fs h n fs.length)) (hs : ps.Pairwise lexLe) : ps = lawF fs h n fs.length :=
  List.Perm.eq_of_pairwise (fun a b _ _ h1 h2 => by
    unfold lexLe at h1 h2
    exact Prod.ext (by omega) (by omega)) hs ((lawF_strict n fs.length).imp fun hab => by
    unfold ltP at hab
    unfold lexLe
    omega) (hp.trans (late_perm hf))
end
end K63
namespace K63
theorem lateT_len (fs : List Int) (h t : Nat) : (lateT fs h t).length ≤ h := by
  unfold lateT lateOf
  rw [List.length_map]
  exact Nat.le_trans (List.length_filter_le ..) (row_len _ _ _)
theorem lateOf_len (fs made : List Int) (t : Int) (ps : List Int) : (lateOf fs made t ps).length ≤ ps.length := by
  unfold lateOf
  rw [List.length_map]
  exact List.length_filter_le ..
theorem flat_len {α : Type} {n : Nat} (g : Nat → List α) (hg : ∀ i, (g i).length ≤ n) : ∀ k, (((List.range k).map g).flatten).length ≤ n * k
  | 0 => by simp
  | k + 1 => by
    rw [List.range_succ, List.map_append, List.flatten_append, List.length_append]
    have h1 := flat_len g hg k
    have h2 := hg k
    simp only [List.map_cons, List.map_nil, List.flatten_cons, List.flatten_nil, List.append_nil]
    rw [Nat.mul_succ]
    omega
theorem flat_len2 {α : Type} {n m : Nat} (g : Nat → List α) (hg : ∀ i, i < m → (g i).length ≤ n) : ∀ k, k ≤ m → (((List.range k).map g).flatten).length ≤ n * k
  | 0, _ => by simp
  | k + 1, hk => by
    rw [List.range_succ, List.map_append, List.flatten_append, List.length_append]
    have h1 := flat_len2 g hg k (by omega)
    have h2 := hg k (by omega)
    simp only [List.map_cons, List.map_nil, List.flatten_cons, List.flatten_nil, List.append_nil]
    rw [Nat.mul_succ]
    omega
theorem found1_len (fs : List Int) (h n : Nat) : (found1 fs h n).length ≤ h * n := flat_len _ (lateT_len fs h) n
theorem div_small {n f : Int} (h : 1 ≤ f) (h0 : 0 ≤ n) : 0 ≤ n / f ∧ n / f ≤ n := ⟨Int.ediv_nonneg h0 (by omega), Int.ediv_le_self _ h0⟩
theorem restP_len {fs : List Int} {h n i : Nat} (hf : ∀ f ∈ fs, 1 ≤ f ∧ f ≤ 1000000) (hi : i < fs.length) : (restP fs h n i).length ≤ n := by
  unfold restP
  rw [List.length_map, List.length_range]
  have h1 := (hf (fs.getD i 0) (by rw [List.getD_eq_getElem?_getD, List.getElem?_eq_getElem hi]; exact List.getElem_mem _)).1
  have h2 := div_small h1 (show (0 : Int) ≤ n by omega)
  have h3 := madeN_range fs h n i hi
  omega
theorem lawP_len {fs : List Int} {h n i : Nat} (hf : ∀ f ∈ fs, 1 ≤ f ∧ f ≤ 1000000) (hi : i < fs.length) : (lawP fs h n i).length ≤ n := by
  unfold lawP
  rw [List.length_map]
  refine Nat.le_trans (List.length_filter_le ..) ?_
  rw [List.length_map, List.length_range]
  have h1 := (hf (fs.getD i 0) (by rw [List.getD_eq_getElem?_getD, List.getElem?_eq_getElem hi]; exact List.getElem_mem _)).1
  have h2 := div_small h1 (show (0 : Int) ≤ n by omega)
  omega
theorem flat_succ {α : Type} (g : Nat → List α) (k : Nat) : ((List.range (k + 1)).map g).flatten = ((List.range k).map g).flatten ++ g k := by
  rw [List.range_succ, List.map_append, List.flatten_append]
  simp
theorem found1_succ (fs : List Int) (h n : Nat) : found1 fs h (n + 1) = found1 fs h n ++ lateT fs h n := flat_succ _ n
theorem found2_succ (fs : List Int) (h n k : Nat) : found2 fs h n (k + 1) = found2 fs h n k ++ restP fs h n k := by
  unfold found2
  rw [flat_succ, List.append_assoc]
theorem lawF_succ (fs : List Int) (h n k : Nat) : lawF fs h n (k + 1) = lawF fs h n k ++ lawP fs h n k := flat_succ _ k
theorem found2_len {fs : List Int} {h n k : Nat} (hf : ∀ f ∈ fs, 1 ≤ f ∧ f ≤ 1000000) (hk : k ≤ fs.length) : (found2 fs h n k).length ≤ h * n + n * k := by
  unfold found2
  rw [List.length_append]
  have h1 := found1_len fs h n
  have h2 := flat_len2 (n := n) (m := fs.length) (restP fs h n) (fun i hi => restP_len hf hi) k hk
  omega
theorem lawF_len {fs : List Int} {h n k : Nat} (hf : ∀ f ∈ fs, 1 ≤ f ∧ f ≤ 1000000) (hk : k ≤ fs.length) : (lawF fs h n k).length ≤ n * k :=
  flat_len2 (n := n) (m := fs.length) (lawP fs h n) (fun i hi => lawP_len hf hi) k hk
theorem lateOf_step {fs made : List Int} {t : Int} {ps : List Int} {j : Nat} {p : Int} (hp : ps[j]? = some p) :
    lateOf fs made t (ps.take (j + 1)) = if (made.getD p.toNat 0 + 1) * fs.getD p.toNat 0 ≤ t then lateOf fs made t (ps.take j) ++ [(p, made.getD p.toNat 0 + 1)] else lateOf fs made t (ps.take j) := by
  have ht : ps.take (j + 1) = ps.take j ++ [p] := by rw [List.take_add_one, hp]; rfl
  rw [ht]
  unfold lateOf
  rw [List.filter_append, List.map_append]
  split
  · rename_i c
    rw [List.filter_cons, if_pos (decide_eq_true c)]
    rfl
  · rename_i c
    rw [List.filter_cons, if_neg (by simp only [decide_eq_true_eq]; exact c)]
    simp
end K63
namespace K63
open PySem (sizeLine)
theorem rows_nice {fs : List Int} {h n : Nat} (hl : fs.length ≤ 40) : (DL.D.tup (rowsD fs h n)).nice = true := by
  rw [DL.D.nice, DL.D.nices_iff]
  intro d hd
  obtain ⟨i, _, rfl⟩ := List.mem_map.mp hd
  rw [DL.D.nice]
  refine DL.nices_ints fun z hz => ?_
  have := row_mem hz
  have h10 : (40 : Nat) < 10 ^ 20 := by decide
  omega
theorem rows_dp (fs : List Int) (h n : Nat) : (DL.D.tup (rowsD fs h n)).dp ≤ 30 := by
  rw [DL.D.dp]
  have := DL.D.dps_le (n := 1) (rowsD fs h n) fun d hd => by
    obtain ⟨i, _, rfl⟩ := List.mem_map.mp hd
    rw [DL.D.dp, DL.dps_ints]; exact Nat.le_refl _
  omega
theorem rows_wt {fs : List Int} {h n : Nat} (hh : h ≤ 8) (hn : n ≤ 60) : (DL.D.tup (rowsD fs h n)).wt ≤ sizeLine := by
  rw [DL.D.wt]
  have h1 := DL.D.wts_le (n := 196) (rowsD fs h n) fun d hd => by
    obtain ⟨i, _, rfl⟩ := List.mem_map.mp hd
    rw [DL.D.wt]
    have h2 := DL.wts_ints (rowN fs h i)
    have h3 : (rowN fs h i).length ≤ h := row_len _ _ _
    omega
  have h4 : (rowsD fs h n).length ≤ 60 := by unfold rowsD; rw [List.length_map, List.length_range]; exact hn
  have h5 : (20000 : Nat) ≤ sizeLine := by decide
  omega
theorem late_small {fs : List Int} {h n k : Nat} (hf : ∀ f ∈ fs, 1 ≤ f ∧ f ≤ 1000000) (hk : k ≤ fs.length) {p : Int × Int} (hp : p ∈ lawF fs h n k) : 0 ≤ p.1 ∧ p.1 < fs.length ∧ 0 ≤ p.2 ∧ p.2 ≤ n := by
  obtain ⟨p, s⟩ := p
  obtain ⟨i, hi, hm⟩ := mem_lawF.mp hp
  obtain ⟨rfl, h1, h2, _⟩ := mem_law.mp hm
  have hfi := (hf (fs.getD i 0) (by rw [List.getD_eq_getElem?_getD, List.getElem?_eq_getElem (by omega)]; exact List.getElem_mem _)).1
  have := (div_small hfi (show (0 : Int) ≤ n by omega)).2
  exact ⟨by show (0 : Int) ≤ (i : Int); omega, by show (i : Int) < _; omega, by show 0 ≤ s; omega, by show s ≤ _; omega⟩
theorem late_nice {fs : List Int} {h n : Nat} (hf : ∀ f ∈ fs, 1 ≤ f ∧ f ≤ 1000000) (hl : fs.length ≤ 40) (hn : n ≤ 60) : (DL.D.tup ((lawF fs h n fs.length).map DL.prD)).nice = true := by
  rw [DL.D.nice, DL.D.nices_iff]
  intro d hd
  obtain ⟨p, hp, rfl⟩ := List.mem_map.mp hd
  obtain ⟨h1, h2, h3, h4⟩ := late_small hf (Nat.le_refl _) hp
  have h10 : (60 : Nat) < 10 ^ 20 := by decide
  exact DL.nice_prD (by omega) (by omega)
theorem late_dp (fs : List Int) (h n k : Nat) : (DL.D.tup ((lawF fs h n k).map DL.prD)).dp ≤ 30 := by
  rw [DL.D.dp]
  have := DL.D.dps_le (n := 1) ((lawF fs h n k).map DL.prD) fun d hd => by
    obtain ⟨i, _, rfl⟩ := List.mem_map.mp hd
    rw [DL.dp_prD]; exact Nat.le_refl _
  omega
theorem late_wt {fs : List Int} {h n : Nat} (hf : ∀ f ∈ fs, 1 ≤ f ∧ f ≤ 1000000) (hl : fs.length ≤ 40) (hn : n ≤ 60) : (DL.D.tup ((lawF fs h n fs.length).map DL.prD)).wt ≤ sizeLine := by
  rw [DL.D.wt]
  have h1 := DL.D.wts_le (n := 52) ((lawF fs h n fs.length).map DL.prD) fun d hd => by
    obtain ⟨i, _, rfl⟩ := List.mem_map.mp hd
    rw [DL.wt_prD]; exact Nat.le_refl _
  rw [List.length_map] at h1
  have h2 := lawF_len (h := h) (n := n) (k := fs.length) hf (Nat.le_refl _)
  have h3 : n * fs.length ≤ 60 * 40 := Nat.mul_le_mul hn hl
  have h5 : (200000 : Nat) ≤ sizeLine := by decide
  omega
/-- what the comprehension of the law makes -/
def lawG (i : Int) : DL.D → DL.D
  | .int s => DL.prD (i, s)
  | d => d
def lawQ (fs : List Int) (h n i : Nat) : DL.D → Bool
  | .int s => decide ((whenV fs h n i s).getD (n + 1) > fs.getD i 0 * s)
  | _ => false
theorem law_list (fs : List Int) (h n i : Nat) : ((DL.rangeD 1 ((n : Int) / fs.getD i 0 + 1 - 1).toNat).filter (lawQ fs h n i)).map (lawG i) = (lawP fs h n i).map DL.prD := by
  unfold DL.rangeD lawP
  rw [List.filter_map, List.map_map, List.filter_map, List.map_map, List.map_map]
  rfl
end K63

set_option Elab.async false
set_option linter.all false
set_option maxRecDepth 100000
set_option maxHeartbeats 4000000
namespace K63
open PySem PySem.Spec PyProof.Rows L2 DL
def topS (i : Nat) : Stmt := PySem.Challenge.pw_duetickers_k63_plans_of_dues_by_own_choi.main.body.getD i (.Pass ⟨0, 0, 0, 0⟩)
abbrev s_law_urn : Stmt := topS 20
abbrev N_law_urn : List Str := ["_law_script", "_law_cell"]
theorem sc_law_urn : FnScope N_law_urn ["_law_script"] (defScope s_law_urn) := ⟨rfl, rfl, rfl, by decide +kernel, rfl, by decide +kernel, by decide +kernel⟩
abbrev s_law_dip : Stmt := topS 21
abbrev N_law_dip : List Str := ["_law_urn_here", "_law_many", "_law_rest", "_law_turn", "_law_cell", "_law_mixed"]
theorem sc_law_dip : FnScope N_law_dip ["_law_urn_here", "_law_many"] (defScope s_law_dip) := ⟨rfl, rfl, rfl, by decide +kernel, rfl, by decide +kernel, by decide +kernel⟩
abbrev s_law_pick : Stmt := topS 22
abbrev N_law_pick : List Str := ["_law_urn_here", "_law_some"]
theorem sc_law_pick : FnScope N_law_pick ["_law_urn_here", "_law_some"] (defScope s_law_pick) := ⟨rfl, rfl, rfl, by decide +kernel, rfl, by decide +kernel, by decide +kernel⟩
abbrev s_law_plan : Stmt := topS 24
abbrev N_law_plan : List Str := ["_law_factors_here", "_law_hands", "_law_ticks", "_law_made", "_law_plan_here", "_law_when", "_law_tick", "_law_chosen", "_law_hand", "_law_best", "_law_place", "_law_factor"]
theorem sc_law_plan : FnScope N_law_plan ["_law_factors_here", "_law_hands", "_law_ticks"] (defScope s_law_plan) := ⟨rfl, rfl, rfl, by decide +kernel, rfl, by decide +kernel, by decide +kernel⟩
abbrev s_law_factors : Stmt := topS 23
abbrev N_law_factors : List Str := ["_law_urn_here", "_law_hands", "_law_found", "_law_menu", "_law_turn"]
theorem sc_law_factors : FnScope N_law_factors ["_law_urn_here", "_law_hands"] (defScope s_law_factors) := ⟨rfl, rfl, rfl, by decide +kernel, rfl, by decide +kernel, by decide +kernel⟩
abbrev s_is_integer : Stmt := topS 8
abbrev N_is_integer : List Str := ["value"]
theorem sc_is_integer : FnScope N_is_integer ["value"] (defScope s_is_integer) := ⟨rfl, rfl, rfl, by decide +kernel, rfl, by decide +kernel, by decide +kernel⟩
abbrev s_is_within : Stmt := topS 9
abbrev N_is_within : List Str := ["value", "least", "most"]
theorem sc_is_within : FnScope N_is_within ["value", "least", "most"] (defScope s_is_within) := ⟨rfl, rfl, rfl, by decide +kernel, rfl, by decide +kernel, by decide +kernel⟩
abbrev s_need_number : Stmt := topS 10
abbrev N_need_number : List Str := ["value", "part", "least", "most"]
theorem sc_need_number : FnScope N_need_number ["value", "part", "least", "most"] (defScope s_need_number) := ⟨rfl, rfl, rfl, by decide +kernel, rfl, by decide +kernel, by decide +kernel⟩
abbrev s_need_whole : Stmt := topS 15
abbrev N_need_whole : List Str := ["value", "hands", "each"]
theorem sc_need_whole : FnScope N_need_whole ["value", "hands"] (defScope s_need_whole) := ⟨rfl, rfl, rfl, by decide +kernel, rfl, by decide +kernel, by decide +kernel⟩
abbrev s_planned : Stmt := topS 16
abbrev N_planned : List Str := ["lot", "hands", "ticks", "made", "found", "_", "dues", "places", "at", "factor"]
theorem sc_planned : FnScope N_planned ["lot", "hands", "ticks"] (defScope s_planned) := ⟨rfl, rfl, rfl, by decide +kernel, rfl, by decide +kernel, by decide +kernel⟩
abbrev s_hands_plan : Stmt := topS 17
abbrev N_hands_plan : List Str := ["factors", "hands", "ticks", "lot"]
theorem sc_hands_plan : FnScope N_hands_plan ["factors", "hands", "ticks"] (defScope s_hands_plan) := ⟨rfl, rfl, rfl, by decide +kernel, rfl, by decide +kernel, by decide +kernel⟩
abbrev s_late_in : Stmt := topS 18
abbrev N_late_in : List Str := ["factors", "hands", "ticks", "plan", "made", "found", "tick", "places", "at", "factor", "_", "step"]
theorem sc_late_in : FnScope N_late_in ["factors", "hands", "ticks"] (defScope s_late_in) := ⟨rfl, rfl, rfl, by decide +kernel, rfl, by decide +kernel, by decide +kernel⟩
abbrev s_law : Stmt := topS 25
abbrev N_law : List Str := ["_law_script", "_law_urn_here", "_law_turn", "_law_hands", "_law_factors_here", "_law_ticks", "_law_plan_here", "_law_when", "_law_late", "_law_place", "_law_factor", "_law_step"]
theorem sc_law : FnScope N_law ["_law_script"] (defScope s_law) := ⟨rfl, rfl, rfl, by decide +kernel, rfl, by decide +kernel, by decide +kernel⟩
theorem bt_abs : bootBuiltins "abs" = some (.builtin "abs") := by decide +kernel
theorem bt_all : bootBuiltins "all" = some (.builtin "all") := by decide +kernel
theorem bt_bool : bootBuiltins "bool" = some (.type "bool") := by decide +kernel
theorem bt_enumerate : bootBuiltins "enumerate" = some (.type "enumerate") := by decide +kernel
theorem bt_int : bootBuiltins "int" = some (.type "int") := by decide +kernel
theorem bt_isinstance : bootBuiltins "isinstance" = some (.builtin "isinstance") := by decide +kernel
theorem bt_len : bootBuiltins "len" = some (.builtin "len") := by decide +kernel
theorem bt_list : bootBuiltins "list" = some (.type "list") := by decide +kernel
theorem bt_min : bootBuiltins "min" = some (.builtin "min") := by decide +kernel
theorem bt_range : bootBuiltins "range" = some (.type "range") := by decide +kernel
theorem bt_repr : bootBuiltins "repr" = some (.builtin "repr") := by decide +kernel
theorem bt_sorted : bootBuiltins "sorted" = some (.builtin "sorted") := by decide +kernel
theorem bt_tuple : bootBuiltins "tuple" = some (.type "tuple") := by decide +kernel
structure Txt (K : PySem.W.Frag) (mg : Str → Option Value) where
  a_law_urn : Addr
  fd_law_urn : FuncData
  F_law_urn : Fun K "_law_urn" "_law_urn" s_law_urn a_law_urn fd_law_urn
  b_law_urn : Binds K fd_law_urn ["_law_script"] []
  g_law_urn : mg "_law_urn" = some (.ref a_law_urn)
  a_law_dip : Addr
  fd_law_dip : FuncData
  F_law_dip : Fun K "_law_dip" "_law_dip" s_law_dip a_law_dip fd_law_dip
  b_law_dip : Binds K fd_law_dip ["_law_urn_here", "_law_many"] []
  g_law_dip : mg "_law_dip" = some (.ref a_law_dip)
  a_law_pick : Addr
  fd_law_pick : FuncData
  F_law_pick : Fun K "_law_pick" "_law_pick" s_law_pick a_law_pick fd_law_pick
  b_law_pick : Binds K fd_law_pick ["_law_urn_here", "_law_some"] []
  g_law_pick : mg "_law_pick" = some (.ref a_law_pick)
  a_law_plan : Addr
  fd_law_plan : FuncData
  F_law_plan : Fun K "_law_plan" "_law_plan" s_law_plan a_law_plan fd_law_plan
  b_law_plan : Binds K fd_law_plan ["_law_factors_here", "_law_hands", "_law_ticks"] []
  g_law_plan : mg "_law_plan" = some (.ref a_law_plan)
  a_law_factors : Addr
  fd_law_factors : FuncData
  F_law_factors : Fun K "_law_factors" "_law_factors" s_law_factors a_law_factors fd_law_factors
  b_law_factors : Binds K fd_law_factors ["_law_urn_here", "_law_hands"] []
  g_law_factors : mg "_law_factors" = some (.ref a_law_factors)
  a_is_integer : Addr
  fd_is_integer : FuncData
  F_is_integer : Fun K "is_integer" "is_integer" s_is_integer a_is_integer fd_is_integer
  b_is_integer : Binds K fd_is_integer ["value"] []
  g_is_integer : mg "is_integer" = some (.ref a_is_integer)
  a_is_within : Addr
  fd_is_within : FuncData
  F_is_within : Fun K "is_within" "is_within" s_is_within a_is_within fd_is_within
  b_is_within : Binds K fd_is_within ["value", "least", "most"] []
  g_is_within : mg "is_within" = some (.ref a_is_within)
  a_need_number : Addr
  fd_need_number : FuncData
  F_need_number : Fun K "need_number" "need_number" s_need_number a_need_number fd_need_number
  b_need_number : Binds K fd_need_number ["value", "part", "least", "most"] []
  g_need_number : mg "need_number" = some (.ref a_need_number)
  a_need_whole : Addr
  fd_need_whole : FuncData
  F_need_whole : Fun K "need_whole" "need_whole" s_need_whole a_need_whole fd_need_whole
  b_need_whole : Binds K fd_need_whole ["value", "hands"] []
  g_need_whole : mg "need_whole" = some (.ref a_need_whole)
  a_planned : Addr
  fd_planned : FuncData
  F_planned : Fun K "planned" "planned" s_planned a_planned fd_planned
  b_planned : Binds K fd_planned ["lot", "hands", "ticks"] []
  g_planned : mg "planned" = some (.ref a_planned)
  a_hands_plan : Addr
  fd_hands_plan : FuncData
  F_hands_plan : Fun K "hands_plan" "hands_plan" s_hands_plan a_hands_plan fd_hands_plan
  b_hands_plan : Binds K fd_hands_plan ["factors", "hands", "ticks"] []
  g_hands_plan : mg "hands_plan" = some (.ref a_hands_plan)
  a_late_in : Addr
  fd_late_in : FuncData
  F_late_in : Fun K "late_in" "late_in" s_late_in a_late_in fd_late_in
  b_late_in : Binds K fd_late_in ["factors", "hands", "ticks"] []
  g_late_in : mg "late_in" = some (.ref a_late_in)
  kb_hands_plan_ticks_hands_factors : KBn K fd_hands_plan ["factors", "hands", "ticks"] 0 ["ticks", "hands", "factors"] (fun _ xs => match xs with | [x0, x1, x2] => [x2, x1, x0] | _ => []) (fun _ xs => match xs with | [x0, x1, x2] => [x2, x1, x0] | _ => [])
  kb_late_in_ticks_factors_hands : KBn K fd_late_in ["factors", "hands", "ticks"] 0 ["ticks", "factors", "hands"] (fun _ xs => match xs with | [x0, x1, x2] => [x1, x2, x0] | _ => []) (fun _ xs => match xs with | [x0, x1, x2] => [x1, x2, x0] | _ => [])
  n_abs : mg "abs" = none
  n_all : mg "all" = none
  n_bool : mg "bool" = none
  n_enumerate : mg "enumerate" = none
  n_int : mg "int" = none
  n_isinstance : mg "isinstance" = none
  n_len : mg "len" = none
  n_list : mg "list" = none
  n_min : mg "min" = none
  n_range : mg "range" = none
  n_repr : mg "repr" = none
  n_sorted : mg "sorted" = none
  n_tuple : mg "tuple" = none
  g_MOST_FACTORS : ∃ t, mg "MOST_FACTORS" = some (.int (40) t)
  g_MOST_HANDS : ∃ t, mg "MOST_HANDS" = some (.int (8) t)
  g_MOST_LATE : ∃ t, mg "MOST_LATE" = some (.int (20000) t)
  g_MOST_PART : ∃ t, mg "MOST_PART" = some (.int (1000000) t)
  g_MOST_TICKS : ∃ t, mg "MOST_TICKS" = some (.int (2000) t)
section
variable {P : Program} {w : World} {K : PySem.W.Frag} {mg : Str → Option Value} {base : Heap}
/-- the urn -/
def urnO (cs : List Int) (t r : Int) : MO := .lst [.lst (cs.map D.int), .int t, .int r]
def UrnM (b : Int) (o : MO) : Prop := ∃ cs t r, o = urnO cs t r ∧ cs.length ≤ 63 ∧ 0 ≤ t ∧ t ≤ b ∧ 0 ≤ r
theorem UrnM.mono {b c : Int} {o : MO} (h : UrnM b o) (k : b ≤ c) : UrnM c o := by
  obtain ⟨cs, t, r, e, h1, h2, h3, h4⟩ := h
  exact ⟨cs, t, r, e, h1, h2, Int.le_trans h3 k, h4⟩

def sp_law_urn : DSp := fun ds M Q _ => ∃ ns : List Int, ds = [.scr (ns.map D.int)] ∧ ns.length ≤ 63 ∧ ∀ p o, UrnM 0 o → Q (.ptr p) ((p, o) :: M)
theorem ok_law_urn (T : Txt K mg) : FnOk P w K mg base CX0 1 T.a_law_urn T.fd_law_urn ["_law_script"] (toSp K sp_law_urn) :=
  fun_ok T.F_law_urn sc_law_urn (fun ds M Q E h => (by obtain ⟨ns, rfl, _⟩ := h; rfl)) fun cdv A outer s H E hr => ⟨_, (dss_one (ds_ret (de_lstM (da_cons (de_lc [("_law_cell", 1)] rfl sc_law_urn.nd (di_seq (de_slice (de_var 0) do_none (do_some de_int))) (blkOk_by (own := [("_law_cell", 1)]) (N := N_law_urn) (sc := defScope s_law_urn) (by decide +kernel)) (by decide) (fun _ _ _ _ _ => (dg_name (i := 1) sc_law_urn.nd rfl (by first | exact .inl rfl | exact .inr rfl))) (fun _ _ _ _ _ => dts_nil) (fun _ _ _ _ _ => (de_callTy call_int1 ref_intOf T.n_int bt_int (da_cons (de_var 1) da_nil)))) (da_cons de_int (da_cons de_int da_nil)))))), fun ds M Q E' h => by
    obtain ⟨ns, rfl, hl, h⟩ := h
    (try simp only [DL.dRet, DL.dAsg, DL.dSeq, DL.dNext, DL.dIfS, DL.dDrop, DL.dName, DL.dVar, DL.dVarF, dC, DL.dCons, DL.dNil, DL.dOp, DL.dUn, DL.dTest, DL.dCB, DL.dTup, DL.dLst, DL.dLstM, DL.dgTup, DL.dgNil, DL.dgCons, DL.dAndV, DL.dOrV, DL.dNotV, DL.dAndT, DL.dOrT, DL.dNotT, DL.dIf, DL.dIsN, DL.dNotN, DL.isNon, DL.dCall, DL.dCallN, DL.dPar, DL.dPar3, DL.dFrz, DL.dSl, DL.dNoPart, DL.dPart, q_ixT, q_ixL, q_ixS, q_ixP, q_ixC, q_int, q_int0, q_addI, q_addS, q_addT, q_addL, q_mulI, q_mulL, q_mulM, q_lenS, q_lenT, q_lenL, q_lenX, q_lenP, q_intI, q_intB, q_eqI, q_eqS, q_eqB, q_neI, q_neS, q_neB, q_slT, q_slL, q_slX, q_slP, q_slS, DL.dIt_q, q_itL, q_itT, q_itX, DL.rAbs, DL.rMin2, DL.rMax2, DL.rTupOf, DL.rLstOf, DL.rLstOfM, DL.rIsiD, DL.Items, DL.ItemsL, DL.TyM, DL.dFor, DL.dRange1, DL.dRange2, DL.dEnum_q, q_enL, q_enT, q_enX, DL.dZip, DL.dBM, DL.dBM0, DL.TyD, DL.rAppendD, DL.rExtendD, DL.rPopD, DL.seqOf, DL.dDNewT, DL.dDNewK, DL.dLc, DL.dLcM, DL.dComp, DL.dYes, DL.dChain, DL.wipeR, DL.dTurns, DL.dgSubL, DL.startR, List.map_cons, List.map_nil, List.length_cons, List.length_nil, List.cons_append, List.nil_append, List.getElem?_cons_zero, List.getElem?_cons_succ, List.set_cons_zero, List.set_cons_succ, List.reduceReplicate, Nat.reduceAdd, Nat.reduceSub, Nat.zero_add, sz0, sz1, sz2, sz3, sz4, sz5, sz6, sz7, sz8, sz9, sz10, sz11, sz12, exists_eq_left, exists_eq_left', exists_eq_right, exists_and_left, exists_and_right, exists_const, exists_eq, List.cons.injEq, and_true, true_and, if_true, if_false, Bool.true_eq_false, Bool.false_eq_true, Bool.not_true, Bool.not_false, ite_true, ite_false, DL.D.int.injEq, DL.D.ty.injEq, DL.D.str.injEq, DL.D.tup.injEq, DL.D.lst.injEq, DL.D.ptr.injEq, DL.D.bl.injEq, DL.dNever, Option.some.injEq, eq_self, reduceIte, kitB_ii, kitB_ib, reduceCtorEq, and_self, and_assoc, decide_eq_true_eq])
    rw [show (63 : Int) = ((63 : Nat) : Int) from rfl, cutD_take]
    have e63 : ((ns.map D.int).take 63).length ≤ 63 := by rw [List.length_take]; omega
    refine DL.comp_map id (by rw [List.length_nil, Nat.zero_add]; exact Nat.le_trans e63 (by decide)) (fun x hx R N hR => ?_) (fun p => rtW_of (h p _ ⟨ns.take 63, 0, 0, ?_, ?_, by decide, by decide, by decide⟩))
    · obtain ⟨n, _, rfl⟩ := List.mem_map.mp (List.mem_of_mem_take hx)
      (try simp only [DL.dRet, DL.dAsg, DL.dSeq, DL.dNext, DL.dIfS, DL.dDrop, DL.dName, DL.dVar, DL.dVarF, dC, DL.dCons, DL.dNil, DL.dOp, DL.dUn, DL.dTest, DL.dCB, DL.dTup, DL.dLst, DL.dLstM, DL.dgTup, DL.dgNil, DL.dgCons, DL.dAndV, DL.dOrV, DL.dNotV, DL.dAndT, DL.dOrT, DL.dNotT, DL.dIf, DL.dIsN, DL.dNotN, DL.isNon, DL.dCall, DL.dCallN, DL.dPar, DL.dPar3, DL.dFrz, DL.dSl, DL.dNoPart, DL.dPart, q_ixT, q_ixL, q_ixS, q_ixP, q_ixC, q_int, q_int0, q_addI, q_addS, q_addT, q_addL, q_mulI, q_mulL, q_mulM, q_lenS, q_lenT, q_lenL, q_lenX, q_lenP, q_intI, q_intB, q_eqI, q_eqS, q_eqB, q_neI, q_neS, q_neB, q_slT, q_slL, q_slX, q_slP, q_slS, DL.dIt_q, q_itL, q_itT, q_itX, DL.rAbs, DL.rMin2, DL.rMax2, DL.rTupOf, DL.rLstOf, DL.rLstOfM, DL.rIsiD, DL.Items, DL.ItemsL, DL.TyM, DL.dFor, DL.dRange1, DL.dRange2, DL.dEnum_q, q_enL, q_enT, q_enX, DL.dZip, DL.dBM, DL.dBM0, DL.TyD, DL.rAppendD, DL.rExtendD, DL.rPopD, DL.seqOf, DL.dDNewT, DL.dDNewK, DL.dLc, DL.dLcM, DL.dComp, DL.dYes, DL.dChain, DL.wipeR, DL.dTurns, DL.dgSubL, DL.startR, List.map_cons, List.map_nil, List.length_cons, List.length_nil, List.cons_append, List.nil_append, List.getElem?_cons_zero, List.getElem?_cons_succ, List.set_cons_zero, List.set_cons_succ, List.reduceReplicate, Nat.reduceAdd, Nat.reduceSub, Nat.zero_add, sz0, sz1, sz2, sz3, sz4, sz5, sz6, sz7, sz8, sz9, sz10, sz11, sz12, exists_eq_left, exists_eq_left', exists_eq_right, exists_and_left, exists_and_right, exists_const, exists_eq, List.cons.injEq, and_true, true_and, if_true, if_false, Bool.true_eq_false, Bool.false_eq_true, Bool.not_true, Bool.not_false, ite_true, ite_false, DL.D.int.injEq, DL.D.ty.injEq, DL.D.str.injEq, DL.D.tup.injEq, DL.D.lst.injEq, DL.D.ptr.injEq, DL.D.bl.injEq, DL.dNever, Option.some.injEq, eq_self, reduceIte, kitB_ii, kitB_ib, reduceCtorEq, and_self, and_assoc, decide_eq_true_eq])
      exact hR
    · rw [List.nil_append, List.map_id, ← List.map_take]
      rfl
    · rw [List.length_take]; omega
    ⟩
def sp_law_dip : DSp := fun ds M Q _ => ∃ (p : Addr) (many b : Int) (A B : MM) (o : MO), ds = [.ptr p, .int many] ∧ 0 < many ∧ many < 1073741824 ∧ M = A ++ (p, o) :: B ∧ UrnM b o ∧ b < 4194304 ∧
  ∀ (v : Int) (o' : MO), 0 ≤ v → v < many → UrnM (b + 1) o' → Q (.int v) (A ++ (p, o') :: B)
theorem ok_law_dip (T : Txt K mg) : FnOk P w K mg base CX0 1 T.a_law_dip T.fd_law_dip ["_law_urn_here", "_law_many"] (toSp K sp_law_dip) :=
  fun_ok T.F_law_dip sc_law_dip (fun ds M Q E h => (by obtain ⟨p, many, b, A, B, o, rfl, _⟩ := h; rfl)) fun cdv A outer s H E hr => ⟨_, (dss_cons (ds_if (dt_gt (de_ix (de_var 0) de_int) de_int) (dss_cons (ds_set (i := 2) sc_law_dip.nd rfl (by first | exact .inl rfl | exact .inr rfl) (de_callTy call_int1 ref_intOf T.n_int bt_int (da_cons (de_ix (de_var 0) de_int) da_nil))) (dss_cons (ds_asg (de_fdiv (de_var 2) (de_var 1)) (dg_subL (de_var 0) de_int)) (dss_one (ds_ret (de_mod (de_callTy call_int1 ref_intOf T.n_int bt_int (da_cons (de_var 2) da_nil)) (de_var 1)))))) dss_nil) (dss_cons (ds_set (i := 3) sc_law_dip.nd rfl (by first | exact .inl rfl | exact .inr rfl) (de_ix (de_var 0) de_int)) (dss_cons (ds_asg (de_add (de_var 3) de_int) (dg_subL (de_var 0) de_int)) (dss_cons (ds_set (i := 4) sc_law_dip.nd rfl (by first | exact .inl rfl | exact .inr rfl) (de_add (de_mul de_int (de_var 3)) de_int)) (dss_cons (ds_if (dt_neD hr.units (de_ix (de_var 0) de_int) (de_lst da_nil)) (dss_one (ds_set (i := 4) sc_law_dip.nd rfl (by first | exact .inl rfl | exact .inr rfl) (de_ix (de_ix (de_var 0) de_int) (de_mod (de_callTy call_int1 ref_intOf T.n_int bt_int (da_cons (de_var 3) da_nil)) (de_callB call_lenV ref_len T.n_len bt_len (da_cons (de_ix (de_var 0) de_int) da_nil)))))) dss_nil) (dss_cons (ds_if (dw_and (dt_lt (de_var 3) (de_callB call_lenV ref_len T.n_len bt_len (da_cons (de_ix (de_var 0) de_int) da_nil))) (dw_and1 (dt_ge (de_callB call_abs ref_abs T.n_abs bt_abs (da_cons (de_var 4) da_nil)) (de_pow de_int de_int)))).dt (dss_cons (ds_set (i := 2) sc_law_dip.nd rfl (by first | exact .inl rfl | exact .inr rfl) (de_add (de_mul de_int (de_sub (de_callB call_abs ref_abs T.n_abs bt_abs (da_cons (de_var 4) da_nil)) (de_pow de_int de_int))) (de_callTy call_int1 ref_intOf T.n_int bt_int (da_cons (de_lt (de_var 4) de_int) da_nil)))) (dss_cons (ds_asg (de_fdiv (de_var 2) (de_var 1)) (dg_subL (de_var 0) de_int)) (dss_one (ds_ret (de_mod (de_callTy call_int1 ref_intOf T.n_int bt_int (da_cons (de_var 2) da_nil)) (de_var 1)))))) dss_nil) (dss_cons (ds_set (i := 5) sc_law_dip.nd rfl (by first | exact .inl rfl | exact .inr rfl) (de_mod (de_callTy call_int1 ref_intOf T.n_int bt_int (da_cons (de_pow (de_add (de_add (de_mod (de_callTy call_int1 ref_intOf T.n_int bt_int (da_cons (de_var 4) da_nil)) de_int) (de_mul de_int (de_var 3))) de_int) de_int) da_nil)) de_int)) (dss_cons (ds_set (i := 5) sc_law_dip.nd rfl (by first | exact .inl rfl | exact .inr rfl) (de_mod (de_callTy call_int1 ref_intOf T.n_int bt_int (da_cons (de_pow (de_add (de_add (de_mul (de_var 5) (de_add (de_mul de_int (de_var 3)) de_int)) (de_mul (de_mul de_int (de_var 3)) (de_var 3))) de_int) de_int) da_nil)) de_int)) (dss_one (ds_ret (de_mod (de_callTy call_int1 ref_intOf T.n_int bt_int (da_cons (de_fdiv (de_var 5) de_int) da_nil)) (de_var 1)))))))))))), fun ds M Q E' h => by
    obtain ⟨p, many, b, A, B, o, rfl, m0, m1, rfl, ⟨cs, t, r, rfl, hc, t0, t1, r0⟩, hb, h⟩ := h
    have mem : ∀ t r, (p, urnO cs t r) ∈ A ++ (p, urnO cs t r) :: B := by intro t r; simp
    have g0 : ∀ t r, atI [D.lst (cs.map D.int), D.int t, D.int r] 0 = some (.lst (cs.map D.int)) := fun _ _ => rfl
    have g1 : ∀ t r, atI [D.lst (cs.map D.int), D.int t, D.int r] 1 = some (.int t) := fun _ _ => rfl
    have g2 : ∀ t r, atI [D.lst (cs.map D.int), D.int t, D.int r] 2 = some (.int r) := fun _ _ => rfl
    have fin : ∀ (x : Int) t' r', 0 ≤ t' → t' ≤ b + 1 → 0 ≤ r' → rtW Q (.int (x % many)) (A ++ (p, urnO cs t' r') :: B) := fun x t' r' h1 h2 h3 =>
      rtW_of (h _ _ (Int.emod_nonneg _ (by omega)) (Int.emod_lt_of_pos _ m0) ⟨cs, t', r', rfl, hc, h1, h2, h3⟩)
    refine seq_i fun K1 hK1 => ?_
    (try simp only [DL.dRet, DL.dAsg, DL.dSeq, DL.dNext, DL.dIfS, DL.dDrop, DL.dName, DL.dVar, DL.dVarF, dC, DL.dCons, DL.dNil, DL.dOp, DL.dUn, DL.dTest, DL.dCB, DL.dTup, DL.dLst, DL.dLstM, DL.dgTup, DL.dgNil, DL.dgCons, DL.dAndV, DL.dOrV, DL.dNotV, DL.dAndT, DL.dOrT, DL.dNotT, DL.dIf, DL.dIsN, DL.dNotN, DL.isNon, DL.dCall, DL.dCallN, DL.dPar, DL.dPar3, DL.dFrz, DL.dSl, DL.dNoPart, DL.dPart, q_ixT, q_ixL, q_ixS, q_ixP, q_ixC, q_int, q_int0, q_addI, q_addS, q_addT, q_addL, q_mulI, q_mulL, q_mulM, q_lenS, q_lenT, q_lenL, q_lenX, q_lenP, q_intI, q_intB, q_eqI, q_eqS, q_eqB, q_neI, q_neS, q_neB, q_slT, q_slL, q_slX, q_slP, q_slS, DL.dIt_q, q_itL, q_itT, q_itX, DL.rAbs, DL.rMin2, DL.rMax2, DL.rTupOf, DL.rLstOf, DL.rLstOfM, DL.rIsiD, DL.Items, DL.ItemsL, DL.TyM, DL.dFor, DL.dRange1, DL.dRange2, DL.dEnum_q, q_enL, q_enT, q_enX, DL.dZip, DL.dBM, DL.dBM0, DL.TyD, DL.rAppendD, DL.rExtendD, DL.rPopD, DL.seqOf, DL.dDNewT, DL.dDNewK, DL.dLc, DL.dLcM, DL.dComp, DL.dYes, DL.dChain, DL.wipeR, DL.dTurns, DL.dgSubL, DL.startR, List.map_cons, List.map_nil, List.length_cons, List.length_nil, List.cons_append, List.nil_append, List.getElem?_cons_zero, List.getElem?_cons_succ, List.set_cons_zero, List.set_cons_succ, List.reduceReplicate, Nat.reduceAdd, Nat.reduceSub, Nat.zero_add, sz0, sz1, sz2, sz3, sz4, sz5, sz6, sz7, sz8, sz9, sz10, sz11, sz12, exists_eq_left, exists_eq_left', exists_eq_right, exists_and_left, exists_and_right, exists_const, exists_eq, List.cons.injEq, and_true, true_and, if_true, if_false, Bool.true_eq_false, Bool.false_eq_true, Bool.not_true, Bool.not_false, ite_true, ite_false, DL.D.int.injEq, DL.D.ty.injEq, DL.D.str.injEq, DL.D.tup.injEq, DL.D.lst.injEq, DL.D.ptr.injEq, DL.D.bl.injEq, DL.dNever, Option.some.injEq, eq_self, reduceIte, kitB_ii, kitB_ib, reduceCtorEq, and_self, and_assoc, decide_eq_true_eq])
    refine ⟨_, mem t r, _, g2 t r, ?_⟩
    (try simp only [DL.dRet, DL.dAsg, DL.dSeq, DL.dNext, DL.dIfS, DL.dDrop, DL.dName, DL.dVar, DL.dVarF, dC, DL.dCons, DL.dNil, DL.dOp, DL.dUn, DL.dTest, DL.dCB, DL.dTup, DL.dLst, DL.dLstM, DL.dgTup, DL.dgNil, DL.dgCons, DL.dAndV, DL.dOrV, DL.dNotV, DL.dAndT, DL.dOrT, DL.dNotT, DL.dIf, DL.dIsN, DL.dNotN, DL.isNon, DL.dCall, DL.dCallN, DL.dPar, DL.dPar3, DL.dFrz, DL.dSl, DL.dNoPart, DL.dPart, q_ixT, q_ixL, q_ixS, q_ixP, q_ixC, q_int, q_int0, q_addI, q_addS, q_addT, q_addL, q_mulI, q_mulL, q_mulM, q_lenS, q_lenT, q_lenL, q_lenX, q_lenP, q_intI, q_intB, q_eqI, q_eqS, q_eqB, q_neI, q_neS, q_neB, q_slT, q_slL, q_slX, q_slP, q_slS, DL.dIt_q, q_itL, q_itT, q_itX, DL.rAbs, DL.rMin2, DL.rMax2, DL.rTupOf, DL.rLstOf, DL.rLstOfM, DL.rIsiD, DL.Items, DL.ItemsL, DL.TyM, DL.dFor, DL.dRange1, DL.dRange2, DL.dEnum_q, q_enL, q_enT, q_enX, DL.dZip, DL.dBM, DL.dBM0, DL.TyD, DL.rAppendD, DL.rExtendD, DL.rPopD, DL.seqOf, DL.dDNewT, DL.dDNewK, DL.dLc, DL.dLcM, DL.dComp, DL.dYes, DL.dChain, DL.wipeR, DL.dTurns, DL.dgSubL, DL.startR, List.map_cons, List.map_nil, List.length_cons, List.length_nil, List.cons_append, List.nil_append, List.getElem?_cons_zero, List.getElem?_cons_succ, List.set_cons_zero, List.set_cons_succ, List.reduceReplicate, Nat.reduceAdd, Nat.reduceSub, Nat.zero_add, sz0, sz1, sz2, sz3, sz4, sz5, sz6, sz7, sz8, sz9, sz10, sz11, sz12, exists_eq_left, exists_eq_left', exists_eq_right, exists_and_left, exists_and_right, exists_const, exists_eq, List.cons.injEq, and_true, true_and, if_true, if_false, Bool.true_eq_false, Bool.false_eq_true, Bool.not_true, Bool.not_false, ite_true, ite_false, DL.D.int.injEq, DL.D.ty.injEq, DL.D.str.injEq, DL.D.tup.injEq, DL.D.lst.injEq, DL.D.ptr.injEq, DL.D.bl.injEq, DL.dNever, Option.some.injEq, eq_self, reduceIte, kitB_ii, kitB_ib, reduceCtorEq, and_self, and_assoc, decide_eq_true_eq])
    by_cases hr0 : 0 < r
    · rw [if_pos hr0]
      refine ⟨_, mem t r, _, g2 t r, ?_⟩
      (try simp only [DL.dRet, DL.dAsg, DL.dSeq, DL.dNext, DL.dIfS, DL.dDrop, DL.dName, DL.dVar, DL.dVarF, dC, DL.dCons, DL.dNil, DL.dOp, DL.dUn, DL.dTest, DL.dCB, DL.dTup, DL.dLst, DL.dLstM, DL.dgTup, DL.dgNil, DL.dgCons, DL.dAndV, DL.dOrV, DL.dNotV, DL.dAndT, DL.dOrT, DL.dNotT, DL.dIf, DL.dIsN, DL.dNotN, DL.isNon, DL.dCall, DL.dCallN, DL.dPar, DL.dPar3, DL.dFrz, DL.dSl, DL.dNoPart, DL.dPart, q_ixT, q_ixL, q_ixS, q_ixP, q_ixC, q_int, q_int0, q_addI, q_addS, q_addT, q_addL, q_mulI, q_mulL, q_mulM, q_lenS, q_lenT, q_lenL, q_lenX, q_lenP, q_intI, q_intB, q_eqI, q_eqS, q_eqB, q_neI, q_neS, q_neB, q_slT, q_slL, q_slX, q_slP, q_slS, DL.dIt_q, q_itL, q_itT, q_itX, DL.rAbs, DL.rMin2, DL.rMax2, DL.rTupOf, DL.rLstOf, DL.rLstOfM, DL.rIsiD, DL.Items, DL.ItemsL, DL.TyM, DL.dFor, DL.dRange1, DL.dRange2, DL.dEnum_q, q_enL, q_enT, q_enX, DL.dZip, DL.dBM, DL.dBM0, DL.TyD, DL.rAppendD, DL.rExtendD, DL.rPopD, DL.seqOf, DL.dDNewT, DL.dDNewK, DL.dLc, DL.dLcM, DL.dComp, DL.dYes, DL.dChain, DL.wipeR, DL.dTurns, DL.dgSubL, DL.startR, List.map_cons, List.map_nil, List.length_cons, List.length_nil, List.cons_append, List.nil_append, List.getElem?_cons_zero, List.getElem?_cons_succ, List.set_cons_zero, List.set_cons_succ, List.reduceReplicate, Nat.reduceAdd, Nat.reduceSub, Nat.zero_add, sz0, sz1, sz2, sz3, sz4, sz5, sz6, sz7, sz8, sz9, sz10, sz11, sz12, exists_eq_left, exists_eq_left', exists_eq_right, exists_and_left, exists_and_right, exists_const, exists_eq, List.cons.injEq, and_true, true_and, if_true, if_false, Bool.true_eq_false, Bool.false_eq_true, Bool.not_true, Bool.not_false, ite_true, ite_false, DL.D.int.injEq, DL.D.ty.injEq, DL.D.str.injEq, DL.D.tup.injEq, DL.D.lst.injEq, DL.D.ptr.injEq, DL.D.bl.injEq, DL.dNever, Option.some.injEq, eq_self, reduceIte, kitB_ii, kitB_ib, reduceCtorEq, and_self, and_assoc, decide_eq_true_eq])
      exact ⟨⟨m0, m1⟩, _, 2, rfl, _, Chg.mid (o' := urnO cs t (r / many)), m0, fin _ _ _ t0 (by omega) (Int.ediv_nonneg r0 (by omega))⟩
    rw [if_neg hr0]
    subst hK1
    refine seq_i fun K2 hK2 => ?_
    (try simp only [DL.dRet, DL.dAsg, DL.dSeq, DL.dNext, DL.dIfS, DL.dDrop, DL.dName, DL.dVar, DL.dVarF, dC, DL.dCons, DL.dNil, DL.dOp, DL.dUn, DL.dTest, DL.dCB, DL.dTup, DL.dLst, DL.dLstM, DL.dgTup, DL.dgNil, DL.dgCons, DL.dAndV, DL.dOrV, DL.dNotV, DL.dAndT, DL.dOrT, DL.dNotT, DL.dIf, DL.dIsN, DL.dNotN, DL.isNon, DL.dCall, DL.dCallN, DL.dPar, DL.dPar3, DL.dFrz, DL.dSl, DL.dNoPart, DL.dPart, q_ixT, q_ixL, q_ixS, q_ixP, q_ixC, q_int, q_int0, q_addI, q_addS, q_addT, q_addL, q_mulI, q_mulL, q_mulM, q_lenS, q_lenT, q_lenL, q_lenX, q_lenP, q_intI, q_intB, q_eqI, q_eqS, q_eqB, q_neI, q_neS, q_neB, q_slT, q_slL, q_slX, q_slP, q_slS, DL.dIt_q, q_itL, q_itT, q_itX, DL.rAbs, DL.rMin2, DL.rMax2, DL.rTupOf, DL.rLstOf, DL.rLstOfM, DL.rIsiD, DL.Items, DL.ItemsL, DL.TyM, DL.dFor, DL.dRange1, DL.dRange2, DL.dEnum_q, q_enL, q_enT, q_enX, DL.dZip, DL.dBM, DL.dBM0, DL.TyD, DL.rAppendD, DL.rExtendD, DL.rPopD, DL.seqOf, DL.dDNewT, DL.dDNewK, DL.dLc, DL.dLcM, DL.dComp, DL.dYes, DL.dChain, DL.wipeR, DL.dTurns, DL.dgSubL, DL.startR, List.map_cons, List.map_nil, List.length_cons, List.length_nil, List.cons_append, List.nil_append, List.getElem?_cons_zero, List.getElem?_cons_succ, List.set_cons_zero, List.set_cons_succ, List.reduceReplicate, Nat.reduceAdd, Nat.reduceSub, Nat.zero_add, sz0, sz1, sz2, sz3, sz4, sz5, sz6, sz7, sz8, sz9, sz10, sz11, sz12, exists_eq_left, exists_eq_left', exists_eq_right, exists_and_left, exists_and_right, exists_const, exists_eq, List.cons.injEq, and_true, true_and, if_true, if_false, Bool.true_eq_false, Bool.false_eq_true, Bool.not_true, Bool.not_false, ite_true, ite_false, DL.D.int.injEq, DL.D.ty.injEq, DL.D.str.injEq, DL.D.tup.injEq, DL.D.lst.injEq, DL.D.ptr.injEq, DL.D.bl.injEq, DL.dNever, Option.some.injEq, eq_self, reduceIte, kitB_ii, kitB_ib, reduceCtorEq, and_self, and_assoc, decide_eq_true_eq])
    refine ⟨_, mem t r, _, g1 t r, ?_⟩
    subst hK2
    refine seq_i fun K3 hK3 => ?_
    (try simp only [DL.dRet, DL.dAsg, DL.dSeq, DL.dNext, DL.dIfS, DL.dDrop, DL.dName, DL.dVar, DL.dVarF, dC, DL.dCons, DL.dNil, DL.dOp, DL.dUn, DL.dTest, DL.dCB, DL.dTup, DL.dLst, DL.dLstM, DL.dgTup, DL.dgNil, DL.dgCons, DL.dAndV, DL.dOrV, DL.dNotV, DL.dAndT, DL.dOrT, DL.dNotT, DL.dIf, DL.dIsN, DL.dNotN, DL.isNon, DL.dCall, DL.dCallN, DL.dPar, DL.dPar3, DL.dFrz, DL.dSl, DL.dNoPart, DL.dPart, q_ixT, q_ixL, q_ixS, q_ixP, q_ixC, q_int, q_int0, q_addI, q_addS, q_addT, q_addL, q_mulI, q_mulL, q_mulM, q_lenS, q_lenT, q_lenL, q_lenX, q_lenP, q_intI, q_intB, q_eqI, q_eqS, q_eqB, q_neI, q_neS, q_neB, q_slT, q_slL, q_slX, q_slP, q_slS, DL.dIt_q, q_itL, q_itT, q_itX, DL.rAbs, DL.rMin2, DL.rMax2, DL.rTupOf, DL.rLstOf, DL.rLstOfM, DL.rIsiD, DL.Items, DL.ItemsL, DL.TyM, DL.dFor, DL.dRange1, DL.dRange2, DL.dEnum_q, q_enL, q_enT, q_enX, DL.dZip, DL.dBM, DL.dBM0, DL.TyD, DL.rAppendD, DL.rExtendD, DL.rPopD, DL.seqOf, DL.dDNewT, DL.dDNewK, DL.dLc, DL.dLcM, DL.dComp, DL.dYes, DL.dChain, DL.wipeR, DL.dTurns, DL.dgSubL, DL.startR, List.map_cons, List.map_nil, List.length_cons, List.length_nil, List.cons_append, List.nil_append, List.getElem?_cons_zero, List.getElem?_cons_succ, List.set_cons_zero, List.set_cons_succ, List.reduceReplicate, Nat.reduceAdd, Nat.reduceSub, Nat.zero_add, sz0, sz1, sz2, sz3, sz4, sz5, sz6, sz7, sz8, sz9, sz10, sz11, sz12, exists_eq_left, exists_eq_left', exists_eq_right, exists_and_left, exists_and_right, exists_const, exists_eq, List.cons.injEq, and_true, true_and, if_true, if_false, Bool.true_eq_false, Bool.false_eq_true, Bool.not_true, Bool.not_false, ite_true, ite_false, DL.D.int.injEq, DL.D.ty.injEq, DL.D.str.injEq, DL.D.tup.injEq, DL.D.lst.injEq, DL.D.ptr.injEq, DL.D.bl.injEq, DL.dNever, Option.some.injEq, eq_self, reduceIte, kitB_ii, kitB_ib, reduceCtorEq, and_self, and_assoc, decide_eq_true_eq])
    refine ⟨_, 1, rfl, _, Chg.mid (o' := urnO cs (t + 1) r), ?_⟩
    subst hK3
    refine seq_i fun K4 hK4 => ?_
    (try simp only [DL.dRet, DL.dAsg, DL.dSeq, DL.dNext, DL.dIfS, DL.dDrop, DL.dName, DL.dVar, DL.dVarF, dC, DL.dCons, DL.dNil, DL.dOp, DL.dUn, DL.dTest, DL.dCB, DL.dTup, DL.dLst, DL.dLstM, DL.dgTup, DL.dgNil, DL.dgCons, DL.dAndV, DL.dOrV, DL.dNotV, DL.dAndT, DL.dOrT, DL.dNotT, DL.dIf, DL.dIsN, DL.dNotN, DL.isNon, DL.dCall, DL.dCallN, DL.dPar, DL.dPar3, DL.dFrz, DL.dSl, DL.dNoPart, DL.dPart, q_ixT, q_ixL, q_ixS, q_ixP, q_ixC, q_int, q_int0, q_addI, q_addS, q_addT, q_addL, q_mulI, q_mulL, q_mulM, q_lenS, q_lenT, q_lenL, q_lenX, q_lenP, q_intI, q_intB, q_eqI, q_eqS, q_eqB, q_neI, q_neS, q_neB, q_slT, q_slL, q_slX, q_slP, q_slS, DL.dIt_q, q_itL, q_itT, q_itX, DL.rAbs, DL.rMin2, DL.rMax2, DL.rTupOf, DL.rLstOf, DL.rLstOfM, DL.rIsiD, DL.Items, DL.ItemsL, DL.TyM, DL.dFor, DL.dRange1, DL.dRange2, DL.dEnum_q, q_enL, q_enT, q_enX, DL.dZip, DL.dBM, DL.dBM0, DL.TyD, DL.rAppendD, DL.rExtendD, DL.rPopD, DL.seqOf, DL.dDNewT, DL.dDNewK, DL.dLc, DL.dLcM, DL.dComp, DL.dYes, DL.dChain, DL.wipeR, DL.dTurns, DL.dgSubL, DL.startR, List.map_cons, List.map_nil, List.length_cons, List.length_nil, List.cons_append, List.nil_append, List.getElem?_cons_zero, List.getElem?_cons_succ, List.set_cons_zero, List.set_cons_succ, List.reduceReplicate, Nat.reduceAdd, Nat.reduceSub, Nat.zero_add, sz0, sz1, sz2, sz3, sz4, sz5, sz6, sz7, sz8, sz9, sz10, sz11, sz12, exists_eq_left, exists_eq_left', exists_eq_right, exists_and_left, exists_and_right, exists_const, exists_eq, List.cons.injEq, and_true, true_and, if_true, if_false, Bool.true_eq_false, Bool.false_eq_true, Bool.not_true, Bool.not_false, ite_true, ite_false, DL.D.int.injEq, DL.D.ty.injEq, DL.D.str.injEq, DL.D.tup.injEq, DL.D.lst.injEq, DL.D.ptr.injEq, DL.D.bl.injEq, DL.dNever, Option.some.injEq, eq_self, reduceIte, kitB_ii, kitB_ib, reduceCtorEq, and_self, and_assoc, decide_eq_true_eq])
    refine ⟨mul_small (.inl ⟨by decide, by decide⟩), ?_⟩
    subst hK4
    refine seq_i fun K5 hK5 => ?_
    have key : ∀ c : Int, K5 [some (.ptr p), some (.int many), none, some (.int t), some (.int c), none] (A ++ (p, urnO cs (t + 1) r) :: B) := by
      intro c
      subst hK5
      refine seq_i fun K6 hK6 => ?_
      have key : K6 [some (.ptr p), some (.int many), none, some (.int t), some (.int c), none] (A ++ (p, urnO cs (t + 1) r) :: B) := by
        subst hK6
        have q1 : 0 ≤ c % 2147483477 := Int.emod_nonneg _ (by decide)
        have q2 : c % 2147483477 < 2147483477 := Int.emod_lt_of_pos _ (by decide)
        refine seq_i fun K7 hK7 => ?_
        (try simp only [DL.dRet, DL.dAsg, DL.dSeq, DL.dNext, DL.dIfS, DL.dDrop, DL.dName, DL.dVar, DL.dVarF, dC, DL.dCons, DL.dNil, DL.dOp, DL.dUn, DL.dTest, DL.dCB, DL.dTup, DL.dLst, DL.dLstM, DL.dgTup, DL.dgNil, DL.dgCons, DL.dAndV, DL.dOrV, DL.dNotV, DL.dAndT, DL.dOrT, DL.dNotT, DL.dIf, DL.dIsN, DL.dNotN, DL.isNon, DL.dCall, DL.dCallN, DL.dPar, DL.dPar3, DL.dFrz, DL.dSl, DL.dNoPart, DL.dPart, q_ixT, q_ixL, q_ixS, q_ixP, q_ixC, q_int, q_int0, q_addI, q_addS, q_addT, q_addL, q_mulI, q_mulL, q_mulM, q_lenS, q_lenT, q_lenL, q_lenX, q_lenP, q_intI, q_intB, q_eqI, q_eqS, q_eqB, q_neI, q_neS, q_neB, q_slT, q_slL, q_slX, q_slP, q_slS, DL.dIt_q, q_itL, q_itT, q_itX, DL.rAbs, DL.rMin2, DL.rMax2, DL.rTupOf, DL.rLstOf, DL.rLstOfM, DL.rIsiD, DL.Items, DL.ItemsL, DL.TyM, DL.dFor, DL.dRange1, DL.dRange2, DL.dEnum_q, q_enL, q_enT, q_enX, DL.dZip, DL.dBM, DL.dBM0, DL.TyD, DL.rAppendD, DL.rExtendD, DL.rPopD, DL.seqOf, DL.dDNewT, DL.dDNewK, DL.dLc, DL.dLcM, DL.dComp, DL.dYes, DL.dChain, DL.wipeR, DL.dTurns, DL.dgSubL, DL.startR, List.map_cons, List.map_nil, List.length_cons, List.length_nil, List.cons_append, List.nil_append, List.getElem?_cons_zero, List.getElem?_cons_succ, List.set_cons_zero, List.set_cons_succ, List.reduceReplicate, Nat.reduceAdd, Nat.reduceSub, Nat.zero_add, sz0, sz1, sz2, sz3, sz4, sz5, sz6, sz7, sz8, sz9, sz10, sz11, sz12, exists_eq_left, exists_eq_left', exists_eq_right, exists_and_left, exists_and_right, exists_const, exists_eq, List.cons.injEq, and_true, true_and, if_true, if_false, Bool.true_eq_false, Bool.false_eq_true, Bool.not_true, Bool.not_false, ite_true, ite_false, DL.D.int.injEq, DL.D.ty.injEq, DL.D.str.injEq, DL.D.tup.injEq, DL.D.lst.injEq, DL.D.ptr.injEq, DL.D.bl.injEq, DL.dNever, Option.some.injEq, eq_self, reduceIte, kitB_ii, kitB_ib, reduceCtorEq, and_self, and_assoc, decide_eq_true_eq])
        refine ⟨by decide, mul_small (.inl ⟨by decide, by decide⟩), ⟨by decide, by decide, by omega⟩, by decide, ?_⟩
        generalize hm : ((c % 2147483477 + 316398 * t + 83652) ^ (5 : Int).toNat) % 2147483647 = m
        have q3 : 0 ≤ m := by rw [← hm]; exact Int.emod_nonneg _ (by decide)
        have q4 : m < 2147483647 := by rw [← hm]; exact Int.emod_lt_of_pos _ (by decide)
        subst hK7
        have q5 : 0 ≤ m * (2 * t + 28596) := Int.mul_nonneg q3 (by omega)
        have q6 : m * (2 * t + 28596) ≤ 2147483647 * (2 * t + 28596) := Int.mul_le_mul_of_nonneg_right (by omega) (by omega)
        have q7 : 0 ≤ 405751 * t * t := Int.mul_nonneg (by omega) t0
        have q8 : 405751 * t * t ≤ 405751 * 4194304 * t := Int.mul_le_mul_of_nonneg_right (by omega) t0
        refine seq_i fun K8 hK8 => ?_
        (try simp only [DL.dRet, DL.dAsg, DL.dSeq, DL.dNext, DL.dIfS, DL.dDrop, DL.dName, DL.dVar, DL.dVarF, dC, DL.dCons, DL.dNil, DL.dOp, DL.dUn, DL.dTest, DL.dCB, DL.dTup, DL.dLst, DL.dLstM, DL.dgTup, DL.dgNil, DL.dgCons, DL.dAndV, DL.dOrV, DL.dNotV, DL.dAndT, DL.dOrT, DL.dNotT, DL.dIf, DL.dIsN, DL.dNotN, DL.isNon, DL.dCall, DL.dCallN, DL.dPar, DL.dPar3, DL.dFrz, DL.dSl, DL.dNoPart, DL.dPart, q_ixT, q_ixL, q_ixS, q_ixP, q_ixC, q_int, q_int0, q_addI, q_addS, q_addT, q_addL, q_mulI, q_mulL, q_mulM, q_lenS, q_lenT, q_lenL, q_lenX, q_lenP, q_intI, q_intB, q_eqI, q_eqS, q_eqB, q_neI, q_neS, q_neB, q_slT, q_slL, q_slX, q_slP, q_slS, DL.dIt_q, q_itL, q_itT, q_itX, DL.rAbs, DL.rMin2, DL.rMax2, DL.rTupOf, DL.rLstOf, DL.rLstOfM, DL.rIsiD, DL.Items, DL.ItemsL, DL.TyM, DL.dFor, DL.dRange1, DL.dRange2, DL.dEnum_q, q_enL, q_enT, q_enX, DL.dZip, DL.dBM, DL.dBM0, DL.TyD, DL.rAppendD, DL.rExtendD, DL.rPopD, DL.seqOf, DL.dDNewT, DL.dDNewK, DL.dLc, DL.dLcM, DL.dComp, DL.dYes, DL.dChain, DL.wipeR, DL.dTurns, DL.dgSubL, DL.startR, List.map_cons, List.map_nil, List.length_cons, List.length_nil, List.cons_append, List.nil_append, List.getElem?_cons_zero, List.getElem?_cons_succ, List.set_cons_zero, List.set_cons_succ, List.reduceReplicate, Nat.reduceAdd, Nat.reduceSub, Nat.zero_add, sz0, sz1, sz2, sz3, sz4, sz5, sz6, sz7, sz8, sz9, sz10, sz11, sz12, exists_eq_left, exists_eq_left', exists_eq_right, exists_and_left, exists_and_right, exists_const, exists_eq, List.cons.injEq, and_true, true_and, if_true, if_false, Bool.true_eq_false, Bool.false_eq_true, Bool.not_true, Bool.not_false, ite_true, ite_false, DL.D.int.injEq, DL.D.ty.injEq, DL.D.str.injEq, DL.D.tup.injEq, DL.D.lst.injEq, DL.D.ptr.injEq, DL.D.bl.injEq, DL.dNever, Option.some.injEq, eq_self, reduceIte, kitB_ii, kitB_ib, reduceCtorEq, and_self, and_assoc, decide_eq_true_eq])
        refine ⟨mul_small (.inl ⟨by decide, by decide⟩), mul_small (.inl ⟨by omega, by omega⟩), mul_small (.inl ⟨by decide, by decide⟩), mul_small (.inl ⟨by omega, by omega⟩), ⟨by decide, by decide, by omega⟩, by decide, ?_⟩
        subst hK8
        (try simp only [DL.dRet, DL.dAsg, DL.dSeq, DL.dNext, DL.dIfS, DL.dDrop, DL.dName, DL.dVar, DL.dVarF, dC, DL.dCons, DL.dNil, DL.dOp, DL.dUn, DL.dTest, DL.dCB, DL.dTup, DL.dLst, DL.dLstM, DL.dgTup, DL.dgNil, DL.dgCons, DL.dAndV, DL.dOrV, DL.dNotV, DL.dAndT, DL.dOrT, DL.dNotT, DL.dIf, DL.dIsN, DL.dNotN, DL.isNon, DL.dCall, DL.dCallN, DL.dPar, DL.dPar3, DL.dFrz, DL.dSl, DL.dNoPart, DL.dPart, q_ixT, q_ixL, q_ixS, q_ixP, q_ixC, q_int, q_int0, q_addI, q_addS, q_addT, q_addL, q_mulI, q_mulL, q_mulM, q_lenS, q_lenT, q_lenL, q_lenX, q_lenP, q_intI, q_intB, q_eqI, q_eqS, q_eqB, q_neI, q_neS, q_neB, q_slT, q_slL, q_slX, q_slP, q_slS, DL.dIt_q, q_itL, q_itT, q_itX, DL.rAbs, DL.rMin2, DL.rMax2, DL.rTupOf, DL.rLstOf, DL.rLstOfM, DL.rIsiD, DL.Items, DL.ItemsL, DL.TyM, DL.dFor, DL.dRange1, DL.dRange2, DL.dEnum_q, q_enL, q_enT, q_enX, DL.dZip, DL.dBM, DL.dBM0, DL.TyD, DL.rAppendD, DL.rExtendD, DL.rPopD, DL.seqOf, DL.dDNewT, DL.dDNewK, DL.dLc, DL.dLcM, DL.dComp, DL.dYes, DL.dChain, DL.wipeR, DL.dTurns, DL.dgSubL, DL.startR, List.map_cons, List.map_nil, List.length_cons, List.length_nil, List.cons_append, List.nil_append, List.getElem?_cons_zero, List.getElem?_cons_succ, List.set_cons_zero, List.set_cons_succ, List.reduceReplicate, Nat.reduceAdd, Nat.reduceSub, Nat.zero_add, sz0, sz1, sz2, sz3, sz4, sz5, sz6, sz7, sz8, sz9, sz10, sz11, sz12, exists_eq_left, exists_eq_left', exists_eq_right, exists_and_left, exists_and_right, exists_const, exists_eq, List.cons.injEq, and_true, true_and, if_true, if_false, Bool.true_eq_false, Bool.false_eq_true, Bool.not_true, Bool.not_false, ite_true, ite_false, DL.D.int.injEq, DL.D.ty.injEq, DL.D.str.injEq, DL.D.tup.injEq, DL.D.lst.injEq, DL.D.ptr.injEq, DL.D.bl.injEq, DL.dNever, Option.some.injEq, eq_self, reduceIte, kitB_ii, kitB_ib, reduceCtorEq, and_self, and_assoc, decide_eq_true_eq])
        exact ⟨⟨by decide, by decide⟩, m0, fin _ _ _ (by omega) (by omega) r0⟩
      (try simp only [DL.dRet, DL.dAsg, DL.dSeq, DL.dNext, DL.dIfS, DL.dDrop, DL.dName, DL.dVar, DL.dVarF, dC, DL.dCons, DL.dNil, DL.dOp, DL.dUn, DL.dTest, DL.dCB, DL.dTup, DL.dLst, DL.dLstM, DL.dgTup, DL.dgNil, DL.dgCons, DL.dAndV, DL.dOrV, DL.dNotV, DL.dAndT, DL.dOrT, DL.dNotT, DL.dIf, DL.dIsN, DL.dNotN, DL.isNon, DL.dCall, DL.dCallN, DL.dPar, DL.dPar3, DL.dFrz, DL.dSl, DL.dNoPart, DL.dPart, q_ixT, q_ixL, q_ixS, q_ixP, q_ixC, q_int, q_int0, q_addI, q_addS, q_addT, q_addL, q_mulI, q_mulL, q_mulM, q_lenS, q_lenT, q_lenL, q_lenX, q_lenP, q_intI, q_intB, q_eqI, q_eqS, q_eqB, q_neI, q_neS, q_neB, q_slT, q_slL, q_slX, q_slP, q_slS, DL.dIt_q, q_itL, q_itT, q_itX, DL.rAbs, DL.rMin2, DL.rMax2, DL.rTupOf, DL.rLstOf, DL.rLstOfM, DL.rIsiD, DL.Items, DL.ItemsL, DL.TyM, DL.dFor, DL.dRange1, DL.dRange2, DL.dEnum_q, q_enL, q_enT, q_enX, DL.dZip, DL.dBM, DL.dBM0, DL.TyD, DL.rAppendD, DL.rExtendD, DL.rPopD, DL.seqOf, DL.dDNewT, DL.dDNewK, DL.dLc, DL.dLcM, DL.dComp, DL.dYes, DL.dChain, DL.wipeR, DL.dTurns, DL.dgSubL, DL.startR, List.map_cons, List.map_nil, List.length_cons, List.length_nil, List.cons_append, List.nil_append, List.getElem?_cons_zero, List.getElem?_cons_succ, List.set_cons_zero, List.set_cons_succ, List.reduceReplicate, Nat.reduceAdd, Nat.reduceSub, Nat.zero_add, sz0, sz1, sz2, sz3, sz4, sz5, sz6, sz7, sz8, sz9, sz10, sz11, sz12, exists_eq_left, exists_eq_left', exists_eq_right, exists_and_left, exists_and_right, exists_const, exists_eq, List.cons.injEq, and_true, true_and, if_true, if_false, Bool.true_eq_false, Bool.false_eq_true, Bool.not_true, Bool.not_false, ite_true, ite_false, DL.D.int.injEq, DL.D.ty.injEq, DL.D.str.injEq, DL.D.tup.injEq, DL.D.lst.injEq, DL.D.ptr.injEq, DL.D.bl.injEq, DL.dNever, Option.some.injEq, eq_self, reduceIte, kitB_ii, kitB_ib, reduceCtorEq, and_self, and_assoc, decide_eq_true_eq])
      refine ⟨_, mem (t + 1) r, _, g0 (t + 1) r, ?_⟩
      (try simp only [DL.dRet, DL.dAsg, DL.dSeq, DL.dNext, DL.dIfS, DL.dDrop, DL.dName, DL.dVar, DL.dVarF, dC, DL.dCons, DL.dNil, DL.dOp, DL.dUn, DL.dTest, DL.dCB, DL.dTup, DL.dLst, DL.dLstM, DL.dgTup, DL.dgNil, DL.dgCons, DL.dAndV, DL.dOrV, DL.dNotV, DL.dAndT, DL.dOrT, DL.dNotT, DL.dIf, DL.dIsN, DL.dNotN, DL.isNon, DL.dCall, DL.dCallN, DL.dPar, DL.dPar3, DL.dFrz, DL.dSl, DL.dNoPart, DL.dPart, q_ixT, q_ixL, q_ixS, q_ixP, q_ixC, q_int, q_int0, q_addI, q_addS, q_addT, q_addL, q_mulI, q_mulL, q_mulM, q_lenS, q_lenT, q_lenL, q_lenX, q_lenP, q_intI, q_intB, q_eqI, q_eqS, q_eqB, q_neI, q_neS, q_neB, q_slT, q_slL, q_slX, q_slP, q_slS, DL.dIt_q, q_itL, q_itT, q_itX, DL.rAbs, DL.rMin2, DL.rMax2, DL.rTupOf, DL.rLstOf, DL.rLstOfM, DL.rIsiD, DL.Items, DL.ItemsL, DL.TyM, DL.dFor, DL.dRange1, DL.dRange2, DL.dEnum_q, q_enL, q_enT, q_enX, DL.dZip, DL.dBM, DL.dBM0, DL.TyD, DL.rAppendD, DL.rExtendD, DL.rPopD, DL.seqOf, DL.dDNewT, DL.dDNewK, DL.dLc, DL.dLcM, DL.dComp, DL.dYes, DL.dChain, DL.wipeR, DL.dTurns, DL.dgSubL, DL.startR, List.map_cons, List.map_nil, List.length_cons, List.length_nil, List.cons_append, List.nil_append, List.getElem?_cons_zero, List.getElem?_cons_succ, List.set_cons_zero, List.set_cons_succ, List.reduceReplicate, Nat.reduceAdd, Nat.reduceSub, Nat.zero_add, sz0, sz1, sz2, sz3, sz4, sz5, sz6, sz7, sz8, sz9, sz10, sz11, sz12, exists_eq_left, exists_eq_left', exists_eq_right, exists_and_left, exists_and_right, exists_const, exists_eq, List.cons.injEq, and_true, true_and, if_true, if_false, Bool.true_eq_false, Bool.false_eq_true, Bool.not_true, Bool.not_false, ite_true, ite_false, DL.D.int.injEq, DL.D.ty.injEq, DL.D.str.injEq, DL.D.tup.injEq, DL.D.lst.injEq, DL.D.ptr.injEq, DL.D.bl.injEq, DL.dNever, Option.some.injEq, eq_self, reduceIte, kitB_ii, kitB_ib, reduceCtorEq, and_self, and_assoc, decide_eq_true_eq])
      by_cases hlt : t < ((cs.map D.int).length : Int)
      · rw [if_pos hlt]
        refine ⟨⟨by decide, by decide, by decide⟩, ?_⟩
        generalize ha : (if c < 0 then -c else c) = ca
        by_cases hge : 10 ^ Int.toNat 18 ≤ ca
        · rw [if_pos hge]
          refine ⟨⟨by decide, by decide, by decide⟩, mul_small (.inl ⟨by decide, by decide⟩), ⟨m0, m1⟩, _, 2, rfl, _, Chg.mid (o' := urnO cs (t + 1) ((2 * (ca - 10 ^ Int.toNat 18) + (if c < 0 then 1 else 0)) / many)), m0, fin _ _ _ (by omega) (by omega) (Int.ediv_nonneg ?_ (by omega))⟩
          have : 0 ≤ (if c < 0 then 1 else 0 : Int) := by split <;> decide
          have : 0 ≤ ca - 10 ^ Int.toNat 18 := Int.sub_nonneg_of_le hge
          generalize ca - 10 ^ Int.toNat 18 = z at *
          omega
        · rw [if_neg hge]; exact key
      · rw [if_neg hlt]; exact key
    (try simp only [DL.dRet, DL.dAsg, DL.dSeq, DL.dNext, DL.dIfS, DL.dDrop, DL.dName, DL.dVar, DL.dVarF, dC, DL.dCons, DL.dNil, DL.dOp, DL.dUn, DL.dTest, DL.dCB, DL.dTup, DL.dLst, DL.dLstM, DL.dgTup, DL.dgNil, DL.dgCons, DL.dAndV, DL.dOrV, DL.dNotV, DL.dAndT, DL.dOrT, DL.dNotT, DL.dIf, DL.dIsN, DL.dNotN, DL.isNon, DL.dCall, DL.dCallN, DL.dPar, DL.dPar3, DL.dFrz, DL.dSl, DL.dNoPart, DL.dPart, q_ixT, q_ixL, q_ixS, q_ixP, q_ixC, q_int, q_int0, q_addI, q_addS, q_addT, q_addL, q_mulI, q_mulL, q_mulM, q_lenS, q_lenT, q_lenL, q_lenX, q_lenP, q_intI, q_intB, q_eqI, q_eqS, q_eqB, q_neI, q_neS, q_neB, q_slT, q_slL, q_slX, q_slP, q_slS, DL.dIt_q, q_itL, q_itT, q_itX, DL.rAbs, DL.rMin2, DL.rMax2, DL.rTupOf, DL.rLstOf, DL.rLstOfM, DL.rIsiD, DL.Items, DL.ItemsL, DL.TyM, DL.dFor, DL.dRange1, DL.dRange2, DL.dEnum_q, q_enL, q_enT, q_enX, DL.dZip, DL.dBM, DL.dBM0, DL.TyD, DL.rAppendD, DL.rExtendD, DL.rPopD, DL.seqOf, DL.dDNewT, DL.dDNewK, DL.dLc, DL.dLcM, DL.dComp, DL.dYes, DL.dChain, DL.wipeR, DL.dTurns, DL.dgSubL, DL.startR, List.map_cons, List.map_nil, List.length_cons, List.length_nil, List.cons_append, List.nil_append, List.getElem?_cons_zero, List.getElem?_cons_succ, List.set_cons_zero, List.set_cons_succ, List.reduceReplicate, Nat.reduceAdd, Nat.reduceSub, Nat.zero_add, sz0, sz1, sz2, sz3, sz4, sz5, sz6, sz7, sz8, sz9, sz10, sz11, sz12, exists_eq_left, exists_eq_left', exists_eq_right, exists_and_left, exists_and_right, exists_const, exists_eq, List.cons.injEq, and_true, true_and, if_true, if_false, Bool.true_eq_false, Bool.false_eq_true, Bool.not_true, Bool.not_false, ite_true, ite_false, DL.D.int.injEq, DL.D.ty.injEq, DL.D.str.injEq, DL.D.tup.injEq, DL.D.lst.injEq, DL.D.ptr.injEq, DL.D.bl.injEq, DL.dNever, Option.some.injEq, eq_self, reduceIte, kitB_ii, kitB_ib, reduceCtorEq, and_self, and_assoc, decide_eq_true_eq])
    refine ⟨_, mem (t + 1) r, _, g0 (t + 1) r, ?_⟩
    refine neD_ints (ns := cs) (ms := []) ?_
    (try simp only [DL.dRet, DL.dAsg, DL.dSeq, DL.dNext, DL.dIfS, DL.dDrop, DL.dName, DL.dVar, DL.dVarF, dC, DL.dCons, DL.dNil, DL.dOp, DL.dUn, DL.dTest, DL.dCB, DL.dTup, DL.dLst, DL.dLstM, DL.dgTup, DL.dgNil, DL.dgCons, DL.dAndV, DL.dOrV, DL.dNotV, DL.dAndT, DL.dOrT, DL.dNotT, DL.dIf, DL.dIsN, DL.dNotN, DL.isNon, DL.dCall, DL.dCallN, DL.dPar, DL.dPar3, DL.dFrz, DL.dSl, DL.dNoPart, DL.dPart, q_ixT, q_ixL, q_ixS, q_ixP, q_ixC, q_int, q_int0, q_addI, q_addS, q_addT, q_addL, q_mulI, q_mulL, q_mulM, q_lenS, q_lenT, q_lenL, q_lenX, q_lenP, q_intI, q_intB, q_eqI, q_eqS, q_eqB, q_neI, q_neS, q_neB, q_slT, q_slL, q_slX, q_slP, q_slS, DL.dIt_q, q_itL, q_itT, q_itX, DL.rAbs, DL.rMin2, DL.rMax2, DL.rTupOf, DL.rLstOf, DL.rLstOfM, DL.rIsiD, DL.Items, DL.ItemsL, DL.TyM, DL.dFor, DL.dRange1, DL.dRange2, DL.dEnum_q, q_enL, q_enT, q_enX, DL.dZip, DL.dBM, DL.dBM0, DL.TyD, DL.rAppendD, DL.rExtendD, DL.rPopD, DL.seqOf, DL.dDNewT, DL.dDNewK, DL.dLc, DL.dLcM, DL.dComp, DL.dYes, DL.dChain, DL.wipeR, DL.dTurns, DL.dgSubL, DL.startR, List.map_cons, List.map_nil, List.length_cons, List.length_nil, List.cons_append, List.nil_append, List.getElem?_cons_zero, List.getElem?_cons_succ, List.set_cons_zero, List.set_cons_succ, List.reduceReplicate, Nat.reduceAdd, Nat.reduceSub, Nat.zero_add, sz0, sz1, sz2, sz3, sz4, sz5, sz6, sz7, sz8, sz9, sz10, sz11, sz12, exists_eq_left, exists_eq_left', exists_eq_right, exists_and_left, exists_and_right, exists_const, exists_eq, List.cons.injEq, and_true, true_and, if_true, if_false, Bool.true_eq_false, Bool.false_eq_true, Bool.not_true, Bool.not_false, ite_true, ite_false, DL.D.int.injEq, DL.D.ty.injEq, DL.D.str.injEq, DL.D.tup.injEq, DL.D.lst.injEq, DL.D.ptr.injEq, DL.D.bl.injEq, DL.dNever, Option.some.injEq, eq_self, reduceIte, kitB_ii, kitB_ib, reduceCtorEq, and_self, and_assoc, decide_eq_true_eq])
    by_cases hcs : cs = []
    · rw [if_neg (by simp [hcs])]; exact key _
    · rw [if_pos (by simp [hcs])]
      refine ⟨_, mem (t + 1) r, _, g0 (t + 1) r, _, mem (t + 1) r, _, g0 (t + 1) r, ?_⟩
      (try simp only [DL.dRet, DL.dAsg, DL.dSeq, DL.dNext, DL.dIfS, DL.dDrop, DL.dName, DL.dVar, DL.dVarF, dC, DL.dCons, DL.dNil, DL.dOp, DL.dUn, DL.dTest, DL.dCB, DL.dTup, DL.dLst, DL.dLstM, DL.dgTup, DL.dgNil, DL.dgCons, DL.dAndV, DL.dOrV, DL.dNotV, DL.dAndT, DL.dOrT, DL.dNotT, DL.dIf, DL.dIsN, DL.dNotN, DL.isNon, DL.dCall, DL.dCallN, DL.dPar, DL.dPar3, DL.dFrz, DL.dSl, DL.dNoPart, DL.dPart, q_ixT, q_ixL, q_ixS, q_ixP, q_ixC, q_int, q_int0, q_addI, q_addS, q_addT, q_addL, q_mulI, q_mulL, q_mulM, q_lenS, q_lenT, q_lenL, q_lenX, q_lenP, q_intI, q_intB, q_eqI, q_eqS, q_eqB, q_neI, q_neS, q_neB, q_slT, q_slL, q_slX, q_slP, q_slS, DL.dIt_q, q_itL, q_itT, q_itX, DL.rAbs, DL.rMin2, DL.rMax2, DL.rTupOf, DL.rLstOf, DL.rLstOfM, DL.rIsiD, DL.Items, DL.ItemsL, DL.TyM, DL.dFor, DL.dRange1, DL.dRange2, DL.dEnum_q, q_enL, q_enT, q_enX, DL.dZip, DL.dBM, DL.dBM0, DL.TyD, DL.rAppendD, DL.rExtendD, DL.rPopD, DL.seqOf, DL.dDNewT, DL.dDNewK, DL.dLc, DL.dLcM, DL.dComp, DL.dYes, DL.dChain, DL.wipeR, DL.dTurns, DL.dgSubL, DL.startR, List.map_cons, List.map_nil, List.length_cons, List.length_nil, List.cons_append, List.nil_append, List.getElem?_cons_zero, List.getElem?_cons_succ, List.set_cons_zero, List.set_cons_succ, List.reduceReplicate, Nat.reduceAdd, Nat.reduceSub, Nat.zero_add, sz0, sz1, sz2, sz3, sz4, sz5, sz6, sz7, sz8, sz9, sz10, sz11, sz12, exists_eq_left, exists_eq_left', exists_eq_right, exists_and_left, exists_and_right, exists_const, exists_eq, List.cons.injEq, and_true, true_and, if_true, if_false, Bool.true_eq_false, Bool.false_eq_true, Bool.not_true, Bool.not_false, ite_true, ite_false, DL.D.int.injEq, DL.D.ty.injEq, DL.D.str.injEq, DL.D.tup.injEq, DL.D.lst.injEq, DL.D.ptr.injEq, DL.D.bl.injEq, DL.dNever, Option.some.injEq, eq_self, reduceIte, kitB_ii, kitB_ib, reduceCtorEq, and_self, and_assoc, decide_eq_true_eq])
      have hp : 0 < cs.length := List.length_pos_iff.mpr hcs
      have hl : 0 < (((cs.map D.int).length : Nat) : Int) := by rw [List.length_map]; omega
      have e1 := Int.emod_nonneg t (Int.ne_of_gt hl)
      have e2 := Int.emod_lt_of_pos t hl
      generalize t % (((cs.map D.int).length : Nat) : Int) = k at e1 e2
      rw [List.length_map] at e2
      have hk : k.toNat < cs.length := by omega
      refine ⟨hl, .int cs[k.toNat], at_d (j := k.toNat) (by rw [List.getElem?_map, List.getElem?_eq_getElem hk]; rfl) (by omega), key _⟩
    ⟩
def sp_law_pick : DSp := fun ds M Q _ => ∃ (p : Addr) (xs : List D) (b : Int) (A B : MM) (o : MO), ds = [.ptr p, .lst xs] ∧ xs ≠ [] ∧ xs.length < 1073741824 ∧ M = A ++ (p, o) :: B ∧ UrnM b o ∧ b < 4194304 ∧
  ∀ (d : D) (o' : MO), d ∈ xs → UrnM (b + 1) o' → Q d (A ++ (p, o') :: B)
theorem ok_law_pick (T : Txt K mg) : FnOk P w K mg base CX0 2 T.a_law_pick T.fd_law_pick ["_law_urn_here", "_law_some"] (toSp K sp_law_pick) :=
  fun_ok T.F_law_pick sc_law_pick (fun ds M Q E h => (by obtain ⟨p, xs, b, A, B, o, rfl, _⟩ := h; rfl)) fun cdv A outer s H E hr => ⟨_, (dss_one (ds_ret (de_ix (de_var 1) (de_call (ok_law_dip T) (hr.mono (by decide)) T.g_law_dip T.F_law_dip.kp T.b_law_dip (da_cons (de_var 0) (da_cons (de_callB call_lenV ref_len T.n_len bt_len (da_cons (de_var 1) da_nil)) da_nil)))))), fun ds M Q E' h => by
    obtain ⟨p, xs, b, A, B, o, rfl, hx, hl, rfl, hu, hb, h⟩ := h
    (try simp only [DL.dRet, DL.dAsg, DL.dSeq, DL.dNext, DL.dIfS, DL.dDrop, DL.dName, DL.dVar, DL.dVarF, dC, DL.dCons, DL.dNil, DL.dOp, DL.dUn, DL.dTest, DL.dCB, DL.dTup, DL.dLst, DL.dLstM, DL.dgTup, DL.dgNil, DL.dgCons, DL.dAndV, DL.dOrV, DL.dNotV, DL.dAndT, DL.dOrT, DL.dNotT, DL.dIf, DL.dIsN, DL.dNotN, DL.isNon, DL.dCall, DL.dCallN, DL.dPar, DL.dPar3, DL.dFrz, DL.dSl, DL.dNoPart, DL.dPart, q_ixT, q_ixL, q_ixS, q_ixP, q_ixC, q_int, q_int0, q_addI, q_addS, q_addT, q_addL, q_mulI, q_mulL, q_mulM, q_lenS, q_lenT, q_lenL, q_lenX, q_lenP, q_intI, q_intB, q_eqI, q_eqS, q_eqB, q_neI, q_neS, q_neB, q_slT, q_slL, q_slX, q_slP, q_slS, DL.dIt_q, q_itL, q_itT, q_itX, DL.rAbs, DL.rMin2, DL.rMax2, DL.rTupOf, DL.rLstOf, DL.rLstOfM, DL.rIsiD, DL.Items, DL.ItemsL, DL.TyM, DL.dFor, DL.dRange1, DL.dRange2, DL.dEnum_q, q_enL, q_enT, q_enX, DL.dZip, DL.dBM, DL.dBM0, DL.TyD, DL.rAppendD, DL.rExtendD, DL.rPopD, DL.seqOf, DL.dDNewT, DL.dDNewK, DL.dLc, DL.dLcM, DL.dComp, DL.dYes, DL.dChain, DL.wipeR, DL.dTurns, DL.dgSubL, DL.startR, List.map_cons, List.map_nil, List.length_cons, List.length_nil, List.cons_append, List.nil_append, List.getElem?_cons_zero, List.getElem?_cons_succ, List.set_cons_zero, List.set_cons_succ, List.reduceReplicate, Nat.reduceAdd, Nat.reduceSub, Nat.zero_add, sz0, sz1, sz2, sz3, sz4, sz5, sz6, sz7, sz8, sz9, sz10, sz11, sz12, exists_eq_left, exists_eq_left', exists_eq_right, exists_and_left, exists_and_right, exists_const, exists_eq, List.cons.injEq, and_true, true_and, if_true, if_false, Bool.true_eq_false, Bool.false_eq_true, Bool.not_true, Bool.not_false, ite_true, ite_false, DL.D.int.injEq, DL.D.ty.injEq, DL.D.str.injEq, DL.D.tup.injEq, DL.D.lst.injEq, DL.D.ptr.injEq, DL.D.bl.injEq, DL.dNever, Option.some.injEq, eq_self, reduceIte, kitB_ii, kitB_ib, reduceCtorEq, and_self, and_assoc, decide_eq_true_eq])
    have hp : 0 < xs.length := List.length_pos_iff.mpr hx
    refine ⟨p, (xs.length : Int), b, A, B, o, rfl, by omega, by omega, rfl, hu, hb, fun v o' v0 v1 hu' => ?_⟩
    (try simp only [DL.dRet, DL.dAsg, DL.dSeq, DL.dNext, DL.dIfS, DL.dDrop, DL.dName, DL.dVar, DL.dVarF, dC, DL.dCons, DL.dNil, DL.dOp, DL.dUn, DL.dTest, DL.dCB, DL.dTup, DL.dLst, DL.dLstM, DL.dgTup, DL.dgNil, DL.dgCons, DL.dAndV, DL.dOrV, DL.dNotV, DL.dAndT, DL.dOrT, DL.dNotT, DL.dIf, DL.dIsN, DL.dNotN, DL.isNon, DL.dCall, DL.dCallN, DL.dPar, DL.dPar3, DL.dFrz, DL.dSl, DL.dNoPart, DL.dPart, q_ixT, q_ixL, q_ixS, q_ixP, q_ixC, q_int, q_int0, q_addI, q_addS, q_addT, q_addL, q_mulI, q_mulL, q_mulM, q_lenS, q_lenT, q_lenL, q_lenX, q_lenP, q_intI, q_intB, q_eqI, q_eqS, q_eqB, q_neI, q_neS, q_neB, q_slT, q_slL, q_slX, q_slP, q_slS, DL.dIt_q, q_itL, q_itT, q_itX, DL.rAbs, DL.rMin2, DL.rMax2, DL.rTupOf, DL.rLstOf, DL.rLstOfM, DL.rIsiD, DL.Items, DL.ItemsL, DL.TyM, DL.dFor, DL.dRange1, DL.dRange2, DL.dEnum_q, q_enL, q_enT, q_enX, DL.dZip, DL.dBM, DL.dBM0, DL.TyD, DL.rAppendD, DL.rExtendD, DL.rPopD, DL.seqOf, DL.dDNewT, DL.dDNewK, DL.dLc, DL.dLcM, DL.dComp, DL.dYes, DL.dChain, DL.wipeR, DL.dTurns, DL.dgSubL, DL.startR, List.map_cons, List.map_nil, List.length_cons, List.length_nil, List.cons_append, List.nil_append, List.getElem?_cons_zero, List.getElem?_cons_succ, List.set_cons_zero, List.set_cons_succ, List.reduceReplicate, Nat.reduceAdd, Nat.reduceSub, Nat.zero_add, sz0, sz1, sz2, sz3, sz4, sz5, sz6, sz7, sz8, sz9, sz10, sz11, sz12, exists_eq_left, exists_eq_left', exists_eq_right, exists_and_left, exists_and_right, exists_const, exists_eq, List.cons.injEq, and_true, true_and, if_true, if_false, Bool.true_eq_false, Bool.false_eq_true, Bool.not_true, Bool.not_false, ite_true, ite_false, DL.D.int.injEq, DL.D.ty.injEq, DL.D.str.injEq, DL.D.tup.injEq, DL.D.lst.injEq, DL.D.ptr.injEq, DL.D.bl.injEq, DL.dNever, Option.some.injEq, eq_self, reduceIte, kitB_ii, kitB_ib, reduceCtorEq, and_self, and_assoc, decide_eq_true_eq])
    have hv : v.toNat < xs.length := by omega
    exact ⟨xs[v.toNat], at_d (List.getElem?_eq_getElem hv) (by omega), rtW_of (h _ _ (List.getElem_mem hv) hu')⟩
    ⟩
def WhenD (kvs : List (List Key × D)) (f : Int → Int → Option Int) : Prop := ∀ p m : Int, valD kvs [.inl p, .inl m] = (f p m).map D.int
def sp_law_plan : DSp := fun ds M Q _ => ∃ (fs : List Int) (h t : Int), ds = [.lst (fs.map D.int), .int h, .int t] ∧ fs ≠ [] ∧ fs.length ≤ 40 ∧ (∀ f ∈ fs, 1 ≤ f ∧ f ≤ 1000000) ∧ 1 ≤ h ∧ h ≤ 8 ∧ 0 ≤ t ∧ t ≤ 2000 ∧
  ∀ (w : Addr) (kvs : List (List Key × D)), WhenD kvs (whenV fs h.toNat t.toNat) → Q (.tup [.tup (rowsD fs h.toNat t.toNat), .ptr w]) ((w, .dT kvs) :: M)
theorem ok_law_plan (T : Txt K mg) : FnOk P w K mg base CX0 1 T.a_law_plan T.fd_law_plan ["_law_factors_here", "_law_hands", "_law_ticks"] (toSp K sp_law_plan) :=
  fun_ok T.F_law_plan sc_law_plan (fun ds M Q E h => (by obtain ⟨fs, h, t, rfl, _⟩ := h; rfl)) fun cdv A outer s H E hr => ⟨_, (dss_cons (ds_par3 (i := 3) (j := 4) (l := 5) rfl sc_law_plan.nd rfl rfl rfl (by decide) (by decide) (by decide) rfl rfl rfl (da_cons (de_mulM (de_lst (da_cons de_int da_nil)) (de_callB call_lenV ref_len T.n_len bt_len (da_cons (de_var 0) da_nil))) (da_cons (de_lstM da_nil) (da_cons de_dnewT da_nil))) rfl) (dss_cons (ds_for PassesOwn.never rfl (di_range2 T.n_range (da_cons de_int (da_cons (de_add (de_var 2) de_int) da_nil))) (dg_name (i := 6) sc_law_plan.nd rfl (by first | exact .inl rfl | exact .inr rfl)) (dss_cons (ds_set (i := 7) sc_law_plan.nd rfl (by first | exact .inl rfl | exact .inr rfl) (de_lstM da_nil)) (dss_cons (ds_for PassesOwn.never rfl (di_range1 T.n_range (da_cons (de_callB (call_min2 rfl) ref_min2 T.n_min bt_min (da_cons (de_var 1) (da_cons (de_callB call_lenV ref_len T.n_len bt_len (da_cons (de_var 0) da_nil)) da_nil))) da_nil)) (dg_name (i := 8) sc_law_plan.nd rfl (by first | exact .inl rfl | exact .inr rfl)) (dss_cons (ds_set (i := 9) sc_law_plan.nd rfl (by first | exact .inl rfl | exact .inr rfl) de_non) (dss_cons (ds_for PassesOwn.never rfl (di_enum T.n_enumerate (da_cons (de_var 0) da_nil)) (dg_tup (n := 2) rfl (dgs_cons (dg_name (i := 10) sc_law_plan.nd rfl (by first | exact .inl rfl | exact .inr rfl)) (dgs_cons (dg_name (i := 11) sc_law_plan.nd rfl (by first | exact .inl rfl | exact .inr rfl)) dgs_nil))) (dss_one (ds_if (dw_and (dt_notin (de_var 10) (de_var 7)) (dw_and1 (dw_or (dt_isN (de_var 9)) (dw_or1 (dt_lt (de_mul (de_var 11) (de_add (de_ix (de_var 3) (de_var 10)) de_int)) (de_mul (de_ix (de_var 0) (de_var 9)) (de_add (de_ix (de_var 3) (de_var 9)) de_int))))).dt)).dt (dss_one (ds_set (i := 9) sc_law_plan.nd rfl (by first | exact .inl rfl | exact .inr rfl) (de_var 10))) dss_nil))) (dss_one (ds_expr (de_bm PySem.F.plainAttrs_list PySem.F.slot_list_append PySem.F.type_list_append mt_append ref_append (de_var 7) (da_cons (de_var 9) da_nil))))))) (dss_frz 7 (dss_cons (ds_for PassesOwn.never rfl (di_seq (de_var 7)) (dg_name (i := 10) sc_law_plan.nd rfl (by first | exact .inl rfl | exact .inr rfl)) (dss_cons (ds_asg (de_add (de_ix (de_var 3) (de_var 10)) de_int) (dg_subL (de_var 3) (de_var 10))) (dss_one (ds_dputT (hu_of hr) (de_var 5) (da_cons (de_var 10) (da_cons (de_ix (de_var 3) (de_var 10)) da_nil)) (de_var 6))))) (dss_one (ds_expr (de_bm PySem.F.plainAttrs_list PySem.F.slot_list_append PySem.F.type_list_append mt_append ref_append (de_var 4) (da_cons (de_callTy call_tuple_of ref_tupOf T.n_tuple bt_tuple (da_cons (de_callB cr_sortedI ref_sortI T.n_sorted bt_sorted (da_cons (de_var 7) da_nil)) da_nil)) da_nil))))))))) (dss_one (ds_ret (de_tup (da_cons (de_callTy call_tuple_of ref_tupOf T.n_tuple bt_tuple (da_cons (de_var 4) da_nil)) (da_cons (de_var 5) da_nil))))))), fun ds M Q E' h => by
    obtain ⟨fs, h', t, rfl, hne, hl, hf, h1, h2, t0, t1, h⟩ := h
    have hz : (2000 : Nat) < sizeLine := by decide
    have hz2 : (20000 : Nat) < sizeLine := by decide
    obtain ⟨n, rfl⟩ := Int.eq_ofNat_of_zero_le (by omega : 0 ≤ h')
    obtain ⟨m, rfl⟩ := Int.eq_ofNat_of_zero_le t0
    simp only [Int.toNat_natCast] at h
    refine seq_i fun K1 hK1 => ?_
    (try simp only [DL.dRet, DL.dAsg, DL.dSeq, DL.dNext, DL.dIfS, DL.dDrop, DL.dName, DL.dVar, DL.dVarF, dC, DL.dCons, DL.dNil, DL.dOp, DL.dUn, DL.dTest, DL.dCB, DL.dTup, DL.dLst, DL.dLstM, DL.dgTup, DL.dgNil, DL.dgCons, DL.dAndV, DL.dOrV, DL.dNotV, DL.dAndT, DL.dOrT, DL.dNotT, DL.dIf, DL.dIsN, DL.dNotN, DL.isNon, DL.dCall, DL.dCallN, DL.dPar, DL.dPar3, DL.dFrz, DL.dSl, DL.dNoPart, DL.dPart, q_ixT, q_ixL, q_ixS, q_ixP, q_ixC, q_int, q_int0, q_addI, q_addS, q_addT, q_addL, q_mulI, q_mulL, q_mulM, q_lenS, q_lenT, q_lenL, q_lenX, q_lenP, q_intI, q_intB, q_eqI, q_eqS, q_eqB, q_neI, q_neS, q_neB, q_slT, q_slL, q_slX, q_slP, q_slS, DL.dIt_q, q_itL, q_itT, q_itX, DL.rAbs, DL.rMin2, DL.rMax2, DL.rTupOf, DL.rLstOf, DL.rLstOfM, DL.rIsiD, DL.Items, DL.ItemsL, DL.TyM, DL.dFor, DL.dRange1, DL.dRange2, DL.dEnum_q, q_enL, q_enT, q_enX, DL.dZip, DL.dBM, DL.dBM0, DL.TyD, DL.rAppendD, DL.rExtendD, DL.rPopD, DL.seqOf, DL.dDNewT, DL.dDNewK, DL.dLc, DL.dLcM, DL.dComp, DL.dYes, DL.dChain, DL.wipeR, DL.dTurns, DL.dgSubL, DL.startR, List.map_cons, List.map_nil, List.length_cons, List.length_nil, List.cons_append, List.nil_append, List.getElem?_cons_zero, List.getElem?_cons_succ, List.set_cons_zero, List.set_cons_succ, List.reduceReplicate, Nat.reduceAdd, Nat.reduceSub, Nat.zero_add, sz0, sz1, sz2, sz3, sz4, sz5, sz6, sz7, sz8, sz9, sz10, sz11, sz12, exists_eq_left, exists_eq_left', exists_eq_right, exists_and_left, exists_and_right, exists_const, exists_eq, List.cons.injEq, and_true, true_and, if_true, if_false, Bool.true_eq_false, Bool.false_eq_true, Bool.not_true, Bool.not_false, ite_true, ite_false, DL.D.int.injEq, DL.D.ty.injEq, DL.D.str.injEq, DL.D.tup.injEq, DL.D.lst.injEq, DL.D.ptr.injEq, DL.D.bl.injEq, DL.dNever, Option.some.injEq, eq_self, reduceIte, kitB_ii, kitB_ib, reduceCtorEq, and_self, and_assoc, decide_eq_true_eq, List.length_map, Int.toNat_natCast])
    refine ⟨by omega, by omega, by omega, fun pm pl w => ?_⟩
    subst hK1
    refine seq_i fun K1 hK1 => ?_
    (try simp only [DL.dRet, DL.dAsg, DL.dSeq, DL.dNext, DL.dIfS, DL.dDrop, DL.dName, DL.dVar, DL.dVarF, dC, DL.dCons, DL.dNil, DL.dOp, DL.dUn, DL.dTest, DL.dCB, DL.dTup, DL.dLst, DL.dLstM, DL.dgTup, DL.dgNil, DL.dgCons, DL.dAndV, DL.dOrV, DL.dNotV, DL.dAndT, DL.dOrT, DL.dNotT, DL.dIf, DL.dIsN, DL.dNotN, DL.isNon, DL.dCall, DL.dCallN, DL.dPar, DL.dPar3, DL.dFrz, DL.dSl, DL.dNoPart, DL.dPart, q_ixT, q_ixL, q_ixS, q_ixP, q_ixC, q_int, q_int0, q_addI, q_addS, q_addT, q_addL, q_mulI, q_mulL, q_mulM, q_lenS, q_lenT, q_lenL, q_lenX, q_lenP, q_intI, q_intB, q_eqI, q_eqS, q_eqB, q_neI, q_neS, q_neB, q_slT, q_slL, q_slX, q_slP, q_slS, DL.dIt_q, q_itL, q_itT, q_itX, DL.rAbs, DL.rMin2, DL.rMax2, DL.rTupOf, DL.rLstOf, DL.rLstOfM, DL.rIsiD, DL.Items, DL.ItemsL, DL.TyM, DL.dFor, DL.dRange1, DL.dRange2, DL.dEnum_q, q_enL, q_enT, q_enX, DL.dZip, DL.dBM, DL.dBM0, DL.TyD, DL.rAppendD, DL.rExtendD, DL.rPopD, DL.seqOf, DL.dDNewT, DL.dDNewK, DL.dLc, DL.dLcM, DL.dComp, DL.dYes, DL.dChain, DL.wipeR, DL.dTurns, DL.dgSubL, DL.startR, List.map_cons, List.map_nil, List.length_cons, List.length_nil, List.cons_append, List.nil_append, List.getElem?_cons_zero, List.getElem?_cons_succ, List.set_cons_zero, List.set_cons_succ, List.reduceReplicate, Nat.reduceAdd, Nat.reduceSub, Nat.zero_add, sz0, sz1, sz2, sz3, sz4, sz5, sz6, sz7, sz8, sz9, sz10, sz11, sz12, exists_eq_left, exists_eq_left', exists_eq_right, exists_and_left, exists_and_right, exists_const, exists_eq, List.cons.injEq, and_true, true_and, if_true, if_false, Bool.true_eq_false, Bool.false_eq_true, Bool.not_true, Bool.not_false, ite_true, ite_false, DL.D.int.injEq, DL.D.ty.injEq, DL.D.str.injEq, DL.D.tup.injEq, DL.D.lst.injEq, DL.D.ptr.injEq, DL.D.bl.injEq, DL.dNever, Option.some.injEq, eq_self, reduceIte, kitB_ii, kitB_ib, reduceCtorEq, and_self, and_assoc, decide_eq_true_eq])
    refine ⟨by omega, by omega, by omega, by omega, ?_⟩
    have hn1 : ((m : Int) + 1 - 1).toNat = m := by omega
    rw [hn1]
    refine dTurns_inv (fun i ρ M' => ∃ d6 d7 d8 d9 d10 d11 kvs, ρ = [some (.lst (fs.map D.int)), some (.int n), some (.int m), some (.ptr pm), some (.ptr pl), some (.ptr w), d6, d7, d8, d9, d10, d11] ∧
      M' = (w, .dT kvs) :: (pl, .lst (rowsD fs n i)) :: (pm, .lst ((madeN fs n i).map D.int)) :: M ∧ WhenD kvs (whenV fs n i) ∧ kvs.length ≤ 8 * i) ?_ ?_ ?_
    · refine ⟨_, _, _, _, _, _, [], rfl, ?_, fun p m => rfl, Nat.zero_le _⟩
      rw [zeros_eq _ fs rfl]
      rfl
    · intro i x ρ M' hx hW N hN
      obtain ⟨d6, d7, d8, d9, d10, d11, kvs, rfl, rfl, hwh, hkl⟩ := hW
      have hi : i < m := by
        have := (List.getElem?_eq_some_iff.mp hx).1
        rw [rangeD_len] at this
        exact this
      rw [rangeD_get hi] at hx
      cases hx
      have hml := madeN_len fs n i
      refine seq_i fun K2 hK2 => ?_
      (try simp only [DL.dRet, DL.dAsg, DL.dSeq, DL.dNext, DL.dIfS, DL.dDrop, DL.dName, DL.dVar, DL.dVarF, dC, DL.dCons, DL.dNil, DL.dOp, DL.dUn, DL.dTest, DL.dCB, DL.dTup, DL.dLst, DL.dLstM, DL.dgTup, DL.dgNil, DL.dgCons, DL.dAndV, DL.dOrV, DL.dNotV, DL.dAndT, DL.dOrT, DL.dNotT, DL.dIf, DL.dIsN, DL.dNotN, DL.isNon, DL.dCall, DL.dCallN, DL.dPar, DL.dPar3, DL.dFrz, DL.dSl, DL.dNoPart, DL.dPart, q_ixT, q_ixL, q_ixS, q_ixP, q_ixC, q_int, q_int0, q_addI, q_addS, q_addT, q_addL, q_mulI, q_mulL, q_mulM, q_lenS, q_lenT, q_lenL, q_lenX, q_lenP, q_intI, q_intB, q_eqI, q_eqS, q_eqB, q_neI, q_neS, q_neB, q_slT, q_slL, q_slX, q_slP, q_slS, DL.dIt_q, q_itL, q_itT, q_itX, DL.rAbs, DL.rMin2, DL.rMax2, DL.rTupOf, DL.rLstOf, DL.rLstOfM, DL.rIsiD, DL.Items, DL.ItemsL, DL.TyM, DL.dFor, DL.dRange1, DL.dRange2, DL.dEnum_q, q_enL, q_enT, q_enX, DL.dZip, DL.dBM, DL.dBM0, DL.TyD, DL.rAppendD, DL.rExtendD, DL.rPopD, DL.seqOf, DL.dDNewT, DL.dDNewK, DL.dLc, DL.dLcM, DL.dComp, DL.dYes, DL.dChain, DL.wipeR, DL.dTurns, DL.dgSubL, DL.startR, List.map_cons, List.map_nil, List.length_cons, List.length_nil, List.cons_append, List.nil_append, List.getElem?_cons_zero, List.getElem?_cons_succ, List.set_cons_zero, List.set_cons_succ, List.reduceReplicate, Nat.reduceAdd, Nat.reduceSub, Nat.zero_add, sz0, sz1, sz2, sz3, sz4, sz5, sz6, sz7, sz8, sz9, sz10, sz11, sz12, exists_eq_left, exists_eq_left', exists_eq_right, exists_and_left, exists_and_right, exists_const, exists_eq, List.cons.injEq, and_true, true_and, if_true, if_false, Bool.true_eq_false, Bool.false_eq_true, Bool.not_true, Bool.not_false, ite_true, ite_false, DL.D.int.injEq, DL.D.ty.injEq, DL.D.str.injEq, DL.D.tup.injEq, DL.D.lst.injEq, DL.D.ptr.injEq, DL.D.bl.injEq, DL.dNever, Option.some.injEq, eq_self, reduceIte, kitB_ii, kitB_ib, reduceCtorEq, and_self, and_assoc, decide_eq_true_eq])
      intro pc
      subst hK2
      refine seq_i fun K2 hK2 => ?_
      (try simp only [DL.dRet, DL.dAsg, DL.dSeq, DL.dNext, DL.dIfS, DL.dDrop, DL.dName, DL.dVar, DL.dVarF, dC, DL.dCons, DL.dNil, DL.dOp, DL.dUn, DL.dTest, DL.dCB, DL.dTup, DL.dLst, DL.dLstM, DL.dgTup, DL.dgNil, DL.dgCons, DL.dAndV, DL.dOrV, DL.dNotV, DL.dAndT, DL.dOrT, DL.dNotT, DL.dIf, DL.dIsN, DL.dNotN, DL.isNon, DL.dCall, DL.dCallN, DL.dPar, DL.dPar3, DL.dFrz, DL.dSl, DL.dNoPart, DL.dPart, q_ixT, q_ixL, q_ixS, q_ixP, q_ixC, q_int, q_int0, q_addI, q_addS, q_addT, q_addL, q_mulI, q_mulL, q_mulM, q_lenS, q_lenT, q_lenL, q_lenX, q_lenP, q_intI, q_intB, q_eqI, q_eqS, q_eqB, q_neI, q_neS, q_neB, q_slT, q_slL, q_slX, q_slP, q_slS, DL.dIt_q, q_itL, q_itT, q_itX, DL.rAbs, DL.rMin2, DL.rMax2, DL.rTupOf, DL.rLstOf, DL.rLstOfM, DL.rIsiD, DL.Items, DL.ItemsL, DL.TyM, DL.dFor, DL.dRange1, DL.dRange2, DL.dEnum_q, q_enL, q_enT, q_enX, DL.dZip, DL.dBM, DL.dBM0, DL.TyD, DL.rAppendD, DL.rExtendD, DL.rPopD, DL.seqOf, DL.dDNewT, DL.dDNewK, DL.dLc, DL.dLcM, DL.dComp, DL.dYes, DL.dChain, DL.wipeR, DL.dTurns, DL.dgSubL, DL.startR, List.map_cons, List.map_nil, List.length_cons, List.length_nil, List.cons_append, List.nil_append, List.getElem?_cons_zero, List.getElem?_cons_succ, List.set_cons_zero, List.set_cons_succ, List.reduceReplicate, Nat.reduceAdd, Nat.reduceSub, Nat.zero_add, sz0, sz1, sz2, sz3, sz4, sz5, sz6, sz7, sz8, sz9, sz10, sz11, sz12, exists_eq_left, exists_eq_left', exists_eq_right, exists_and_left, exists_and_right, exists_const, exists_eq, List.cons.injEq, and_true, true_and, if_true, if_false, Bool.true_eq_false, Bool.false_eq_true, Bool.not_true, Bool.not_false, ite_true, ite_false, DL.D.int.injEq, DL.D.ty.injEq, DL.D.str.injEq, DL.D.tup.injEq, DL.D.lst.injEq, DL.D.ptr.injEq, DL.D.bl.injEq, DL.dNever, Option.some.injEq, eq_self, reduceIte, kitB_ii, kitB_ib, reduceCtorEq, and_self, and_assoc, decide_eq_true_eq])
      have hmin : (if ((List.map D.int fs).length : Int) < (n : Int) then ((List.map D.int fs).length : Int) else (n : Int)) = ((min n fs.length : Nat) : Int) := by
        rw [List.length_map]
        split <;> omega
      rw [hmin]
      refine ⟨by omega, by omega, ?_⟩
      rw [Int.toNat_natCast]
      refine dTurns_inv (fun k ρ M' => ∃ d8 d9 d10 d11, ρ = [some (.lst (fs.map D.int)), some (.int n), some (.int m), some (.ptr pm), some (.ptr pl), some (.ptr w), some (.int (1 + (i : Nat))), some (.ptr pc), d8, d9, d10, d11] ∧
        M' = (pc, .lst (((ordOf fs (madeN fs n i)).take k).map D.int)) :: (w, .dT kvs) :: (pl, .lst (rowsD fs n i)) :: (pm, .lst ((madeN fs n i).map D.int)) :: M) ?_ ?_ ?_
      · exact ⟨_, _, _, _, rfl, rfl⟩
      · intro k y ρ M' hy hW N2 hN2
        obtain ⟨d8, d9, d10, d11, rfl, rfl⟩ := hW
        have hk : k < min n fs.length := by
          have := (List.getElem?_eq_some_iff.mp hy).1
          rw [rangeD_len] at this
          exact this
        (try simp only [DL.dRet, DL.dAsg, DL.dSeq, DL.dNext, DL.dIfS, DL.dDrop, DL.dName, DL.dVar, DL.dVarF, dC, DL.dCons, DL.dNil, DL.dOp, DL.dUn, DL.dTest, DL.dCB, DL.dTup, DL.dLst, DL.dLstM, DL.dgTup, DL.dgNil, DL.dgCons, DL.dAndV, DL.dOrV, DL.dNotV, DL.dAndT, DL.dOrT, DL.dNotT, DL.dIf, DL.dIsN, DL.dNotN, DL.isNon, DL.dCall, DL.dCallN, DL.dPar, DL.dPar3, DL.dFrz, DL.dSl, DL.dNoPart, DL.dPart, q_ixT, q_ixL, q_ixS, q_ixP, q_ixC, q_int, q_int0, q_addI, q_addS, q_addT, q_addL, q_mulI, q_mulL, q_mulM, q_lenS, q_lenT, q_lenL, q_lenX, q_lenP, q_intI, q_intB, q_eqI, q_eqS, q_eqB, q_neI, q_neS, q_neB, q_slT, q_slL, q_slX, q_slP, q_slS, DL.dIt_q, q_itL, q_itT, q_itX, DL.rAbs, DL.rMin2, DL.rMax2, DL.rTupOf, DL.rLstOf, DL.rLstOfM, DL.rIsiD, DL.Items, DL.ItemsL, DL.TyM, DL.dFor, DL.dRange1, DL.dRange2, DL.dEnum_q, q_enL, q_enT, q_enX, DL.dZip, DL.dBM, DL.dBM0, DL.TyD, DL.rAppendD, DL.rExtendD, DL.rPopD, DL.seqOf, DL.dDNewT, DL.dDNewK, DL.dLc, DL.dLcM, DL.dComp, DL.dYes, DL.dChain, DL.wipeR, DL.dTurns, DL.dgSubL, DL.startR, List.map_cons, List.map_nil, List.length_cons, List.length_nil, List.cons_append, List.nil_append, List.getElem?_cons_zero, List.getElem?_cons_succ, List.set_cons_zero, List.set_cons_succ, List.reduceReplicate, Nat.reduceAdd, Nat.reduceSub, Nat.zero_add, sz0, sz1, sz2, sz3, sz4, sz5, sz6, sz7, sz8, sz9, sz10, sz11, sz12, exists_eq_left, exists_eq_left', exists_eq_right, exists_and_left, exists_and_right, exists_const, exists_eq, List.cons.injEq, and_true, true_and, if_true, if_false, Bool.true_eq_false, Bool.false_eq_true, Bool.not_true, Bool.not_false, ite_true, ite_false, DL.D.int.injEq, DL.D.ty.injEq, DL.D.str.injEq, DL.D.tup.injEq, DL.D.lst.injEq, DL.D.ptr.injEq, DL.D.bl.injEq, DL.dNever, Option.some.injEq, eq_self, reduceIte, kitB_ii, kitB_ib, reduceCtorEq, and_self, and_assoc, decide_eq_true_eq])
        refine dTurns_inv (fun j ρ M' => ∃ d10 d11 best, ρ = [some (.lst (fs.map D.int)), some (.int n), some (.int m), some (.ptr pm), some (.ptr pl), some (.ptr w), some (.int (1 + (i : Nat))), some (.ptr pc), some y, some (match best with | none => .non | some b => .int ((b : Nat) : Int)), d10, d11] ∧
          M' = (pc, .lst (((ordOf fs (madeN fs n i)).take k).map D.int)) :: (w, .dT kvs) :: (pl, .lst (rowsD fs n i)) :: (pm, .lst ((madeN fs n i).map D.int)) :: M ∧
          BestInv fs (madeN fs n i) ((ordOf fs (madeN fs n i)).take k) j best) ?_ ?_ ?_
        · exact ⟨_, _, none, rfl, rfl, fun q hq => absurd hq (Nat.not_lt_zero q)⟩
        · intro j z ρ M' hz' hW N4 hN4
          obtain ⟨d10, d11, best, rfl, rfl, hB⟩ := hW
          obtain ⟨f, hf', rfl⟩ : ∃ f, fs[j]? = some f ∧ z = .tup [.int (j : Nat), .int f] := by
            rw [enumD_get, List.getElem?_map] at hz'
            cases e : fs[j]? with
            | none => rw [e] at hz'; cases hz'
            | some f => rw [e] at hz'; exact ⟨f, rfl, (Option.some.inj hz').symm⟩
          have hj := (List.getElem?_eq_some_iff.mp hf').1
          have hfm := hf f (List.mem_of_getElem? hf')
          have hfd : fs.getD j 0 = f := by rw [List.getD_eq_getElem?_getD, hf']; rfl
          (try simp only [DL.dRet, DL.dAsg, DL.dSeq, DL.dNext, DL.dIfS, DL.dDrop, DL.dName, DL.dVar, DL.dVarF, dC, DL.dCons, DL.dNil, DL.dOp, DL.dUn, DL.dTest, DL.dCB, DL.dTup, DL.dLst, DL.dLstM, DL.dgTup, DL.dgNil, DL.dgCons, DL.dAndV, DL.dOrV, DL.dNotV, DL.dAndT, DL.dOrT, DL.dNotT, DL.dIf, DL.dIsN, DL.dNotN, DL.isNon, DL.dCall, DL.dCallN, DL.dPar, DL.dPar3, DL.dFrz, DL.dSl, DL.dNoPart, DL.dPart, q_ixT, q_ixL, q_ixS, q_ixP, q_ixC, q_int, q_int0, q_addI, q_addS, q_addT, q_addL, q_mulI, q_mulL, q_mulM, q_lenS, q_lenT, q_lenL, q_lenX, q_lenP, q_intI, q_intB, q_eqI, q_eqS, q_eqB, q_neI, q_neS, q_neB, q_slT, q_slL, q_slX, q_slP, q_slS, DL.dIt_q, q_itL, q_itT, q_itX, DL.rAbs, DL.rMin2, DL.rMax2, DL.rTupOf, DL.rLstOf, DL.rLstOfM, DL.rIsiD, DL.Items, DL.ItemsL, DL.TyM, DL.dFor, DL.dRange1, DL.dRange2, DL.dEnum_q, q_enL, q_enT, q_enX, DL.dZip, DL.dBM, DL.dBM0, DL.TyD, DL.rAppendD, DL.rExtendD, DL.rPopD, DL.seqOf, DL.dDNewT, DL.dDNewK, DL.dLc, DL.dLcM, DL.dComp, DL.dYes, DL.dChain, DL.wipeR, DL.dTurns, DL.dgSubL, DL.startR, List.map_cons, List.map_nil, List.length_cons, List.length_nil, List.cons_append, List.nil_append, List.getElem?_cons_zero, List.getElem?_cons_succ, List.set_cons_zero, List.set_cons_succ, List.reduceReplicate, Nat.reduceAdd, Nat.reduceSub, Nat.zero_add, sz0, sz1, sz2, sz3, sz4, sz5, sz6, sz7, sz8, sz9, sz10, sz11, sz12, exists_eq_left, exists_eq_left', exists_eq_right, exists_and_left, exists_and_right, exists_const, exists_eq, List.cons.injEq, and_true, true_and, if_true, if_false, Bool.true_eq_false, Bool.false_eq_true, Bool.not_true, Bool.not_false, ite_true, ite_false, DL.D.int.injEq, DL.D.ty.injEq, DL.D.str.injEq, DL.D.tup.injEq, DL.D.lst.injEq, DL.D.ptr.injEq, DL.D.bl.injEq, DL.dNever, Option.some.injEq, eq_self, reduceIte, kitB_ii, kitB_ib, reduceCtorEq, and_self, and_assoc, decide_eq_true_eq])
          refine inP_q (.head _) ?_
          have mpm : ∀ ds : List D, (pm, MO.lst ds) ∈ (pc, MO.lst (((ordOf fs (madeN fs n i)).take k).map D.int)) :: (w, .dT kvs) :: (pl, .lst (rowsD fs n i)) :: (pm, .lst ds) :: M := fun ds => .tail _ (.tail _ (.tail _ (.head _)))
          have gm : ∀ q : Nat, q < fs.length → atI ((madeN fs n i).map D.int) (q : Int) = some (.int ((madeN fs n i).getD q 0)) := fun q hq => at_d (j := q) (by rw [List.getElem?_map, getD_get (by omega)]; rfl) rfl
          by_cases hjc : (j : Int) ∈ (ordOf fs (madeN fs n i)).take k
          · rw [decide_eq_true hjc]
            (try simp only [DL.dRet, DL.dAsg, DL.dSeq, DL.dNext, DL.dIfS, DL.dDrop, DL.dName, DL.dVar, DL.dVarF, dC, DL.dCons, DL.dNil, DL.dOp, DL.dUn, DL.dTest, DL.dCB, DL.dTup, DL.dLst, DL.dLstM, DL.dgTup, DL.dgNil, DL.dgCons, DL.dAndV, DL.dOrV, DL.dNotV, DL.dAndT, DL.dOrT, DL.dNotT, DL.dIf, DL.dIsN, DL.dNotN, DL.isNon, DL.dCall, DL.dCallN, DL.dPar, DL.dPar3, DL.dFrz, DL.dSl, DL.dNoPart, DL.dPart, q_ixT, q_ixL, q_ixS, q_ixP, q_ixC, q_int, q_int0, q_addI, q_addS, q_addT, q_addL, q_mulI, q_mulL, q_mulM, q_lenS, q_lenT, q_lenL, q_lenX, q_lenP, q_intI, q_intB, q_eqI, q_eqS, q_eqB, q_neI, q_neS, q_neB, q_slT, q_slL, q_slX, q_slP, q_slS, DL.dIt_q, q_itL, q_itT, q_itX, DL.rAbs, DL.rMin2, DL.rMax2, DL.rTupOf, DL.rLstOf, DL.rLstOfM, DL.rIsiD, DL.Items, DL.ItemsL, DL.TyM, DL.dFor, DL.dRange1, DL.dRange2, DL.dEnum_q, q_enL, q_enT, q_enX, DL.dZip, DL.dBM, DL.dBM0, DL.TyD, DL.rAppendD, DL.rExtendD, DL.rPopD, DL.seqOf, DL.dDNewT, DL.dDNewK, DL.dLc, DL.dLcM, DL.dComp, DL.dYes, DL.dChain, DL.wipeR, DL.dTurns, DL.dgSubL, DL.startR, List.map_cons, List.map_nil, List.length_cons, List.length_nil, List.cons_append, List.nil_append, List.getElem?_cons_zero, List.getElem?_cons_succ, List.set_cons_zero, List.set_cons_succ, List.reduceReplicate, Nat.reduceAdd, Nat.reduceSub, Nat.zero_add, sz0, sz1, sz2, sz3, sz4, sz5, sz6, sz7, sz8, sz9, sz10, sz11, sz12, exists_eq_left, exists_eq_left', exists_eq_right, exists_and_left, exists_and_right, exists_const, exists_eq, List.cons.injEq, and_true, true_and, if_true, if_false, Bool.true_eq_false, Bool.false_eq_true, Bool.not_true, Bool.not_false, ite_true, ite_false, DL.D.int.injEq, DL.D.ty.injEq, DL.D.str.injEq, DL.D.tup.injEq, DL.D.lst.injEq, DL.D.ptr.injEq, DL.D.bl.injEq, DL.dNever, Option.some.injEq, eq_self, reduceIte, kitB_ii, kitB_ib, reduceCtorEq, and_self, and_assoc, decide_eq_true_eq])
            exact hN4 _ _ ⟨_, _, best, rfl, rfl, best_keep_in hB hjc⟩
          · rw [decide_eq_false hjc]
            cases best with
            | none =>
              (try simp only [DL.dRet, DL.dAsg, DL.dSeq, DL.dNext, DL.dIfS, DL.dDrop, DL.dName, DL.dVar, DL.dVarF, dC, DL.dCons, DL.dNil, DL.dOp, DL.dUn, DL.dTest, DL.dCB, DL.dTup, DL.dLst, DL.dLstM, DL.dgTup, DL.dgNil, DL.dgCons, DL.dAndV, DL.dOrV, DL.dNotV, DL.dAndT, DL.dOrT, DL.dNotT, DL.dIf, DL.dIsN, DL.dNotN, DL.isNon, DL.dCall, DL.dCallN, DL.dPar, DL.dPar3, DL.dFrz, DL.dSl, DL.dNoPart, DL.dPart, q_ixT, q_ixL, q_ixS, q_ixP, q_ixC, q_int, q_int0, q_addI, q_addS, q_addT, q_addL, q_mulI, q_mulL, q_mulM, q_lenS, q_lenT, q_lenL, q_lenX, q_lenP, q_intI, q_intB, q_eqI, q_eqS, q_eqB, q_neI, q_neS, q_neB, q_slT, q_slL, q_slX, q_slP, q_slS, DL.dIt_q, q_itL, q_itT, q_itX, DL.rAbs, DL.rMin2, DL.rMax2, DL.rTupOf, DL.rLstOf, DL.rLstOfM, DL.rIsiD, DL.Items, DL.ItemsL, DL.TyM, DL.dFor, DL.dRange1, DL.dRange2, DL.dEnum_q, q_enL, q_enT, q_enX, DL.dZip, DL.dBM, DL.dBM0, DL.TyD, DL.rAppendD, DL.rExtendD, DL.rPopD, DL.seqOf, DL.dDNewT, DL.dDNewK, DL.dLc, DL.dLcM, DL.dComp, DL.dYes, DL.dChain, DL.wipeR, DL.dTurns, DL.dgSubL, DL.startR, List.map_cons, List.map_nil, List.length_cons, List.length_nil, List.cons_append, List.nil_append, List.getElem?_cons_zero, List.getElem?_cons_succ, List.set_cons_zero, List.set_cons_succ, List.reduceReplicate, Nat.reduceAdd, Nat.reduceSub, Nat.zero_add, sz0, sz1, sz2, sz3, sz4, sz5, sz6, sz7, sz8, sz9, sz10, sz11, sz12, exists_eq_left, exists_eq_left', exists_eq_right, exists_and_left, exists_and_right, exists_const, exists_eq, List.cons.injEq, and_true, true_and, if_true, if_false, Bool.true_eq_false, Bool.false_eq_true, Bool.not_true, Bool.not_false, ite_true, ite_false, DL.D.int.injEq, DL.D.ty.injEq, DL.D.str.injEq, DL.D.tup.injEq, DL.D.lst.injEq, DL.D.ptr.injEq, DL.D.bl.injEq, DL.dNever, Option.some.injEq, eq_self, reduceIte, kitB_ii, kitB_ib, reduceCtorEq, and_self, and_assoc, decide_eq_true_eq])
              exact hN4 _ _ ⟨_, _, some j, rfl, rfl, best_take hB hjc fun b z => by cases z⟩
            | some b =>
              have hbj := hB.1
              have hbf := hf (fs.getD b 0) (by rw [List.getD_eq_getElem?_getD, List.getElem?_eq_getElem (by omega)]; exact List.getElem_mem _)
              (try simp only [DL.dRet, DL.dAsg, DL.dSeq, DL.dNext, DL.dIfS, DL.dDrop, DL.dName, DL.dVar, DL.dVarF, dC, DL.dCons, DL.dNil, DL.dOp, DL.dUn, DL.dTest, DL.dCB, DL.dTup, DL.dLst, DL.dLstM, DL.dgTup, DL.dgNil, DL.dgCons, DL.dAndV, DL.dOrV, DL.dNotV, DL.dAndT, DL.dOrT, DL.dNotT, DL.dIf, DL.dIsN, DL.dNotN, DL.isNon, DL.dCall, DL.dCallN, DL.dPar, DL.dPar3, DL.dFrz, DL.dSl, DL.dNoPart, DL.dPart, q_ixT, q_ixL, q_ixS, q_ixP, q_ixC, q_int, q_int0, q_addI, q_addS, q_addT, q_addL, q_mulI, q_mulL, q_mulM, q_lenS, q_lenT, q_lenL, q_lenX, q_lenP, q_intI, q_intB, q_eqI, q_eqS, q_eqB, q_neI, q_neS, q_neB, q_slT, q_slL, q_slX, q_slP, q_slS, DL.dIt_q, q_itL, q_itT, q_itX, DL.rAbs, DL.rMin2, DL.rMax2, DL.rTupOf, DL.rLstOf, DL.rLstOfM, DL.rIsiD, DL.Items, DL.ItemsL, DL.TyM, DL.dFor, DL.dRange1, DL.dRange2, DL.dEnum_q, q_enL, q_enT, q_enX, DL.dZip, DL.dBM, DL.dBM0, DL.TyD, DL.rAppendD, DL.rExtendD, DL.rPopD, DL.seqOf, DL.dDNewT, DL.dDNewK, DL.dLc, DL.dLcM, DL.dComp, DL.dYes, DL.dChain, DL.wipeR, DL.dTurns, DL.dgSubL, DL.startR, List.map_cons, List.map_nil, List.length_cons, List.length_nil, List.cons_append, List.nil_append, List.getElem?_cons_zero, List.getElem?_cons_succ, List.set_cons_zero, List.set_cons_succ, List.reduceReplicate, Nat.reduceAdd, Nat.reduceSub, Nat.zero_add, sz0, sz1, sz2, sz3, sz4, sz5, sz6, sz7, sz8, sz9, sz10, sz11, sz12, exists_eq_left, exists_eq_left', exists_eq_right, exists_and_left, exists_and_right, exists_const, exists_eq, List.cons.injEq, and_true, true_and, if_true, if_false, Bool.true_eq_false, Bool.false_eq_true, Bool.not_true, Bool.not_false, ite_true, ite_false, DL.D.int.injEq, DL.D.ty.injEq, DL.D.str.injEq, DL.D.tup.injEq, DL.D.lst.injEq, DL.D.ptr.injEq, DL.D.bl.injEq, DL.dNever, Option.some.injEq, eq_self, reduceIte, kitB_ii, kitB_ib, reduceCtorEq, and_self, and_assoc, decide_eq_true_eq])
              refine ⟨_, mpm _, _, gm j hj, ?_⟩
              (try simp only [DL.dRet, DL.dAsg, DL.dSeq, DL.dNext, DL.dIfS, DL.dDrop, DL.dName, DL.dVar, DL.dVarF, dC, DL.dCons, DL.dNil, DL.dOp, DL.dUn, DL.dTest, DL.dCB, DL.dTup, DL.dLst, DL.dLstM, DL.dgTup, DL.dgNil, DL.dgCons, DL.dAndV, DL.dOrV, DL.dNotV, DL.dAndT, DL.dOrT, DL.dNotT, DL.dIf, DL.dIsN, DL.dNotN, DL.isNon, DL.dCall, DL.dCallN, DL.dPar, DL.dPar3, DL.dFrz, DL.dSl, DL.dNoPart, DL.dPart, q_ixT, q_ixL, q_ixS, q_ixP, q_ixC, q_int, q_int0, q_addI, q_addS, q_addT, q_addL, q_mulI, q_mulL, q_mulM, q_lenS, q_lenT, q_lenL, q_lenX, q_lenP, q_intI, q_intB, q_eqI, q_eqS, q_eqB, q_neI, q_neS, q_neB, q_slT, q_slL, q_slX, q_slP, q_slS, DL.dIt_q, q_itL, q_itT, q_itX, DL.rAbs, DL.rMin2, DL.rMax2, DL.rTupOf, DL.rLstOf, DL.rLstOfM, DL.rIsiD, DL.Items, DL.ItemsL, DL.TyM, DL.dFor, DL.dRange1, DL.dRange2, DL.dEnum_q, q_enL, q_enT, q_enX, DL.dZip, DL.dBM, DL.dBM0, DL.TyD, DL.rAppendD, DL.rExtendD, DL.rPopD, DL.seqOf, DL.dDNewT, DL.dDNewK, DL.dLc, DL.dLcM, DL.dComp, DL.dYes, DL.dChain, DL.wipeR, DL.dTurns, DL.dgSubL, DL.startR, List.map_cons, List.map_nil, List.length_cons, List.length_nil, List.cons_append, List.nil_append, List.getElem?_cons_zero, List.getElem?_cons_succ, List.set_cons_zero, List.set_cons_succ, List.reduceReplicate, Nat.reduceAdd, Nat.reduceSub, Nat.zero_add, sz0, sz1, sz2, sz3, sz4, sz5, sz6, sz7, sz8, sz9, sz10, sz11, sz12, exists_eq_left, exists_eq_left', exists_eq_right, exists_and_left, exists_and_right, exists_const, exists_eq, List.cons.injEq, and_true, true_and, if_true, if_false, Bool.true_eq_false, Bool.false_eq_true, Bool.not_true, Bool.not_false, ite_true, ite_false, DL.D.int.injEq, DL.D.ty.injEq, DL.D.str.injEq, DL.D.tup.injEq, DL.D.lst.injEq, DL.D.ptr.injEq, DL.D.bl.injEq, DL.dNever, Option.some.injEq, eq_self, reduceIte, kitB_ii, kitB_ib, reduceCtorEq, and_self, and_assoc, decide_eq_true_eq])
              refine ⟨mul_small (.inl ⟨by omega, by omega⟩), .int (fs.getD b 0), at_d (j := b) (by rw [List.getElem?_map, List.getD_eq_getElem?_getD, List.getElem?_eq_getElem (by omega)]; rfl) rfl, _, mpm _, _, gm b (by omega), ?_⟩
              (try simp only [DL.dRet, DL.dAsg, DL.dSeq, DL.dNext, DL.dIfS, DL.dDrop, DL.dName, DL.dVar, DL.dVarF, dC, DL.dCons, DL.dNil, DL.dOp, DL.dUn, DL.dTest, DL.dCB, DL.dTup, DL.dLst, DL.dLstM, DL.dgTup, DL.dgNil, DL.dgCons, DL.dAndV, DL.dOrV, DL.dNotV, DL.dAndT, DL.dOrT, DL.dNotT, DL.dIf, DL.dIsN, DL.dNotN, DL.isNon, DL.dCall, DL.dCallN, DL.dPar, DL.dPar3, DL.dFrz, DL.dSl, DL.dNoPart, DL.dPart, q_ixT, q_ixL, q_ixS, q_ixP, q_ixC, q_int, q_int0, q_addI, q_addS, q_addT, q_addL, q_mulI, q_mulL, q_mulM, q_lenS, q_lenT, q_lenL, q_lenX, q_lenP, q_intI, q_intB, q_eqI, q_eqS, q_eqB, q_neI, q_neS, q_neB, q_slT, q_slL, q_slX, q_slP, q_slS, DL.dIt_q, q_itL, q_itT, q_itX, DL.rAbs, DL.rMin2, DL.rMax2, DL.rTupOf, DL.rLstOf, DL.rLstOfM, DL.rIsiD, DL.Items, DL.ItemsL, DL.TyM, DL.dFor, DL.dRange1, DL.dRange2, DL.dEnum_q, q_enL, q_enT, q_enX, DL.dZip, DL.dBM, DL.dBM0, DL.TyD, DL.rAppendD, DL.rExtendD, DL.rPopD, DL.seqOf, DL.dDNewT, DL.dDNewK, DL.dLc, DL.dLcM, DL.dComp, DL.dYes, DL.dChain, DL.wipeR, DL.dTurns, DL.dgSubL, DL.startR, List.map_cons, List.map_nil, List.length_cons, List.length_nil, List.cons_append, List.nil_append, List.getElem?_cons_zero, List.getElem?_cons_succ, List.set_cons_zero, List.set_cons_succ, List.reduceReplicate, Nat.reduceAdd, Nat.reduceSub, Nat.zero_add, sz0, sz1, sz2, sz3, sz4, sz5, sz6, sz7, sz8, sz9, sz10, sz11, sz12, exists_eq_left, exists_eq_left', exists_eq_right, exists_and_left, exists_and_right, exists_const, exists_eq, List.cons.injEq, and_true, true_and, if_true, if_false, Bool.true_eq_false, Bool.false_eq_true, Bool.not_true, Bool.not_false, ite_true, ite_false, DL.D.int.injEq, DL.D.ty.injEq, DL.D.str.injEq, DL.D.tup.injEq, DL.D.lst.injEq, DL.D.ptr.injEq, DL.D.bl.injEq, DL.dNever, Option.some.injEq, eq_self, reduceIte, kitB_ii, kitB_ib, reduceCtorEq, and_self, and_assoc, decide_eq_true_eq])
              refine ⟨mul_small (.inl ⟨by omega, by omega⟩), ?_⟩
              by_cases hlt : f * ((madeN fs n i).getD j 0 + 1) < fs.getD b 0 * ((madeN fs n i).getD b 0 + 1)
              · rw [if_pos hlt]
                exact hN4 _ _ ⟨_, _, some j, rfl, rfl, best_take hB hjc fun b' z => by cases z; rw [hfd]; exact hlt⟩
              · rw [if_neg hlt]
                exact hN4 _ _ ⟨_, _, some b, rfl, rfl, best_keep_le hB (by rw [hfd]; exact hlt)⟩
        · intro ρ M' hW
          obtain ⟨d10, d11, best, rfl, rfl, hB⟩ := hW
          rw [enumD_len, List.length_map] at hB
          obtain ⟨b, rfl, hb⟩ := best_end (by omega) hB
          (try simp only [DL.dRet, DL.dAsg, DL.dSeq, DL.dNext, DL.dIfS, DL.dDrop, DL.dName, DL.dVar, DL.dVarF, dC, DL.dCons, DL.dNil, DL.dOp, DL.dUn, DL.dTest, DL.dCB, DL.dTup, DL.dLst, DL.dLstM, DL.dgTup, DL.dgNil, DL.dgCons, DL.dAndV, DL.dOrV, DL.dNotV, DL.dAndT, DL.dOrT, DL.dNotT, DL.dIf, DL.dIsN, DL.dNotN, DL.isNon, DL.dCall, DL.dCallN, DL.dPar, DL.dPar3, DL.dFrz, DL.dSl, DL.dNoPart, DL.dPart, q_ixT, q_ixL, q_ixS, q_ixP, q_ixC, q_int, q_int0, q_addI, q_addS, q_addT, q_addL, q_mulI, q_mulL, q_mulM, q_lenS, q_lenT, q_lenL, q_lenX, q_lenP, q_intI, q_intB, q_eqI, q_eqS, q_eqB, q_neI, q_neS, q_neB, q_slT, q_slL, q_slX, q_slP, q_slS, DL.dIt_q, q_itL, q_itT, q_itX, DL.rAbs, DL.rMin2, DL.rMax2, DL.rTupOf, DL.rLstOf, DL.rLstOfM, DL.rIsiD, DL.Items, DL.ItemsL, DL.TyM, DL.dFor, DL.dRange1, DL.dRange2, DL.dEnum_q, q_enL, q_enT, q_enX, DL.dZip, DL.dBM, DL.dBM0, DL.TyD, DL.rAppendD, DL.rExtendD, DL.rPopD, DL.seqOf, DL.dDNewT, DL.dDNewK, DL.dLc, DL.dLcM, DL.dComp, DL.dYes, DL.dChain, DL.wipeR, DL.dTurns, DL.dgSubL, DL.startR, List.map_cons, List.map_nil, List.length_cons, List.length_nil, List.cons_append, List.nil_append, List.getElem?_cons_zero, List.getElem?_cons_succ, List.set_cons_zero, List.set_cons_succ, List.reduceReplicate, Nat.reduceAdd, Nat.reduceSub, Nat.zero_add, sz0, sz1, sz2, sz3, sz4, sz5, sz6, sz7, sz8, sz9, sz10, sz11, sz12, exists_eq_left, exists_eq_left', exists_eq_right, exists_and_left, exists_and_right, exists_const, exists_eq, List.cons.injEq, and_true, true_and, if_true, if_false, Bool.true_eq_false, Bool.false_eq_true, Bool.not_true, Bool.not_false, ite_true, ite_false, DL.D.int.injEq, DL.D.ty.injEq, DL.D.str.injEq, DL.D.tup.injEq, DL.D.lst.injEq, DL.D.ptr.injEq, DL.D.bl.injEq, DL.dNever, Option.some.injEq, eq_self, reduceIte, kitB_ii, kitB_ib, reduceCtorEq, and_self, and_assoc, decide_eq_true_eq])
          refine ⟨⟨_, .head _⟩, _, (by rw [List.length_map, List.length_take]; omega), _, .here, hN2 _ _ ⟨_, _, _, _, rfl, ?_⟩⟩
          rw [List.take_add_one, hb, List.map_append]
          rfl
      · intro ρ M' hW
        obtain ⟨d8, d9, d10, d11, rfl, rfl⟩ := hW
        rw [rangeD_len]
        have htk : (ordOf fs (madeN fs n i)).take (min n fs.length) = (ordOf fs (madeN fs n i)).take n := by
          rw [← ord_len fs (madeN fs n i)]
          exact take_min _ _
        rw [htk]
        subst hK2
        (try simp only [DL.dRet, DL.dAsg, DL.dSeq, DL.dNext, DL.dIfS, DL.dDrop, DL.dName, DL.dVar, DL.dVarF, dC, DL.dCons, DL.dNil, DL.dOp, DL.dUn, DL.dTest, DL.dCB, DL.dTup, DL.dLst, DL.dLstM, DL.dgTup, DL.dgNil, DL.dgCons, DL.dAndV, DL.dOrV, DL.dNotV, DL.dAndT, DL.dOrT, DL.dNotT, DL.dIf, DL.dIsN, DL.dNotN, DL.isNon, DL.dCall, DL.dCallN, DL.dPar, DL.dPar3, DL.dFrz, DL.dSl, DL.dNoPart, DL.dPart, q_ixT, q_ixL, q_ixS, q_ixP, q_ixC, q_int, q_int0, q_addI, q_addS, q_addT, q_addL, q_mulI, q_mulL, q_mulM, q_lenS, q_lenT, q_lenL, q_lenX, q_lenP, q_intI, q_intB, q_eqI, q_eqS, q_eqB, q_neI, q_neS, q_neB, q_slT, q_slL, q_slX, q_slP, q_slS, DL.dIt_q, q_itL, q_itT, q_itX, DL.rAbs, DL.rMin2, DL.rMax2, DL.rTupOf, DL.rLstOf, DL.rLstOfM, DL.rIsiD, DL.Items, DL.ItemsL, DL.TyM, DL.dFor, DL.dRange1, DL.dRange2, DL.dEnum_q, q_enL, q_enT, q_enX, DL.dZip, DL.dBM, DL.dBM0, DL.TyD, DL.rAppendD, DL.rExtendD, DL.rPopD, DL.seqOf, DL.dDNewT, DL.dDNewK, DL.dLc, DL.dLcM, DL.dComp, DL.dYes, DL.dChain, DL.wipeR, DL.dTurns, DL.dgSubL, DL.startR, List.map_cons, List.map_nil, List.length_cons, List.length_nil, List.cons_append, List.nil_append, List.getElem?_cons_zero, List.getElem?_cons_succ, List.set_cons_zero, List.set_cons_succ, List.reduceReplicate, Nat.reduceAdd, Nat.reduceSub, Nat.zero_add, sz0, sz1, sz2, sz3, sz4, sz5, sz6, sz7, sz8, sz9, sz10, sz11, sz12, exists_eq_left, exists_eq_left', exists_eq_right, exists_and_left, exists_and_right, exists_const, exists_eq, List.cons.injEq, and_true, true_and, if_true, if_false, Bool.true_eq_false, Bool.false_eq_true, Bool.not_true, Bool.not_false, ite_true, ite_false, DL.D.int.injEq, DL.D.ty.injEq, DL.D.str.injEq, DL.D.tup.injEq, DL.D.lst.injEq, DL.D.ptr.injEq, DL.D.bl.injEq, DL.dNever, Option.some.injEq, eq_self, reduceIte, kitB_ii, kitB_ib, reduceCtorEq, and_self, and_assoc, decide_eq_true_eq])
        refine ⟨[], _, _, rfl, ?_⟩
        generalize hc : (ordOf fs (madeN fs n i)).take n = c
        have hcm : ∀ p, p ∈ c ↔ p ∈ rowN fs n i := fun p => by rw [← hc]; exact row_mem_iff.symm
        have hcn : c.Nodup := by rw [← hc]; exact (ord_nodup _ _).sublist (List.take_sublist ..)
        have hcl : c.length ≤ 8 := by rw [← hc, List.length_take]; omega
        refine dTurns_inv (fun j ρ M' => ∃ d10 d11 kvs', ρ = [some (.lst (fs.map D.int)), some (.int n), some (.int m), some (.ptr pm), some (.ptr pl), some (.ptr w), some (.int (1 + (i : Nat))), some (.lst (c.map D.int)), d8, d9, d10, d11] ∧
          M' = (w, .dT kvs') :: (pl, .lst (rowsD fs n i)) :: (pm, .lst ((incr (madeN fs n i) (c.take j)).map D.int)) :: M ∧ WhenD kvs' (whenJ fs n i (c.take j)) ∧ kvs'.length ≤ 8 * i + j) ?_ ?_ ?_
        · refine ⟨_, _, kvs, rfl, by rw [List.take_zero, incr_nil]; rfl, fun p m => ?_, by omega⟩
          rw [hwh p m]
          unfold whenJ
          rw [List.take_zero, if_neg (fun z => (List.not_mem_nil z.1).elim)]
        · intro j z ρ M' hz' hW N4 hN4
          obtain ⟨d10, d11, kvs', rfl, rfl, hwj, hkl'⟩ := hW
          rw [List.getElem?_map] at hz'
          cases e : c[j]? with
          | none => rw [e] at hz'; cases hz'
          | some p =>
            rw [e] at hz'
            cases hz'
            obtain ⟨p0, p1⟩ := row_mem ((hcm p).mp (List.mem_of_getElem? e))
            have hq : p.toNat < (incr (madeN fs n i) (c.take j)).length := by rw [incr_len]; omega
            (try simp only [DL.dRet, DL.dAsg, DL.dSeq, DL.dNext, DL.dIfS, DL.dDrop, DL.dName, DL.dVar, DL.dVarF, dC, DL.dCons, DL.dNil, DL.dOp, DL.dUn, DL.dTest, DL.dCB, DL.dTup, DL.dLst, DL.dLstM, DL.dgTup, DL.dgNil, DL.dgCons, DL.dAndV, DL.dOrV, DL.dNotV, DL.dAndT, DL.dOrT, DL.dNotT, DL.dIf, DL.dIsN, DL.dNotN, DL.isNon, DL.dCall, DL.dCallN, DL.dPar, DL.dPar3, DL.dFrz, DL.dSl, DL.dNoPart, DL.dPart, q_ixT, q_ixL, q_ixS, q_ixP, q_ixC, q_int, q_int0, q_addI, q_addS, q_addT, q_addL, q_mulI, q_mulL, q_mulM, q_lenS, q_lenT, q_lenL, q_lenX, q_lenP, q_intI, q_intB, q_eqI, q_eqS, q_eqB, q_neI, q_neS, q_neB, q_slT, q_slL, q_slX, q_slP, q_slS, DL.dIt_q, q_itL, q_itT, q_itX, DL.rAbs, DL.rMin2, DL.rMax2, DL.rTupOf, DL.rLstOf, DL.rLstOfM, DL.rIsiD, DL.Items, DL.ItemsL, DL.TyM, DL.dFor, DL.dRange1, DL.dRange2, DL.dEnum_q, q_enL, q_enT, q_enX, DL.dZip, DL.dBM, DL.dBM0, DL.TyD, DL.rAppendD, DL.rExtendD, DL.rPopD, DL.seqOf, DL.dDNewT, DL.dDNewK, DL.dLc, DL.dLcM, DL.dComp, DL.dYes, DL.dChain, DL.wipeR, DL.dTurns, DL.dgSubL, DL.startR, List.map_cons, List.map_nil, List.length_cons, List.length_nil, List.cons_append, List.nil_append, List.getElem?_cons_zero, List.getElem?_cons_succ, List.set_cons_zero, List.set_cons_succ, List.reduceReplicate, Nat.reduceAdd, Nat.reduceSub, Nat.zero_add, sz0, sz1, sz2, sz3, sz4, sz5, sz6, sz7, sz8, sz9, sz10, sz11, sz12, exists_eq_left, exists_eq_left', exists_eq_right, exists_and_left, exists_and_right, exists_const, exists_eq, List.cons.injEq, and_true, true_and, if_true, if_false, Bool.true_eq_false, Bool.false_eq_true, Bool.not_true, Bool.not_false, ite_true, ite_false, DL.D.int.injEq, DL.D.ty.injEq, DL.D.str.injEq, DL.D.tup.injEq, DL.D.lst.injEq, DL.D.ptr.injEq, DL.D.bl.injEq, DL.dNever, Option.some.injEq, eq_self, reduceIte, kitB_ii, kitB_ib, reduceCtorEq, and_self, and_assoc, decide_eq_true_eq])
            refine ⟨_, .tail _ (.tail _ (.head _)), _, at_d (j := p.toNat) (by rw [List.getElem?_map, getD_get hq]; rfl) (by omega), ?_⟩
            (try simp only [DL.dRet, DL.dAsg, DL.dSeq, DL.dNext, DL.dIfS, DL.dDrop, DL.dName, DL.dVar, DL.dVarF, dC, DL.dCons, DL.dNil, DL.dOp, DL.dUn, DL.dTest, DL.dCB, DL.dTup, DL.dLst, DL.dLstM, DL.dgTup, DL.dgNil, DL.dgCons, DL.dAndV, DL.dOrV, DL.dNotV, DL.dAndT, DL.dOrT, DL.dNotT, DL.dIf, DL.dIsN, DL.dNotN, DL.isNon, DL.dCall, DL.dCallN, DL.dPar, DL.dPar3, DL.dFrz, DL.dSl, DL.dNoPart, DL.dPart, q_ixT, q_ixL, q_ixS, q_ixP, q_ixC, q_int, q_int0, q_addI, q_addS, q_addT, q_addL, q_mulI, q_mulL, q_mulM, q_lenS, q_lenT, q_lenL, q_lenX, q_lenP, q_intI, q_intB, q_eqI, q_eqS, q_eqB, q_neI, q_neS, q_neB, q_slT, q_slL, q_slX, q_slP, q_slS, DL.dIt_q, q_itL, q_itT, q_itX, DL.rAbs, DL.rMin2, DL.rMax2, DL.rTupOf, DL.rLstOf, DL.rLstOfM, DL.rIsiD, DL.Items, DL.ItemsL, DL.TyM, DL.dFor, DL.dRange1, DL.dRange2, DL.dEnum_q, q_enL, q_enT, q_enX, DL.dZip, DL.dBM, DL.dBM0, DL.TyD, DL.rAppendD, DL.rExtendD, DL.rPopD, DL.seqOf, DL.dDNewT, DL.dDNewK, DL.dLc, DL.dLcM, DL.dComp, DL.dYes, DL.dChain, DL.wipeR, DL.dTurns, DL.dgSubL, DL.startR, List.map_cons, List.map_nil, List.length_cons, List.length_nil, List.cons_append, List.nil_append, List.getElem?_cons_zero, List.getElem?_cons_succ, List.set_cons_zero, List.set_cons_succ, List.reduceReplicate, Nat.reduceAdd, Nat.reduceSub, Nat.zero_add, sz0, sz1, sz2, sz3, sz4, sz5, sz6, sz7, sz8, sz9, sz10, sz11, sz12, exists_eq_left, exists_eq_left', exists_eq_right, exists_and_left, exists_and_right, exists_const, exists_eq, List.cons.injEq, and_true, true_and, if_true, if_false, Bool.true_eq_false, Bool.false_eq_true, Bool.not_true, Bool.not_false, ite_true, ite_false, DL.D.int.injEq, DL.D.ty.injEq, DL.D.str.injEq, DL.D.tup.injEq, DL.D.lst.injEq, DL.D.ptr.injEq, DL.D.bl.injEq, DL.dNever, Option.some.injEq, eq_self, reduceIte, kitB_ii, kitB_ib, reduceCtorEq, and_self, and_assoc, decide_eq_true_eq])
            refine ⟨_, p.toNat, ix_d (by omega) (by rw [List.length_map]; exact hq), _, .there (.there .here), ?_⟩
            have hst : ((incr (madeN fs n i) (c.take j)).map D.int).set p.toNat (.int ((incr (madeN fs n i) (c.take j)).getD p.toNat 0 + 1)) = (incr (madeN fs n i) (c.take (j + 1))).map D.int := by
              rw [← incr_step hcn e p0 (by omega), List.map_set]
            have htk1 : c.take (j + 1) = c.take j ++ [p] := by rw [List.take_add_one, e]; rfl
            have hnp : p ∉ c.take j := fun hm => by
              have nd' : (c.take (j + 1)).Nodup := hcn.sublist (List.take_sublist ..)
              rw [htk1] at nd'
              exact (List.nodup_append.mp nd').2.2 p hm p (List.mem_singleton.mpr rfl) rfl
            have hval : (incr (madeN fs n i) (c.take (j + 1))).getD p.toNat 0 = (madeN fs n i).getD p.toNat 0 + 1 := by
              rw [incr_getD _ _ _ (by omega), if_pos (by rw [htk1]; exact List.mem_append.mpr (.inr (List.mem_singleton.mpr (by omega))))]
            rw [hst]
            (try simp only [DL.dRet, DL.dAsg, DL.dSeq, DL.dNext, DL.dIfS, DL.dDrop, DL.dName, DL.dVar, DL.dVarF, dC, DL.dCons, DL.dNil, DL.dOp, DL.dUn, DL.dTest, DL.dCB, DL.dTup, DL.dLst, DL.dLstM, DL.dgTup, DL.dgNil, DL.dgCons, DL.dAndV, DL.dOrV, DL.dNotV, DL.dAndT, DL.dOrT, DL.dNotT, DL.dIf, DL.dIsN, DL.dNotN, DL.isNon, DL.dCall, DL.dCallN, DL.dPar, DL.dPar3, DL.dFrz, DL.dSl, DL.dNoPart, DL.dPart, q_ixT, q_ixL, q_ixS, q_ixP, q_ixC, q_int, q_int0, q_addI, q_addS, q_addT, q_addL, q_mulI, q_mulL, q_mulM, q_lenS, q_lenT, q_lenL, q_lenX, q_lenP, q_intI, q_intB, q_eqI, q_eqS, q_eqB, q_neI, q_neS, q_neB, q_slT, q_slL, q_slX, q_slP, q_slS, DL.dIt_q, q_itL, q_itT, q_itX, DL.rAbs, DL.rMin2, DL.rMax2, DL.rTupOf, DL.rLstOf, DL.rLstOfM, DL.rIsiD, DL.Items, DL.ItemsL, DL.TyM, DL.dFor, DL.dRange1, DL.dRange2, DL.dEnum_q, q_enL, q_enT, q_enX, DL.dZip, DL.dBM, DL.dBM0, DL.TyD, DL.rAppendD, DL.rExtendD, DL.rPopD, DL.seqOf, DL.dDNewT, DL.dDNewK, DL.dLc, DL.dLcM, DL.dComp, DL.dYes, DL.dChain, DL.wipeR, DL.dTurns, DL.dgSubL, DL.startR, List.map_cons, List.map_nil, List.length_cons, List.length_nil, List.cons_append, List.nil_append, List.getElem?_cons_zero, List.getElem?_cons_succ, List.set_cons_zero, List.set_cons_succ, List.reduceReplicate, Nat.reduceAdd, Nat.reduceSub, Nat.zero_add, sz0, sz1, sz2, sz3, sz4, sz5, sz6, sz7, sz8, sz9, sz10, sz11, sz12, exists_eq_left, exists_eq_left', exists_eq_right, exists_and_left, exists_and_right, exists_const, exists_eq, List.cons.injEq, and_true, true_and, if_true, if_false, Bool.true_eq_false, Bool.false_eq_true, Bool.not_true, Bool.not_false, ite_true, ite_false, DL.D.int.injEq, DL.D.ty.injEq, DL.D.str.injEq, DL.D.tup.injEq, DL.D.lst.injEq, DL.D.ptr.injEq, DL.D.bl.injEq, DL.dNever, Option.some.injEq, eq_self, reduceIte, kitB_ii, kitB_ib, reduceCtorEq, and_self, and_assoc, decide_eq_true_eq, dsPutT])
            refine ⟨_, .tail _ (.tail _ (.head _)), _, at_d (j := p.toNat) (by rw [List.getElem?_map, getD_get (by rw [incr_len]; omega)]; rfl) (by omega), ?_⟩
            have hjc : j < c.length := (List.getElem?_eq_some_iff.mp e).1
            refine ⟨kvs', [.inl p, .inl ((incr (madeN fs n i) (c.take (j + 1))).getD p.toNat 0)], rfl, by omega, _, .here, hN4 _ _ ⟨_, _, _, rfl, rfl, fun p' m' => ?_, Nat.le_trans (putD_len ..) (by omega)⟩⟩
            rw [valD_put, hval]
            unfold whenJ
            by_cases epm : p' = p ∧ m' = (madeN fs n i).getD p.toNat 0 + 1
            · obtain ⟨rfl, rfl⟩ := epm
              rw [if_pos rfl, if_pos ⟨by rw [htk1]; simp, rfl⟩, Int.add_comm]
              rfl
            · rw [if_neg (fun z => epm (by simp at z; exact z)), hwj p' m']
              unfold whenJ
              have : (p' ∈ c.take (j + 1) ∧ m' = (madeN fs n i).getD p'.toNat 0 + 1) ↔ (p' ∈ c.take j ∧ m' = (madeN fs n i).getD p'.toNat 0 + 1) := by
                rw [htk1, List.mem_append, List.mem_singleton]
                constructor
                · rintro ⟨h1 | h1, h2⟩
                  · exact ⟨h1, h2⟩
                  · subst h1; exact absurd ⟨rfl, h2⟩ epm
                · rintro ⟨h1, h2⟩
                  exact ⟨.inl h1, h2⟩
              simp only [this]
        · intro ρ M' hW
          obtain ⟨d10, d11, kvs', rfl, rfl, hwj, hkl'⟩ := hW
          (try simp only [DL.dRet, DL.dAsg, DL.dSeq, DL.dNext, DL.dIfS, DL.dDrop, DL.dName, DL.dVar, DL.dVarF, dC, DL.dCons, DL.dNil, DL.dOp, DL.dUn, DL.dTest, DL.dCB, DL.dTup, DL.dLst, DL.dLstM, DL.dgTup, DL.dgNil, DL.dgCons, DL.dAndV, DL.dOrV, DL.dNotV, DL.dAndT, DL.dOrT, DL.dNotT, DL.dIf, DL.dIsN, DL.dNotN, DL.isNon, DL.dCall, DL.dCallN, DL.dPar, DL.dPar3, DL.dFrz, DL.dSl, DL.dNoPart, DL.dPart, q_ixT, q_ixL, q_ixS, q_ixP, q_ixC, q_int, q_int0, q_addI, q_addS, q_addT, q_addL, q_mulI, q_mulL, q_mulM, q_lenS, q_lenT, q_lenL, q_lenX, q_lenP, q_intI, q_intB, q_eqI, q_eqS, q_eqB, q_neI, q_neS, q_neB, q_slT, q_slL, q_slX, q_slP, q_slS, DL.dIt_q, q_itL, q_itT, q_itX, DL.rAbs, DL.rMin2, DL.rMax2, DL.rTupOf, DL.rLstOf, DL.rLstOfM, DL.rIsiD, DL.Items, DL.ItemsL, DL.TyM, DL.dFor, DL.dRange1, DL.dRange2, DL.dEnum_q, q_enL, q_enT, q_enX, DL.dZip, DL.dBM, DL.dBM0, DL.TyD, DL.rAppendD, DL.rExtendD, DL.rPopD, DL.seqOf, DL.dDNewT, DL.dDNewK, DL.dLc, DL.dLcM, DL.dComp, DL.dYes, DL.dChain, DL.wipeR, DL.dTurns, DL.dgSubL, DL.startR, List.map_cons, List.map_nil, List.length_cons, List.length_nil, List.cons_append, List.nil_append, List.getElem?_cons_zero, List.getElem?_cons_succ, List.set_cons_zero, List.set_cons_succ, List.reduceReplicate, Nat.reduceAdd, Nat.reduceSub, Nat.zero_add, sz0, sz1, sz2, sz3, sz4, sz5, sz6, sz7, sz8, sz9, sz10, sz11, sz12, exists_eq_left, exists_eq_left', exists_eq_right, exists_and_left, exists_and_right, exists_const, exists_eq, List.cons.injEq, and_true, true_and, if_true, if_false, Bool.true_eq_false, Bool.false_eq_true, Bool.not_true, Bool.not_false, ite_true, ite_false, DL.D.int.injEq, DL.D.ty.injEq, DL.D.str.injEq, DL.D.tup.injEq, DL.D.lst.injEq, DL.D.ptr.injEq, DL.D.bl.injEq, DL.dNever, Option.some.injEq, eq_self, reduceIte, kitB_ii, kitB_ib, reduceCtorEq, and_self, and_assoc, decide_eq_true_eq])
          refine ⟨⟨_, .tail _ (.head _)⟩, sortI_q rfl (fun ns' hp hs => ?_)⟩
          have hns : ns' = rowN fs n i := by
            rw [← hc] at hp
            exact srt_eq hp hs
          subst hns
          (try simp only [DL.dRet, DL.dAsg, DL.dSeq, DL.dNext, DL.dIfS, DL.dDrop, DL.dName, DL.dVar, DL.dVarF, dC, DL.dCons, DL.dNil, DL.dOp, DL.dUn, DL.dTest, DL.dCB, DL.dTup, DL.dLst, DL.dLstM, DL.dgTup, DL.dgNil, DL.dgCons, DL.dAndV, DL.dOrV, DL.dNotV, DL.dAndT, DL.dOrT, DL.dNotT, DL.dIf, DL.dIsN, DL.dNotN, DL.isNon, DL.dCall, DL.dCallN, DL.dPar, DL.dPar3, DL.dFrz, DL.dSl, DL.dNoPart, DL.dPart, q_ixT, q_ixL, q_ixS, q_ixP, q_ixC, q_int, q_int0, q_addI, q_addS, q_addT, q_addL, q_mulI, q_mulL, q_mulM, q_lenS, q_lenT, q_lenL, q_lenX, q_lenP, q_intI, q_intB, q_eqI, q_eqS, q_eqB, q_neI, q_neS, q_neB, q_slT, q_slL, q_slX, q_slP, q_slS, DL.dIt_q, q_itL, q_itT, q_itX, DL.rAbs, DL.rMin2, DL.rMax2, DL.rTupOf, DL.rLstOf, DL.rLstOfM, DL.rIsiD, DL.Items, DL.ItemsL, DL.TyM, DL.dFor, DL.dRange1, DL.dRange2, DL.dEnum_q, q_enL, q_enT, q_enX, DL.dZip, DL.dBM, DL.dBM0, DL.TyD, DL.rAppendD, DL.rExtendD, DL.rPopD, DL.seqOf, DL.dDNewT, DL.dDNewK, DL.dLc, DL.dLcM, DL.dComp, DL.dYes, DL.dChain, DL.wipeR, DL.dTurns, DL.dgSubL, DL.startR, List.map_cons, List.map_nil, List.length_cons, List.length_nil, List.cons_append, List.nil_append, List.getElem?_cons_zero, List.getElem?_cons_succ, List.set_cons_zero, List.set_cons_succ, List.reduceReplicate, Nat.reduceAdd, Nat.reduceSub, Nat.zero_add, sz0, sz1, sz2, sz3, sz4, sz5, sz6, sz7, sz8, sz9, sz10, sz11, sz12, exists_eq_left, exists_eq_left', exists_eq_right, exists_and_left, exists_and_right, exists_const, exists_eq, List.cons.injEq, and_true, true_and, if_true, if_false, Bool.true_eq_false, Bool.false_eq_true, Bool.not_true, Bool.not_false, ite_true, ite_false, DL.D.int.injEq, DL.D.ty.injEq, DL.D.str.injEq, DL.D.tup.injEq, DL.D.lst.injEq, DL.D.ptr.injEq, DL.D.bl.injEq, DL.dNever, Option.some.injEq, eq_self, reduceIte, kitB_ii, kitB_ib, reduceCtorEq, and_self, and_assoc, decide_eq_true_eq])
          refine ⟨_, (by unfold rowsD; rw [List.length_map, List.length_range]; omega), _, .there .here, hN _ _ ⟨_, _, _, _, _, _, kvs', rfl, ?_, fun p' m' => ?_, ?_⟩⟩
          · unfold rowsD
            rw [List.length_map, List.take_length, List.range_succ, List.map_append]
            rw [madeN, incr_congr hcm]
            rfl
          · rw [hwj p' m', List.length_map, List.take_length]
            unfold whenJ
            rw [whenV]
            simp only [hcm]
          · rw [List.length_map] at hkl'; omega
    · intro ρ M' hW
      obtain ⟨d6, d7, d8, d9, d10, d11, kvs, rfl, rfl, hwh, hkl⟩ := hW
      rw [rangeD_len] at hwh ⊢
      subst hK1
      (try simp only [DL.dRet, DL.dAsg, DL.dSeq, DL.dNext, DL.dIfS, DL.dDrop, DL.dName, DL.dVar, DL.dVarF, dC, DL.dCons, DL.dNil, DL.dOp, DL.dUn, DL.dTest, DL.dCB, DL.dTup, DL.dLst, DL.dLstM, DL.dgTup, DL.dgNil, DL.dgCons, DL.dAndV, DL.dOrV, DL.dNotV, DL.dAndT, DL.dOrT, DL.dNotT, DL.dIf, DL.dIsN, DL.dNotN, DL.isNon, DL.dCall, DL.dCallN, DL.dPar, DL.dPar3, DL.dFrz, DL.dSl, DL.dNoPart, DL.dPart, q_ixT, q_ixL, q_ixS, q_ixP, q_ixC, q_int, q_int0, q_addI, q_addS, q_addT, q_addL, q_mulI, q_mulL, q_mulM, q_lenS, q_lenT, q_lenL, q_lenX, q_lenP, q_intI, q_intB, q_eqI, q_eqS, q_eqB, q_neI, q_neS, q_neB, q_slT, q_slL, q_slX, q_slP, q_slS, DL.dIt_q, q_itL, q_itT, q_itX, DL.rAbs, DL.rMin2, DL.rMax2, DL.rTupOf, DL.rLstOf, DL.rLstOfM, DL.rIsiD, DL.Items, DL.ItemsL, DL.TyM, DL.dFor, DL.dRange1, DL.dRange2, DL.dEnum_q, q_enL, q_enT, q_enX, DL.dZip, DL.dBM, DL.dBM0, DL.TyD, DL.rAppendD, DL.rExtendD, DL.rPopD, DL.seqOf, DL.dDNewT, DL.dDNewK, DL.dLc, DL.dLcM, DL.dComp, DL.dYes, DL.dChain, DL.wipeR, DL.dTurns, DL.dgSubL, DL.startR, List.map_cons, List.map_nil, List.length_cons, List.length_nil, List.cons_append, List.nil_append, List.getElem?_cons_zero, List.getElem?_cons_succ, List.set_cons_zero, List.set_cons_succ, List.reduceReplicate, Nat.reduceAdd, Nat.reduceSub, Nat.zero_add, sz0, sz1, sz2, sz3, sz4, sz5, sz6, sz7, sz8, sz9, sz10, sz11, sz12, exists_eq_left, exists_eq_left', exists_eq_right, exists_and_left, exists_and_right, exists_const, exists_eq, List.cons.injEq, and_true, true_and, if_true, if_false, Bool.true_eq_false, Bool.false_eq_true, Bool.not_true, Bool.not_false, ite_true, ite_false, DL.D.int.injEq, DL.D.ty.injEq, DL.D.str.injEq, DL.D.tup.injEq, DL.D.lst.injEq, DL.D.ptr.injEq, DL.D.bl.injEq, DL.dNever, Option.some.injEq, eq_self, reduceIte, kitB_ii, kitB_ib, reduceCtorEq, and_self, and_assoc, decide_eq_true_eq])
      exact ⟨_, .tail _ (.head _), rtW_w (.keep (.skip (.skip (.refl _)))) (h w kvs hwh)⟩
    ⟩
def sp_law_factors : DSp := fun ds M Q _ => ∃ (p : Addr) (hands b : Int) (A B : MM) (o : MO), ds = [.ptr p, .int hands] ∧ 1 ≤ hands ∧ hands ≤ 8 ∧ M = A ++ (p, o) :: B ∧ UrnM b o ∧ b < 4000000 ∧
  ∀ (fs : List Int) (o' : MO), fs ≠ [] → fs.length ≤ 25 → (∀ f ∈ fs, 1 ≤ f ∧ f ≤ 42) → UrnM (b + 60) o' → Q (.lst (fs.map D.int)) (A ++ (p, o') :: B)
theorem ok_law_factors (T : Txt K mg) : FnOk P w K mg base CX0 3 T.a_law_factors T.fd_law_factors ["_law_urn_here", "_law_hands"] (toSp K sp_law_factors) :=
  fun_ok T.F_law_factors sc_law_factors (fun ds M Q E h => (by obtain ⟨p, hands, b, A, B, o, rfl, _⟩ := h; rfl)) fun cdv A outer s H E hr => ⟨_, (dss_cons (ds_par (i := 2) (j := 3) rfl sc_law_factors.nd rfl rfl (by decide) rfl rfl (da_cons (de_lstM da_nil) (da_cons (de_call (ok_law_pick T) (hr.mono (by decide)) T.g_law_pick T.F_law_pick.kp T.b_law_pick (da_cons (de_var 0) (da_cons (de_lst (da_cons (de_lst (da_cons de_int (da_cons de_int (da_cons de_int (da_cons de_int (da_cons de_int da_nil)))))) (da_cons (de_lst (da_cons de_int (da_cons de_int (da_cons de_int (da_cons de_int (da_cons de_int (da_cons de_int da_nil))))))) (da_cons (de_lst (da_cons de_int (da_cons de_int (da_cons de_int (da_cons de_int da_nil))))) (da_cons (de_lst (da_cons de_int (da_cons de_int (da_cons de_int (da_cons de_int da_nil))))) (da_cons (de_lst (da_cons de_int (da_cons de_int (da_cons de_int (da_cons de_int (da_cons de_int da_nil)))))) (da_cons (de_lst (da_cons de_int (da_cons de_int (da_cons de_int (da_cons de_int da_nil))))) da_nil))))))) da_nil))) da_nil)) rfl) (dss_cons (ds_for PassesOwn.never rfl (di_range1 T.n_range (da_cons (de_call (ok_law_pick T) (hr.mono (by decide)) T.g_law_pick T.F_law_pick.kp T.b_law_pick (da_cons (de_var 0) (da_cons (de_lst (da_cons de_int (da_cons de_int (da_cons de_int (da_cons de_int (da_cons de_int (da_cons de_int (da_cons (de_mul de_int (de_var 1)) (da_cons (de_add (de_mul de_int (de_var 1)) de_int) da_nil))))))))) da_nil))) da_nil)) (dg_name (i := 4) sc_law_factors.nd rfl (by first | exact .inl rfl | exact .inr rfl)) (dss_one (ds_expr (de_bm PySem.F.plainAttrs_list PySem.F.slot_list_append PySem.F.type_list_append mt_append ref_append (de_var 2) (da_cons (de_call (ok_law_pick T) (hr.mono (by decide)) T.g_law_pick T.F_law_pick.kp T.b_law_pick (da_cons (de_var 0) (da_cons (de_add (de_var 3) (de_lst (da_cons (de_add de_int (de_call (ok_law_dip T) (hr.mono (by decide)) T.g_law_dip T.F_law_dip.kp T.b_law_dip (da_cons (de_var 0) (da_cons de_int da_nil)))) da_nil))) da_nil))) da_nil))))) (dss_frz 2 (dss_one (ds_ret (de_var 2)))))), fun ds M Q E' h => by
    obtain ⟨p, hands, b, A, B, o, rfl, h1, h2, rfl, hu, hb, h⟩ := h
    refine seq_i fun K1 hK1 => ?_
    (try simp only [DL.dRet, DL.dAsg, DL.dSeq, DL.dNext, DL.dIfS, DL.dDrop, DL.dName, DL.dVar, DL.dVarF, dC, DL.dCons, DL.dNil, DL.dOp, DL.dUn, DL.dTest, DL.dCB, DL.dTup, DL.dLst, DL.dLstM, DL.dgTup, DL.dgNil, DL.dgCons, DL.dAndV, DL.dOrV, DL.dNotV, DL.dAndT, DL.dOrT, DL.dNotT, DL.dIf, DL.dIsN, DL.dNotN, DL.isNon, DL.dCall, DL.dCallN, DL.dPar, DL.dPar3, DL.dFrz, DL.dSl, DL.dNoPart, DL.dPart, q_ixT, q_ixL, q_ixS, q_ixP, q_ixC, q_int, q_int0, q_addI, q_addS, q_addT, q_addL, q_mulI, q_mulL, q_mulM, q_lenS, q_lenT, q_lenL, q_lenX, q_lenP, q_intI, q_intB, q_eqI, q_eqS, q_eqB, q_neI, q_neS, q_neB, q_slT, q_slL, q_slX, q_slP, q_slS, DL.dIt_q, q_itL, q_itT, q_itX, DL.rAbs, DL.rMin2, DL.rMax2, DL.rTupOf, DL.rLstOf, DL.rLstOfM, DL.rIsiD, DL.Items, DL.ItemsL, DL.TyM, DL.dFor, DL.dRange1, DL.dRange2, DL.dEnum_q, q_enL, q_enT, q_enX, DL.dZip, DL.dBM, DL.dBM0, DL.TyD, DL.rAppendD, DL.rExtendD, DL.rPopD, DL.seqOf, DL.dDNewT, DL.dDNewK, DL.dLc, DL.dLcM, DL.dComp, DL.dYes, DL.dChain, DL.wipeR, DL.dTurns, DL.dgSubL, DL.startR, List.map_cons, List.map_nil, List.length_cons, List.length_nil, List.cons_append, List.nil_append, List.getElem?_cons_zero, List.getElem?_cons_succ, List.set_cons_zero, List.set_cons_succ, List.reduceReplicate, Nat.reduceAdd, Nat.reduceSub, Nat.zero_add, sz0, sz1, sz2, sz3, sz4, sz5, sz6, sz7, sz8, sz9, sz10, sz11, sz12, exists_eq_left, exists_eq_left', exists_eq_right, exists_and_left, exists_and_right, exists_const, exists_eq, List.cons.injEq, and_true, true_and, if_true, if_false, Bool.true_eq_false, Bool.false_eq_true, Bool.not_true, Bool.not_false, ite_true, ite_false, DL.D.int.injEq, DL.D.ty.injEq, DL.D.str.injEq, DL.D.tup.injEq, DL.D.lst.injEq, DL.D.ptr.injEq, DL.D.bl.injEq, DL.dNever, Option.some.injEq, eq_self, reduceIte, kitB_ii, kitB_ib, reduceCtorEq, and_self, and_assoc, decide_eq_true_eq])
    intro q
    (try simp only [DL.dRet, DL.dAsg, DL.dSeq, DL.dNext, DL.dIfS, DL.dDrop, DL.dName, DL.dVar, DL.dVarF, dC, DL.dCons, DL.dNil, DL.dOp, DL.dUn, DL.dTest, DL.dCB, DL.dTup, DL.dLst, DL.dLstM, DL.dgTup, DL.dgNil, DL.dgCons, DL.dAndV, DL.dOrV, DL.dNotV, DL.dAndT, DL.dOrT, DL.dNotT, DL.dIf, DL.dIsN, DL.dNotN, DL.isNon, DL.dCall, DL.dCallN, DL.dPar, DL.dPar3, DL.dFrz, DL.dSl, DL.dNoPart, DL.dPart, q_ixT, q_ixL, q_ixS, q_ixP, q_ixC, q_int, q_int0, q_addI, q_addS, q_addT, q_addL, q_mulI, q_mulL, q_mulM, q_lenS, q_lenT, q_lenL, q_lenX, q_lenP, q_intI, q_intB, q_eqI, q_eqS, q_eqB, q_neI, q_neS, q_neB, q_slT, q_slL, q_slX, q_slP, q_slS, DL.dIt_q, q_itL, q_itT, q_itX, DL.rAbs, DL.rMin2, DL.rMax2, DL.rTupOf, DL.rLstOf, DL.rLstOfM, DL.rIsiD, DL.Items, DL.ItemsL, DL.TyM, DL.dFor, DL.dRange1, DL.dRange2, DL.dEnum_q, q_enL, q_enT, q_enX, DL.dZip, DL.dBM, DL.dBM0, DL.TyD, DL.rAppendD, DL.rExtendD, DL.rPopD, DL.seqOf, DL.dDNewT, DL.dDNewK, DL.dLc, DL.dLcM, DL.dComp, DL.dYes, DL.dChain, DL.wipeR, DL.dTurns, DL.dgSubL, DL.startR, List.map_cons, List.map_nil, List.length_cons, List.length_nil, List.cons_append, List.nil_append, List.getElem?_cons_zero, List.getElem?_cons_succ, List.set_cons_zero, List.set_cons_succ, List.reduceReplicate, Nat.reduceAdd, Nat.reduceSub, Nat.zero_add, sz0, sz1, sz2, sz3, sz4, sz5, sz6, sz7, sz8, sz9, sz10, sz11, sz12, exists_eq_left, exists_eq_left', exists_eq_right, exists_and_left, exists_and_right, exists_const, exists_eq, List.cons.injEq, and_true, true_and, if_true, if_false, Bool.true_eq_false, Bool.false_eq_true, Bool.not_true, Bool.not_false, ite_true, ite_false, DL.D.int.injEq, DL.D.ty.injEq, DL.D.str.injEq, DL.D.tup.injEq, DL.D.lst.injEq, DL.D.ptr.injEq, DL.D.bl.injEq, DL.dNever, Option.some.injEq, eq_self, reduceIte, kitB_ii, kitB_ib, reduceCtorEq, and_self, and_assoc, decide_eq_true_eq])
    refine ⟨p, _, b, (q, .lst []) :: A, B, o, rfl, by simp, by simp, rfl, hu, by omega, fun d o1 hd hu1 => ?_⟩
    have hms : ∃ ms : List Int, d = .lst (ms.map D.int) ∧ ms.length ≤ 10 ∧ ∀ x ∈ ms, 1 ≤ x ∧ x ≤ 42 := by
      simp only [List.mem_cons, List.mem_nil_iff, or_false] at hd
      rcases hd with rfl | rfl | rfl | rfl | rfl | rfl <;> exact ⟨_, congrArg D.lst (intsOf_eq rfl), by decide, by decide⟩
    obtain ⟨ms, rfl, hml, hmm⟩ := hms
    subst hK1
    refine seq_i fun K1 hK1 => ?_
    (try simp only [DL.dRet, DL.dAsg, DL.dSeq, DL.dNext, DL.dIfS, DL.dDrop, DL.dName, DL.dVar, DL.dVarF, dC, DL.dCons, DL.dNil, DL.dOp, DL.dUn, DL.dTest, DL.dCB, DL.dTup, DL.dLst, DL.dLstM, DL.dgTup, DL.dgNil, DL.dgCons, DL.dAndV, DL.dOrV, DL.dNotV, DL.dAndT, DL.dOrT, DL.dNotT, DL.dIf, DL.dIsN, DL.dNotN, DL.isNon, DL.dCall, DL.dCallN, DL.dPar, DL.dPar3, DL.dFrz, DL.dSl, DL.dNoPart, DL.dPart, q_ixT, q_ixL, q_ixS, q_ixP, q_ixC, q_int, q_int0, q_addI, q_addS, q_addT, q_addL, q_mulI, q_mulL, q_mulM, q_lenS, q_lenT, q_lenL, q_lenX, q_lenP, q_intI, q_intB, q_eqI, q_eqS, q_eqB, q_neI, q_neS, q_neB, q_slT, q_slL, q_slX, q_slP, q_slS, DL.dIt_q, q_itL, q_itT, q_itX, DL.rAbs, DL.rMin2, DL.rMax2, DL.rTupOf, DL.rLstOf, DL.rLstOfM, DL.rIsiD, DL.Items, DL.ItemsL, DL.TyM, DL.dFor, DL.dRange1, DL.dRange2, DL.dEnum_q, q_enL, q_enT, q_enX, DL.dZip, DL.dBM, DL.dBM0, DL.TyD, DL.rAppendD, DL.rExtendD, DL.rPopD, DL.seqOf, DL.dDNewT, DL.dDNewK, DL.dLc, DL.dLcM, DL.dComp, DL.dYes, DL.dChain, DL.wipeR, DL.dTurns, DL.dgSubL, DL.startR, List.map_cons, List.map_nil, List.length_cons, List.length_nil, List.cons_append, List.nil_append, List.getElem?_cons_zero, List.getElem?_cons_succ, List.set_cons_zero, List.set_cons_succ, List.reduceReplicate, Nat.reduceAdd, Nat.reduceSub, Nat.zero_add, sz0, sz1, sz2, sz3, sz4, sz5, sz6, sz7, sz8, sz9, sz10, sz11, sz12, exists_eq_left, exists_eq_left', exists_eq_right, exists_and_left, exists_and_right, exists_const, exists_eq, List.cons.injEq, and_true, true_and, if_true, if_false, Bool.true_eq_false, Bool.false_eq_true, Bool.not_true, Bool.not_false, ite_true, ite_false, DL.D.int.injEq, DL.D.ty.injEq, DL.D.str.injEq, DL.D.tup.injEq, DL.D.lst.injEq, DL.D.ptr.injEq, DL.D.bl.injEq, DL.dNever, Option.some.injEq, eq_self, reduceIte, kitB_ii, kitB_ib, reduceCtorEq, and_self, and_assoc, decide_eq_true_eq])
    refine ⟨mul_small (.inl ⟨by decide, by decide⟩), mul_small (.inl ⟨by decide, by decide⟩), ?_⟩
    refine ⟨p, _, b + 1, (q, .lst []) :: A, B, o1, rfl, by simp, by simp, rfl, hu1, by omega, fun d o2 hd hu2 => ?_⟩
    have hkk : ∃ k : Int, d = .int k ∧ 1 ≤ k ∧ k ≤ 25 := by
      simp only [List.mem_cons, List.mem_nil_iff, or_false] at hd
      rcases hd with rfl | rfl | rfl | rfl | rfl | rfl | rfl | rfl <;> exact ⟨_, rfl, by omega, by omega⟩
    obtain ⟨k, rfl, k1, k2⟩ := hkk
    obtain ⟨n, rfl⟩ := Int.eq_ofNat_of_zero_le (by omega : 0 ≤ k)
    (try simp only [DL.dRet, DL.dAsg, DL.dSeq, DL.dNext, DL.dIfS, DL.dDrop, DL.dName, DL.dVar, DL.dVarF, dC, DL.dCons, DL.dNil, DL.dOp, DL.dUn, DL.dTest, DL.dCB, DL.dTup, DL.dLst, DL.dLstM, DL.dgTup, DL.dgNil, DL.dgCons, DL.dAndV, DL.dOrV, DL.dNotV, DL.dAndT, DL.dOrT, DL.dNotT, DL.dIf, DL.dIsN, DL.dNotN, DL.isNon, DL.dCall, DL.dCallN, DL.dPar, DL.dPar3, DL.dFrz, DL.dSl, DL.dNoPart, DL.dPart, q_ixT, q_ixL, q_ixS, q_ixP, q_ixC, q_int, q_int0, q_addI, q_addS, q_addT, q_addL, q_mulI, q_mulL, q_mulM, q_lenS, q_lenT, q_lenL, q_lenX, q_lenP, q_intI, q_intB, q_eqI, q_eqS, q_eqB, q_neI, q_neS, q_neB, q_slT, q_slL, q_slX, q_slP, q_slS, DL.dIt_q, q_itL, q_itT, q_itX, DL.rAbs, DL.rMin2, DL.rMax2, DL.rTupOf, DL.rLstOf, DL.rLstOfM, DL.rIsiD, DL.Items, DL.ItemsL, DL.TyM, DL.dFor, DL.dRange1, DL.dRange2, DL.dEnum_q, q_enL, q_enT, q_enX, DL.dZip, DL.dBM, DL.dBM0, DL.TyD, DL.rAppendD, DL.rExtendD, DL.rPopD, DL.seqOf, DL.dDNewT, DL.dDNewK, DL.dLc, DL.dLcM, DL.dComp, DL.dYes, DL.dChain, DL.wipeR, DL.dTurns, DL.dgSubL, DL.startR, List.map_cons, List.map_nil, List.length_cons, List.length_nil, List.cons_append, List.nil_append, List.getElem?_cons_zero, List.getElem?_cons_succ, List.set_cons_zero, List.set_cons_succ, List.reduceReplicate, Nat.reduceAdd, Nat.reduceSub, Nat.zero_add, sz0, sz1, sz2, sz3, sz4, sz5, sz6, sz7, sz8, sz9, sz10, sz11, sz12, exists_eq_left, exists_eq_left', exists_eq_right, exists_and_left, exists_and_right, exists_const, exists_eq, List.cons.injEq, and_true, true_and, if_true, if_false, Bool.true_eq_false, Bool.false_eq_true, Bool.not_true, Bool.not_false, ite_true, ite_false, DL.D.int.injEq, DL.D.ty.injEq, DL.D.str.injEq, DL.D.tup.injEq, DL.D.lst.injEq, DL.D.ptr.injEq, DL.D.bl.injEq, DL.dNever, Option.some.injEq, eq_self, reduceIte, kitB_ii, kitB_ib, reduceCtorEq, and_self, and_assoc, decide_eq_true_eq])
    refine ⟨by omega, by omega, ?_⟩
    refine dTurns_inv (fun i ρ M' => ∃ (d4 : Option D) (acc : List Int) (o' : MO), ρ = [some (.ptr p), some (.int hands), some (.ptr q), some (.lst (ms.map D.int)), d4] ∧ M' = (q, .lst (acc.map D.int)) :: (A ++ (p, o') :: B) ∧
      acc.length = i ∧ (∀ f ∈ acc, 1 ≤ f ∧ f ≤ 42) ∧ UrnM (b + 2 + 2 * i) o') ⟨_, [], o2, rfl, rfl, rfl, fun _ z => (List.not_mem_nil z).elim, hu2.mono (by omega)⟩ ?_ ?_
    · intro i x ρ M' hx hW N hN
      obtain ⟨d4, acc, o3, rfl, rfl, ha, hf, hu3⟩ := hW
      have hi : i < n := by
        have := (List.getElem?_eq_some_iff.mp hx).1
        rw [rangeD_len] at this
        simpa using this
      (try simp only [DL.dRet, DL.dAsg, DL.dSeq, DL.dNext, DL.dIfS, DL.dDrop, DL.dName, DL.dVar, DL.dVarF, dC, DL.dCons, DL.dNil, DL.dOp, DL.dUn, DL.dTest, DL.dCB, DL.dTup, DL.dLst, DL.dLstM, DL.dgTup, DL.dgNil, DL.dgCons, DL.dAndV, DL.dOrV, DL.dNotV, DL.dAndT, DL.dOrT, DL.dNotT, DL.dIf, DL.dIsN, DL.dNotN, DL.isNon, DL.dCall, DL.dCallN, DL.dPar, DL.dPar3, DL.dFrz, DL.dSl, DL.dNoPart, DL.dPart, q_ixT, q_ixL, q_ixS, q_ixP, q_ixC, q_int, q_int0, q_addI, q_addS, q_addT, q_addL, q_mulI, q_mulL, q_mulM, q_lenS, q_lenT, q_lenL, q_lenX, q_lenP, q_intI, q_intB, q_eqI, q_eqS, q_eqB, q_neI, q_neS, q_neB, q_slT, q_slL, q_slX, q_slP, q_slS, DL.dIt_q, q_itL, q_itT, q_itX, DL.rAbs, DL.rMin2, DL.rMax2, DL.rTupOf, DL.rLstOf, DL.rLstOfM, DL.rIsiD, DL.Items, DL.ItemsL, DL.TyM, DL.dFor, DL.dRange1, DL.dRange2, DL.dEnum_q, q_enL, q_enT, q_enX, DL.dZip, DL.dBM, DL.dBM0, DL.TyD, DL.rAppendD, DL.rExtendD, DL.rPopD, DL.seqOf, DL.dDNewT, DL.dDNewK, DL.dLc, DL.dLcM, DL.dComp, DL.dYes, DL.dChain, DL.wipeR, DL.dTurns, DL.dgSubL, DL.startR, List.map_cons, List.map_nil, List.length_cons, List.length_nil, List.cons_append, List.nil_append, List.getElem?_cons_zero, List.getElem?_cons_succ, List.set_cons_zero, List.set_cons_succ, List.reduceReplicate, Nat.reduceAdd, Nat.reduceSub, Nat.zero_add, sz0, sz1, sz2, sz3, sz4, sz5, sz6, sz7, sz8, sz9, sz10, sz11, sz12, exists_eq_left, exists_eq_left', exists_eq_right, exists_and_left, exists_and_right, exists_const, exists_eq, List.cons.injEq, and_true, true_and, if_true, if_false, Bool.true_eq_false, Bool.false_eq_true, Bool.not_true, Bool.not_false, ite_true, ite_false, DL.D.int.injEq, DL.D.ty.injEq, DL.D.str.injEq, DL.D.tup.injEq, DL.D.lst.injEq, DL.D.ptr.injEq, DL.D.bl.injEq, DL.dNever, Option.some.injEq, eq_self, reduceIte, kitB_ii, kitB_ib, reduceCtorEq, and_self, and_assoc, decide_eq_true_eq])
      refine ⟨⟨_, .head _⟩, p, 12, b + 2 + 2 * i, (q, .lst (acc.map D.int)) :: A, B, o3, rfl, by decide, by decide, rfl, hu3, by omega, fun v o4 v0 v1 hu4 => ?_⟩
      (try simp only [DL.dRet, DL.dAsg, DL.dSeq, DL.dNext, DL.dIfS, DL.dDrop, DL.dName, DL.dVar, DL.dVarF, dC, DL.dCons, DL.dNil, DL.dOp, DL.dUn, DL.dTest, DL.dCB, DL.dTup, DL.dLst, DL.dLstM, DL.dgTup, DL.dgNil, DL.dgCons, DL.dAndV, DL.dOrV, DL.dNotV, DL.dAndT, DL.dOrT, DL.dNotT, DL.dIf, DL.dIsN, DL.dNotN, DL.isNon, DL.dCall, DL.dCallN, DL.dPar, DL.dPar3, DL.dFrz, DL.dSl, DL.dNoPart, DL.dPart, q_ixT, q_ixL, q_ixS, q_ixP, q_ixC, q_int, q_int0, q_addI, q_addS, q_addT, q_addL, q_mulI, q_mulL, q_mulM, q_lenS, q_lenT, q_lenL, q_lenX, q_lenP, q_intI, q_intB, q_eqI, q_eqS, q_eqB, q_neI, q_neS, q_neB, q_slT, q_slL, q_slX, q_slP, q_slS, DL.dIt_q, q_itL, q_itT, q_itX, DL.rAbs, DL.rMin2, DL.rMax2, DL.rTupOf, DL.rLstOf, DL.rLstOfM, DL.rIsiD, DL.Items, DL.ItemsL, DL.TyM, DL.dFor, DL.dRange1, DL.dRange2, DL.dEnum_q, q_enL, q_enT, q_enX, DL.dZip, DL.dBM, DL.dBM0, DL.TyD, DL.rAppendD, DL.rExtendD, DL.rPopD, DL.seqOf, DL.dDNewT, DL.dDNewK, DL.dLc, DL.dLcM, DL.dComp, DL.dYes, DL.dChain, DL.wipeR, DL.dTurns, DL.dgSubL, DL.startR, List.map_cons, List.map_nil, List.length_cons, List.length_nil, List.cons_append, List.nil_append, List.getElem?_cons_zero, List.getElem?_cons_succ, List.set_cons_zero, List.set_cons_succ, List.reduceReplicate, Nat.reduceAdd, Nat.reduceSub, Nat.zero_add, sz0, sz1, sz2, sz3, sz4, sz5, sz6, sz7, sz8, sz9, sz10, sz11, sz12, exists_eq_left, exists_eq_left', exists_eq_right, exists_and_left, exists_and_right, exists_const, exists_eq, List.cons.injEq, and_true, true_and, if_true, if_false, Bool.true_eq_false, Bool.false_eq_true, Bool.not_true, Bool.not_false, ite_true, ite_false, DL.D.int.injEq, DL.D.ty.injEq, DL.D.str.injEq, DL.D.tup.injEq, DL.D.lst.injEq, DL.D.ptr.injEq, DL.D.bl.injEq, DL.dNever, Option.some.injEq, eq_self, reduceIte, kitB_ii, kitB_ib, reduceCtorEq, and_self, and_assoc, decide_eq_true_eq])
      refine ⟨by rw [List.length_map]; exact Nat.le_trans (Nat.succ_le_succ hml) (by decide), p, _, b + 2 + 2 * i + 1, (q, .lst (acc.map D.int)) :: A, B, o4, rfl, by simp, by simp; omega, rfl, hu4, by omega, fun d o5 hd hu5 => ?_⟩
      have hdd : ∃ k : Int, d = .int k ∧ 1 ≤ k ∧ k ≤ 42 := by
        rcases List.mem_append.mp hd with hd | hd
        · obtain ⟨k, hk, rfl⟩ := List.mem_map.mp hd
          exact ⟨k, rfl, hmm k hk⟩
        · have hd := List.mem_singleton.mp hd
          subst hd
          exact ⟨_, rfl, by omega, by omega⟩
      obtain ⟨k, rfl, k1, k2⟩ := hdd
      refine ⟨_, by rw [List.length_map, ha]; exact Nat.lt_of_lt_of_le (by omega : i < 26) (by decide), _, .here, hN _ _ ⟨_, acc ++ [k], o5, rfl, by rw [List.map_append]; rfl, by rw [List.length_append, ha]; rfl, fun f hf' => ?_, hu5.mono (by omega)⟩⟩
      rcases List.mem_append.mp hf' with z | z
      · exact hf f z
      · rw [List.mem_singleton.mp z]; exact ⟨k1, k2⟩
    · intro ρ M' hW
      obtain ⟨d4, acc, o3, rfl, rfl, ha, hf, hu3⟩ := hW
      rw [rangeD_len] at ha hu3
      simp only [Int.toNat_natCast] at ha hu3
      subst hK1
      (try simp only [DL.dRet, DL.dAsg, DL.dSeq, DL.dNext, DL.dIfS, DL.dDrop, DL.dName, DL.dVar, DL.dVarF, dC, DL.dCons, DL.dNil, DL.dOp, DL.dUn, DL.dTest, DL.dCB, DL.dTup, DL.dLst, DL.dLstM, DL.dgTup, DL.dgNil, DL.dgCons, DL.dAndV, DL.dOrV, DL.dNotV, DL.dAndT, DL.dOrT, DL.dNotT, DL.dIf, DL.dIsN, DL.dNotN, DL.isNon, DL.dCall, DL.dCallN, DL.dPar, DL.dPar3, DL.dFrz, DL.dSl, DL.dNoPart, DL.dPart, q_ixT, q_ixL, q_ixS, q_ixP, q_ixC, q_int, q_int0, q_addI, q_addS, q_addT, q_addL, q_mulI, q_mulL, q_mulM, q_lenS, q_lenT, q_lenL, q_lenX, q_lenP, q_intI, q_intB, q_eqI, q_eqS, q_eqB, q_neI, q_neS, q_neB, q_slT, q_slL, q_slX, q_slP, q_slS, DL.dIt_q, q_itL, q_itT, q_itX, DL.rAbs, DL.rMin2, DL.rMax2, DL.rTupOf, DL.rLstOf, DL.rLstOfM, DL.rIsiD, DL.Items, DL.ItemsL, DL.TyM, DL.dFor, DL.dRange1, DL.dRange2, DL.dEnum_q, q_enL, q_enT, q_enX, DL.dZip, DL.dBM, DL.dBM0, DL.TyD, DL.rAppendD, DL.rExtendD, DL.rPopD, DL.seqOf, DL.dDNewT, DL.dDNewK, DL.dLc, DL.dLcM, DL.dComp, DL.dYes, DL.dChain, DL.wipeR, DL.dTurns, DL.dgSubL, DL.startR, List.map_cons, List.map_nil, List.length_cons, List.length_nil, List.cons_append, List.nil_append, List.getElem?_cons_zero, List.getElem?_cons_succ, List.set_cons_zero, List.set_cons_succ, List.reduceReplicate, Nat.reduceAdd, Nat.reduceSub, Nat.zero_add, sz0, sz1, sz2, sz3, sz4, sz5, sz6, sz7, sz8, sz9, sz10, sz11, sz12, exists_eq_left, exists_eq_left', exists_eq_right, exists_and_left, exists_and_right, exists_const, exists_eq, List.cons.injEq, and_true, true_and, if_true, if_false, Bool.true_eq_false, Bool.false_eq_true, Bool.not_true, Bool.not_false, ite_true, ite_false, DL.D.int.injEq, DL.D.ty.injEq, DL.D.str.injEq, DL.D.tup.injEq, DL.D.lst.injEq, DL.D.ptr.injEq, DL.D.bl.injEq, DL.dNever, Option.some.injEq, eq_self, reduceIte, kitB_ii, kitB_ib, reduceCtorEq, and_self, and_assoc, decide_eq_true_eq])
      refine ⟨[], _, _, rfl, rtW_of (h acc o3 (fun z => ?_) (by omega) hf (hu3.mono (by omega)))⟩
      rw [z] at ha
      rw [List.length_nil] at ha
      omega
    ⟩
def sp_is_integer : DSp := fun ds M Q _ => ∃ i, ds = [.int i] ∧ Q (.bl true) M
theorem ok_is_integer (T : Txt K mg) : FnOk P w K mg base CX0 1 T.a_is_integer T.fd_is_integer ["value"] (toSp K sp_is_integer) :=
  fun_ok T.F_is_integer sc_is_integer (fun ds M Q E h => (by obtain ⟨i, rfl, _⟩ := h; rfl)) fun cdv A outer s H E hr => ⟨_, (dss_one (ds_ret (de_and (de_callB call_isi ref_isi T.n_isinstance bt_isinstance (da_cons (de_var 0) (da_cons (de_bltn (by rfl) T.n_int bt_int) da_nil))) (de_one (de_not (de_callB call_isi ref_isi T.n_isinstance bt_isinstance (da_cons (de_var 0) (da_cons (de_bltn (by rfl) T.n_bool bt_bool) da_nil)))))))), fun ds M Q E' h => by
    obtain ⟨i, rfl, h⟩ := h
    (try simp only [DL.dRet, DL.dAsg, DL.dSeq, DL.dNext, DL.dIfS, DL.dDrop, DL.dName, DL.dVar, DL.dVarF, dC, DL.dCons, DL.dNil, DL.dOp, DL.dUn, DL.dTest, DL.dCB, DL.dTup, DL.dLst, DL.dLstM, DL.dgTup, DL.dgNil, DL.dgCons, DL.dAndV, DL.dOrV, DL.dNotV, DL.dAndT, DL.dOrT, DL.dNotT, DL.dIf, DL.dIsN, DL.dNotN, DL.isNon, DL.dCall, DL.dCallN, DL.dPar, DL.dPar3, DL.dFrz, DL.dSl, DL.dNoPart, DL.dPart, q_ixT, q_ixL, q_ixS, q_ixP, q_ixC, q_int, q_int0, q_addI, q_addS, q_addT, q_addL, q_mulI, q_mulL, q_mulM, q_lenS, q_lenT, q_lenL, q_lenX, q_lenP, q_intI, q_intB, q_eqI, q_eqS, q_eqB, q_neI, q_neS, q_neB, q_slT, q_slL, q_slX, q_slP, q_slS, DL.dIt_q, q_itL, q_itT, q_itX, DL.rAbs, DL.rMin2, DL.rMax2, DL.rTupOf, DL.rLstOf, DL.rLstOfM, DL.rIsiD, DL.Items, DL.ItemsL, DL.TyM, DL.dFor, DL.dRange1, DL.dRange2, DL.dEnum_q, q_enL, q_enT, q_enX, DL.dZip, DL.dBM, DL.dBM0, DL.TyD, DL.rAppendD, DL.rExtendD, DL.rPopD, DL.seqOf, DL.dDNewT, DL.dDNewK, DL.dLc, DL.dLcM, DL.dComp, DL.dYes, DL.dChain, DL.wipeR, DL.dTurns, DL.dgSubL, DL.startR, List.map_cons, List.map_nil, List.length_cons, List.length_nil, List.cons_append, List.nil_append, List.getElem?_cons_zero, List.getElem?_cons_succ, List.set_cons_zero, List.set_cons_succ, List.reduceReplicate, Nat.reduceAdd, Nat.reduceSub, Nat.zero_add, sz0, sz1, sz2, sz3, sz4, sz5, sz6, sz7, sz8, sz9, sz10, sz11, sz12, exists_eq_left, exists_eq_left', exists_eq_right, exists_and_left, exists_and_right, exists_const, exists_eq, List.cons.injEq, and_true, true_and, if_true, if_false, Bool.true_eq_false, Bool.false_eq_true, Bool.not_true, Bool.not_false, ite_true, ite_false, DL.D.int.injEq, DL.D.ty.injEq, DL.D.str.injEq, DL.D.tup.injEq, DL.D.lst.injEq, DL.D.ptr.injEq, DL.D.bl.injEq, DL.dNever, Option.some.injEq, eq_self, reduceIte, kitB_ii, kitB_ib, reduceCtorEq, and_self, and_assoc, decide_eq_true_eq])
    exact rtW_of h
    ⟩
def sp_is_within : DSp := fun ds M Q _ => ∃ i lo hi, ds = [.int i, .int lo, .int hi] ∧ Q (.bl (decide (lo ≤ i) && decide (i ≤ hi))) M
theorem ok_is_within (T : Txt K mg) : FnOk P w K mg base CX0 2 T.a_is_within T.fd_is_within ["value", "least", "most"] (toSp K sp_is_within) :=
  fun_ok T.F_is_within sc_is_within (fun ds M Q E h => (by obtain ⟨i, lo, hi, rfl, _⟩ := h; rfl)) fun cdv A outer s H E hr => ⟨_, (dss_cons (ds_if (dt_not (dt_val (de_call (ok_is_integer T) (hr.mono (by decide)) T.g_is_integer T.F_is_integer.kp T.b_is_integer (da_cons (de_var 0) da_nil)))) (dss_one (ds_ret de_bl)) dss_nil) (dss_one (ds_ret (de_and (de_or (de_isN (de_var 1)) (de_one (de_le (de_var 1) (de_var 0)))) (de_one (de_or (de_isN (de_var 2)) (de_one (de_le (de_var 0) (de_var 2))))))))), fun ds M Q E' h => by
    obtain ⟨i, lo, hi, rfl, h⟩ := h
    (try simp only [DL.dRet, DL.dAsg, DL.dSeq, DL.dNext, DL.dIfS, DL.dDrop, DL.dName, DL.dVar, DL.dVarF, dC, DL.dCons, DL.dNil, DL.dOp, DL.dUn, DL.dTest, DL.dCB, DL.dTup, DL.dLst, DL.dLstM, DL.dgTup, DL.dgNil, DL.dgCons, DL.dAndV, DL.dOrV, DL.dNotV, DL.dAndT, DL.dOrT, DL.dNotT, DL.dIf, DL.dIsN, DL.dNotN, DL.isNon, DL.dCall, DL.dCallN, DL.dPar, DL.dPar3, DL.dFrz, DL.dSl, DL.dNoPart, DL.dPart, q_ixT, q_ixL, q_ixS, q_ixP, q_ixC, q_int, q_int0, q_addI, q_addS, q_addT, q_addL, q_mulI, q_mulL, q_mulM, q_lenS, q_lenT, q_lenL, q_lenX, q_lenP, q_intI, q_intB, q_eqI, q_eqS, q_eqB, q_neI, q_neS, q_neB, q_slT, q_slL, q_slX, q_slP, q_slS, DL.dIt_q, q_itL, q_itT, q_itX, DL.rAbs, DL.rMin2, DL.rMax2, DL.rTupOf, DL.rLstOf, DL.rLstOfM, DL.rIsiD, DL.Items, DL.ItemsL, DL.TyM, DL.dFor, DL.dRange1, DL.dRange2, DL.dEnum_q, q_enL, q_enT, q_enX, DL.dZip, DL.dBM, DL.dBM0, DL.TyD, DL.rAppendD, DL.rExtendD, DL.rPopD, DL.seqOf, DL.dDNewT, DL.dDNewK, DL.dLc, DL.dLcM, DL.dComp, DL.dYes, DL.dChain, DL.wipeR, DL.dTurns, DL.dgSubL, DL.startR, List.map_cons, List.map_nil, List.length_cons, List.length_nil, List.cons_append, List.nil_append, List.getElem?_cons_zero, List.getElem?_cons_succ, List.set_cons_zero, List.set_cons_succ, List.reduceReplicate, Nat.reduceAdd, Nat.reduceSub, Nat.zero_add, sz0, sz1, sz2, sz3, sz4, sz5, sz6, sz7, sz8, sz9, sz10, sz11, sz12, exists_eq_left, exists_eq_left', exists_eq_right, exists_and_left, exists_and_right, exists_const, exists_eq, List.cons.injEq, and_true, true_and, if_true, if_false, Bool.true_eq_false, Bool.false_eq_true, Bool.not_true, Bool.not_false, ite_true, ite_false, DL.D.int.injEq, DL.D.ty.injEq, DL.D.str.injEq, DL.D.tup.injEq, DL.D.lst.injEq, DL.D.ptr.injEq, DL.D.bl.injEq, DL.dNever, Option.some.injEq, eq_self, reduceIte, kitB_ii, kitB_ib, reduceCtorEq, and_self, and_assoc, decide_eq_true_eq, sp_is_integer])
    by_cases h1 : lo ≤ i
    · simp only [h1, if_true, decide_true, Bool.true_and] at h ⊢
      exact rtW_of h
    · simp only [h1, if_false, decide_false, Bool.false_and] at h ⊢
      exact rtW_of h
    ⟩
def sp_need_number : DSp := fun ds M Q _ => ∃ i s lo hi, ds = [.int i, .str s, .int lo, .int hi] ∧ lo ≤ i ∧ i ≤ hi ∧ Q .non M
theorem ok_need_number (T : Txt K mg) : FnOk P w K mg base CX0 3 T.a_need_number T.fd_need_number ["value", "part", "least", "most"] (toSp K sp_need_number) :=
  fun_ok T.F_need_number sc_need_number (fun ds M Q E h => (by obtain ⟨i, s, lo, hi, rfl, _⟩ := h; rfl)) fun cdv A outer s H E hr => ⟨_, (dss_one (ds_if (dt_not (dt_val (de_call (ok_is_within T) (hr.mono (by decide)) T.g_is_within T.F_is_within.kp T.b_is_within (da_cons (de_var 0) (da_cons (de_var 2) (da_cons (de_var 3) da_nil)))))) dss_never dss_nil)), fun ds M Q E' h => by
    obtain ⟨i, s, lo, hi, rfl, h1, h2, h⟩ := h
    (try simp only [DL.dRet, DL.dAsg, DL.dSeq, DL.dNext, DL.dIfS, DL.dDrop, DL.dName, DL.dVar, DL.dVarF, dC, DL.dCons, DL.dNil, DL.dOp, DL.dUn, DL.dTest, DL.dCB, DL.dTup, DL.dLst, DL.dLstM, DL.dgTup, DL.dgNil, DL.dgCons, DL.dAndV, DL.dOrV, DL.dNotV, DL.dAndT, DL.dOrT, DL.dNotT, DL.dIf, DL.dIsN, DL.dNotN, DL.isNon, DL.dCall, DL.dCallN, DL.dPar, DL.dPar3, DL.dFrz, DL.dSl, DL.dNoPart, DL.dPart, q_ixT, q_ixL, q_ixS, q_ixP, q_ixC, q_int, q_int0, q_addI, q_addS, q_addT, q_addL, q_mulI, q_mulL, q_mulM, q_lenS, q_lenT, q_lenL, q_lenX, q_lenP, q_intI, q_intB, q_eqI, q_eqS, q_eqB, q_neI, q_neS, q_neB, q_slT, q_slL, q_slX, q_slP, q_slS, DL.dIt_q, q_itL, q_itT, q_itX, DL.rAbs, DL.rMin2, DL.rMax2, DL.rTupOf, DL.rLstOf, DL.rLstOfM, DL.rIsiD, DL.Items, DL.ItemsL, DL.TyM, DL.dFor, DL.dRange1, DL.dRange2, DL.dEnum_q, q_enL, q_enT, q_enX, DL.dZip, DL.dBM, DL.dBM0, DL.TyD, DL.rAppendD, DL.rExtendD, DL.rPopD, DL.seqOf, DL.dDNewT, DL.dDNewK, DL.dLc, DL.dLcM, DL.dComp, DL.dYes, DL.dChain, DL.wipeR, DL.dTurns, DL.dgSubL, DL.startR, List.map_cons, List.map_nil, List.length_cons, List.length_nil, List.cons_append, List.nil_append, List.getElem?_cons_zero, List.getElem?_cons_succ, List.set_cons_zero, List.set_cons_succ, List.reduceReplicate, Nat.reduceAdd, Nat.reduceSub, Nat.zero_add, sz0, sz1, sz2, sz3, sz4, sz5, sz6, sz7, sz8, sz9, sz10, sz11, sz12, exists_eq_left, exists_eq_left', exists_eq_right, exists_and_left, exists_and_right, exists_const, exists_eq, List.cons.injEq, and_true, true_and, if_true, if_false, Bool.true_eq_false, Bool.false_eq_true, Bool.not_true, Bool.not_false, ite_true, ite_false, DL.D.int.injEq, DL.D.ty.injEq, DL.D.str.injEq, DL.D.tup.injEq, DL.D.lst.injEq, DL.D.ptr.injEq, DL.D.bl.injEq, DL.dNever, Option.some.injEq, eq_self, reduceIte, kitB_ii, kitB_ib, reduceCtorEq, and_self, and_assoc, decide_eq_true_eq, sp_is_within])
    rw [if_neg (by simp [h1, h2])]
    exact rtW_of h
    ⟩
def sp_need_whole : DSp := fun ds M Q _ => ∃ (x : D) (fs : List Int) (h : Int), ds = [x, .int h] ∧ SeqX x (fs.map D.int) ∧ fs ≠ [] ∧ fs.length ≤ 40 ∧ (∀ f ∈ fs, 1 ≤ f ∧ f ≤ 1000000) ∧ 1 ≤ h ∧ h ≤ 8 ∧
  Q (.tup (fs.map fun f => .tup [.int f, .int 1])) M
theorem ok_need_whole (T : Txt K mg) : FnOk P w K mg base CX0 4 T.a_need_whole T.fd_need_whole ["value", "hands"] (toSp K sp_need_whole) :=
  fun_ok T.F_need_whole sc_need_whole (fun ds M Q E h => (by obtain ⟨x, fs, h, rfl, _⟩ := h; rfl)) fun cdv A outer s H E hr => ⟨_, (dss_cons (ds_if (dw_or (dt_not (dt_val (de_callB call_isiAV ref_isiT T.n_isinstance bt_isinstance (da_cons (de_var 0) (da_cons (de_tup (da_cons (de_bltn (by rfl) T.n_list bt_list) (da_cons (de_bltn (by rfl) T.n_tuple bt_tuple) da_nil))) da_nil))))) (dw_or1 (dt_not (dt_chain op_le ref_le op_le ref_le de_int (de_callB call_lenV ref_len T.n_len bt_len (da_cons (de_var 0) da_nil)) (de_globI T.g_MOST_FACTORS))))).dt dss_never dss_nil) (dss_cons (ds_if (dt_not (dt_val (de_callB (cr_all rfl) ref_all T.n_all bt_all (da_cons (de_lc [("each", 2)] rfl sc_need_whole.nd (di_seq (de_var 0)) (blkOk_by (own := [("each", 2)]) (N := N_need_whole) (sc := defScope s_need_whole) (by decide +kernel)) (by decide) (fun _ _ _ _ _ => (dg_name (i := 2) sc_need_whole.nd rfl (by first | exact .inl rfl | exact .inr rfl))) (fun _ _ _ _ _ => dts_nil) (fun _ _ _ _ _ => (de_call (ok_is_within T) (hr.mono (by decide)) T.g_is_within T.F_is_within.kp T.b_is_within (da_cons (de_var 2) (da_cons de_int (da_cons (de_globI T.g_MOST_PART) da_nil)))))) da_nil)))) dss_never dss_nil) (dss_cons (ds_expr (de_call (ok_need_number T) (hr.mono (by decide)) T.g_need_number T.F_need_number.kp T.b_need_number (da_cons (de_var 1) (da_cons de_str (da_cons de_int (da_cons (de_globI T.g_MOST_HANDS) da_nil)))))) (dss_one (ds_ret (de_callTy call_tuple_of ref_tupOf T.n_tuple bt_tuple (da_cons (de_lc [("each", 2)] rfl sc_need_whole.nd (di_seq (de_var 0)) (blkOk_by (own := [("each", 2)]) (N := N_need_whole) (sc := defScope s_need_whole) (by decide +kernel)) (by decide) (fun _ _ _ _ _ => (dg_name (i := 2) sc_need_whole.nd rfl (by first | exact .inl rfl | exact .inr rfl))) (fun _ _ _ _ _ => dts_nil) (fun _ _ _ _ _ => (de_tup (da_cons (de_var 2) (da_cons de_int da_nil))))) da_nil))))))), fun ds M Q E' h => by
    obtain ⟨x, fs, h', rfl, hx, hne, hl, hf, h1, h2, h⟩ := h
    have hp : 0 < fs.length := List.length_pos_iff.mpr hne
    have hz : (40 : Nat) ≤ sizeLine := by decide
    refine seq_i fun K1 hK1 => ?_
    (try simp only [DL.dRet, DL.dAsg, DL.dSeq, DL.dNext, DL.dIfS, DL.dDrop, DL.dName, DL.dVar, DL.dVarF, dC, DL.dCons, DL.dNil, DL.dOp, DL.dUn, DL.dTest, DL.dCB, DL.dTup, DL.dLst, DL.dLstM, DL.dgTup, DL.dgNil, DL.dgCons, DL.dAndV, DL.dOrV, DL.dNotV, DL.dAndT, DL.dOrT, DL.dNotT, DL.dIf, DL.dIsN, DL.dNotN, DL.isNon, DL.dCall, DL.dCallN, DL.dPar, DL.dPar3, DL.dFrz, DL.dSl, DL.dNoPart, DL.dPart, q_ixT, q_ixL, q_ixS, q_ixP, q_ixC, q_int, q_int0, q_addI, q_addS, q_addT, q_addL, q_mulI, q_mulL, q_mulM, q_lenS, q_lenT, q_lenL, q_lenX, q_lenP, q_intI, q_intB, q_eqI, q_eqS, q_eqB, q_neI, q_neS, q_neB, q_slT, q_slL, q_slX, q_slP, q_slS, DL.dIt_q, q_itL, q_itT, q_itX, DL.rAbs, DL.rMin2, DL.rMax2, DL.rTupOf, DL.rLstOf, DL.rLstOfM, DL.rIsiD, DL.Items, DL.ItemsL, DL.TyM, DL.dFor, DL.dRange1, DL.dRange2, DL.dEnum_q, q_enL, q_enT, q_enX, DL.dZip, DL.dBM, DL.dBM0, DL.TyD, DL.rAppendD, DL.rExtendD, DL.rPopD, DL.seqOf, DL.dDNewT, DL.dDNewK, DL.dLc, DL.dLcM, DL.dComp, DL.dYes, DL.dChain, DL.wipeR, DL.dTurns, DL.dgSubL, DL.startR, List.map_cons, List.map_nil, List.length_cons, List.length_nil, List.cons_append, List.nil_append, List.getElem?_cons_zero, List.getElem?_cons_succ, List.set_cons_zero, List.set_cons_succ, List.reduceReplicate, Nat.reduceAdd, Nat.reduceSub, Nat.zero_add, sz0, sz1, sz2, sz3, sz4, sz5, sz6, sz7, sz8, sz9, sz10, sz11, sz12, exists_eq_left, exists_eq_left', exists_eq_right, exists_and_left, exists_and_right, exists_const, exists_eq, List.cons.injEq, and_true, true_and, if_true, if_false, Bool.true_eq_false, Bool.false_eq_true, Bool.not_true, Bool.not_false, ite_true, ite_false, DL.D.int.injEq, DL.D.ty.injEq, DL.D.str.injEq, DL.D.tup.injEq, DL.D.lst.injEq, DL.D.ptr.injEq, DL.D.bl.injEq, DL.dNever, Option.some.injEq, eq_self, reduceIte, kitB_ii, kitB_ib, reduceCtorEq, and_self, and_assoc, decide_eq_true_eq])
    refine hx.isi ?_
    (try simp only [DL.dRet, DL.dAsg, DL.dSeq, DL.dNext, DL.dIfS, DL.dDrop, DL.dName, DL.dVar, DL.dVarF, dC, DL.dCons, DL.dNil, DL.dOp, DL.dUn, DL.dTest, DL.dCB, DL.dTup, DL.dLst, DL.dLstM, DL.dgTup, DL.dgNil, DL.dgCons, DL.dAndV, DL.dOrV, DL.dNotV, DL.dAndT, DL.dOrT, DL.dNotT, DL.dIf, DL.dIsN, DL.dNotN, DL.isNon, DL.dCall, DL.dCallN, DL.dPar, DL.dPar3, DL.dFrz, DL.dSl, DL.dNoPart, DL.dPart, q_ixT, q_ixL, q_ixS, q_ixP, q_ixC, q_int, q_int0, q_addI, q_addS, q_addT, q_addL, q_mulI, q_mulL, q_mulM, q_lenS, q_lenT, q_lenL, q_lenX, q_lenP, q_intI, q_intB, q_eqI, q_eqS, q_eqB, q_neI, q_neS, q_neB, q_slT, q_slL, q_slX, q_slP, q_slS, DL.dIt_q, q_itL, q_itT, q_itX, DL.rAbs, DL.rMin2, DL.rMax2, DL.rTupOf, DL.rLstOf, DL.rLstOfM, DL.rIsiD, DL.Items, DL.ItemsL, DL.TyM, DL.dFor, DL.dRange1, DL.dRange2, DL.dEnum_q, q_enL, q_enT, q_enX, DL.dZip, DL.dBM, DL.dBM0, DL.TyD, DL.rAppendD, DL.rExtendD, DL.rPopD, DL.seqOf, DL.dDNewT, DL.dDNewK, DL.dLc, DL.dLcM, DL.dComp, DL.dYes, DL.dChain, DL.wipeR, DL.dTurns, DL.dgSubL, DL.startR, List.map_cons, List.map_nil, List.length_cons, List.length_nil, List.cons_append, List.nil_append, List.getElem?_cons_zero, List.getElem?_cons_succ, List.set_cons_zero, List.set_cons_succ, List.reduceReplicate, Nat.reduceAdd, Nat.reduceSub, Nat.zero_add, sz0, sz1, sz2, sz3, sz4, sz5, sz6, sz7, sz8, sz9, sz10, sz11, sz12, exists_eq_left, exists_eq_left', exists_eq_right, exists_and_left, exists_and_right, exists_const, exists_eq, List.cons.injEq, and_true, true_and, if_true, if_false, Bool.true_eq_false, Bool.false_eq_true, Bool.not_true, Bool.not_false, ite_true, ite_false, DL.D.int.injEq, DL.D.ty.injEq, DL.D.str.injEq, DL.D.tup.injEq, DL.D.lst.injEq, DL.D.ptr.injEq, DL.D.bl.injEq, DL.dNever, Option.some.injEq, eq_self, reduceIte, kitB_ii, kitB_ib, reduceCtorEq, and_self, and_assoc, decide_eq_true_eq])
    refine hx.len ?_
    (try simp only [DL.dRet, DL.dAsg, DL.dSeq, DL.dNext, DL.dIfS, DL.dDrop, DL.dName, DL.dVar, DL.dVarF, dC, DL.dCons, DL.dNil, DL.dOp, DL.dUn, DL.dTest, DL.dCB, DL.dTup, DL.dLst, DL.dLstM, DL.dgTup, DL.dgNil, DL.dgCons, DL.dAndV, DL.dOrV, DL.dNotV, DL.dAndT, DL.dOrT, DL.dNotT, DL.dIf, DL.dIsN, DL.dNotN, DL.isNon, DL.dCall, DL.dCallN, DL.dPar, DL.dPar3, DL.dFrz, DL.dSl, DL.dNoPart, DL.dPart, q_ixT, q_ixL, q_ixS, q_ixP, q_ixC, q_int, q_int0, q_addI, q_addS, q_addT, q_addL, q_mulI, q_mulL, q_mulM, q_lenS, q_lenT, q_lenL, q_lenX, q_lenP, q_intI, q_intB, q_eqI, q_eqS, q_eqB, q_neI, q_neS, q_neB, q_slT, q_slL, q_slX, q_slP, q_slS, DL.dIt_q, q_itL, q_itT, q_itX, DL.rAbs, DL.rMin2, DL.rMax2, DL.rTupOf, DL.rLstOf, DL.rLstOfM, DL.rIsiD, DL.Items, DL.ItemsL, DL.TyM, DL.dFor, DL.dRange1, DL.dRange2, DL.dEnum_q, q_enL, q_enT, q_enX, DL.dZip, DL.dBM, DL.dBM0, DL.TyD, DL.rAppendD, DL.rExtendD, DL.rPopD, DL.seqOf, DL.dDNewT, DL.dDNewK, DL.dLc, DL.dLcM, DL.dComp, DL.dYes, DL.dChain, DL.wipeR, DL.dTurns, DL.dgSubL, DL.startR, List.map_cons, List.map_nil, List.length_cons, List.length_nil, List.cons_append, List.nil_append, List.getElem?_cons_zero, List.getElem?_cons_succ, List.set_cons_zero, List.set_cons_succ, List.reduceReplicate, Nat.reduceAdd, Nat.reduceSub, Nat.zero_add, sz0, sz1, sz2, sz3, sz4, sz5, sz6, sz7, sz8, sz9, sz10, sz11, sz12, exists_eq_left, exists_eq_left', exists_eq_right, exists_and_left, exists_and_right, exists_const, exists_eq, List.cons.injEq, and_true, true_and, if_true, if_false, Bool.true_eq_false, Bool.false_eq_true, Bool.not_true, Bool.not_false, ite_true, ite_false, DL.D.int.injEq, DL.D.ty.injEq, DL.D.str.injEq, DL.D.tup.injEq, DL.D.lst.injEq, DL.D.ptr.injEq, DL.D.bl.injEq, DL.dNever, Option.some.injEq, eq_self, reduceIte, kitB_ii, kitB_ib, reduceCtorEq, and_self, and_assoc, decide_eq_true_eq, List.length_map])
    rw [if_pos (by omega)]
    (try simp only [DL.dRet, DL.dAsg, DL.dSeq, DL.dNext, DL.dIfS, DL.dDrop, DL.dName, DL.dVar, DL.dVarF, dC, DL.dCons, DL.dNil, DL.dOp, DL.dUn, DL.dTest, DL.dCB, DL.dTup, DL.dLst, DL.dLstM, DL.dgTup, DL.dgNil, DL.dgCons, DL.dAndV, DL.dOrV, DL.dNotV, DL.dAndT, DL.dOrT, DL.dNotT, DL.dIf, DL.dIsN, DL.dNotN, DL.isNon, DL.dCall, DL.dCallN, DL.dPar, DL.dPar3, DL.dFrz, DL.dSl, DL.dNoPart, DL.dPart, q_ixT, q_ixL, q_ixS, q_ixP, q_ixC, q_int, q_int0, q_addI, q_addS, q_addT, q_addL, q_mulI, q_mulL, q_mulM, q_lenS, q_lenT, q_lenL, q_lenX, q_lenP, q_intI, q_intB, q_eqI, q_eqS, q_eqB, q_neI, q_neS, q_neB, q_slT, q_slL, q_slX, q_slP, q_slS, DL.dIt_q, q_itL, q_itT, q_itX, DL.rAbs, DL.rMin2, DL.rMax2, DL.rTupOf, DL.rLstOf, DL.rLstOfM, DL.rIsiD, DL.Items, DL.ItemsL, DL.TyM, DL.dFor, DL.dRange1, DL.dRange2, DL.dEnum_q, q_enL, q_enT, q_enX, DL.dZip, DL.dBM, DL.dBM0, DL.TyD, DL.rAppendD, DL.rExtendD, DL.rPopD, DL.seqOf, DL.dDNewT, DL.dDNewK, DL.dLc, DL.dLcM, DL.dComp, DL.dYes, DL.dChain, DL.wipeR, DL.dTurns, DL.dgSubL, DL.startR, List.map_cons, List.map_nil, List.length_cons, List.length_nil, List.cons_append, List.nil_append, List.getElem?_cons_zero, List.getElem?_cons_succ, List.set_cons_zero, List.set_cons_succ, List.reduceReplicate, Nat.reduceAdd, Nat.reduceSub, Nat.zero_add, sz0, sz1, sz2, sz3, sz4, sz5, sz6, sz7, sz8, sz9, sz10, sz11, sz12, exists_eq_left, exists_eq_left', exists_eq_right, exists_and_left, exists_and_right, exists_const, exists_eq, List.cons.injEq, and_true, true_and, if_true, if_false, Bool.true_eq_false, Bool.false_eq_true, Bool.not_true, Bool.not_false, ite_true, ite_false, DL.D.int.injEq, DL.D.ty.injEq, DL.D.str.injEq, DL.D.tup.injEq, DL.D.lst.injEq, DL.D.ptr.injEq, DL.D.bl.injEq, DL.dNever, Option.some.injEq, eq_self, reduceIte, kitB_ii, kitB_ib, reduceCtorEq, and_self, and_assoc, decide_eq_true_eq])
    rw [if_neg (by simp; omega)]
    subst hK1
    refine seq_i fun K1 hK1 => ?_
    (try simp only [DL.dRet, DL.dAsg, DL.dSeq, DL.dNext, DL.dIfS, DL.dDrop, DL.dName, DL.dVar, DL.dVarF, dC, DL.dCons, DL.dNil, DL.dOp, DL.dUn, DL.dTest, DL.dCB, DL.dTup, DL.dLst, DL.dLstM, DL.dgTup, DL.dgNil, DL.dgCons, DL.dAndV, DL.dOrV, DL.dNotV, DL.dAndT, DL.dOrT, DL.dNotT, DL.dIf, DL.dIsN, DL.dNotN, DL.isNon, DL.dCall, DL.dCallN, DL.dPar, DL.dPar3, DL.dFrz, DL.dSl, DL.dNoPart, DL.dPart, q_ixT, q_ixL, q_ixS, q_ixP, q_ixC, q_int, q_int0, q_addI, q_addS, q_addT, q_addL, q_mulI, q_mulL, q_mulM, q_lenS, q_lenT, q_lenL, q_lenX, q_lenP, q_intI, q_intB, q_eqI, q_eqS, q_eqB, q_neI, q_neS, q_neB, q_slT, q_slL, q_slX, q_slP, q_slS, DL.dIt_q, q_itL, q_itT, q_itX, DL.rAbs, DL.rMin2, DL.rMax2, DL.rTupOf, DL.rLstOf, DL.rLstOfM, DL.rIsiD, DL.Items, DL.ItemsL, DL.TyM, DL.dFor, DL.dRange1, DL.dRange2, DL.dEnum_q, q_enL, q_enT, q_enX, DL.dZip, DL.dBM, DL.dBM0, DL.TyD, DL.rAppendD, DL.rExtendD, DL.rPopD, DL.seqOf, DL.dDNewT, DL.dDNewK, DL.dLc, DL.dLcM, DL.dComp, DL.dYes, DL.dChain, DL.wipeR, DL.dTurns, DL.dgSubL, DL.startR, List.map_cons, List.map_nil, List.length_cons, List.length_nil, List.cons_append, List.nil_append, List.getElem?_cons_zero, List.getElem?_cons_succ, List.set_cons_zero, List.set_cons_succ, List.reduceReplicate, Nat.reduceAdd, Nat.reduceSub, Nat.zero_add, sz0, sz1, sz2, sz3, sz4, sz5, sz6, sz7, sz8, sz9, sz10, sz11, sz12, exists_eq_left, exists_eq_left', exists_eq_right, exists_and_left, exists_and_right, exists_const, exists_eq, List.cons.injEq, and_true, true_and, if_true, if_false, Bool.true_eq_false, Bool.false_eq_true, Bool.not_true, Bool.not_false, ite_true, ite_false, DL.D.int.injEq, DL.D.ty.injEq, DL.D.str.injEq, DL.D.tup.injEq, DL.D.lst.injEq, DL.D.ptr.injEq, DL.D.bl.injEq, DL.dNever, Option.some.injEq, eq_self, reduceIte, kitB_ii, kitB_ib, reduceCtorEq, and_self, and_assoc, decide_eq_true_eq])
    refine hx.it ?_
    refine DL.comp_map (fun _ => .bl true) (by rw [List.length_nil, List.length_map]; omega) (fun y hy R N hR => ?_) ?_
    · obtain ⟨f, hf', rfl⟩ := List.mem_map.mp hy
      (try simp only [DL.dRet, DL.dAsg, DL.dSeq, DL.dNext, DL.dIfS, DL.dDrop, DL.dName, DL.dVar, DL.dVarF, dC, DL.dCons, DL.dNil, DL.dOp, DL.dUn, DL.dTest, DL.dCB, DL.dTup, DL.dLst, DL.dLstM, DL.dgTup, DL.dgNil, DL.dgCons, DL.dAndV, DL.dOrV, DL.dNotV, DL.dAndT, DL.dOrT, DL.dNotT, DL.dIf, DL.dIsN, DL.dNotN, DL.isNon, DL.dCall, DL.dCallN, DL.dPar, DL.dPar3, DL.dFrz, DL.dSl, DL.dNoPart, DL.dPart, q_ixT, q_ixL, q_ixS, q_ixP, q_ixC, q_int, q_int0, q_addI, q_addS, q_addT, q_addL, q_mulI, q_mulL, q_mulM, q_lenS, q_lenT, q_lenL, q_lenX, q_lenP, q_intI, q_intB, q_eqI, q_eqS, q_eqB, q_neI, q_neS, q_neB, q_slT, q_slL, q_slX, q_slP, q_slS, DL.dIt_q, q_itL, q_itT, q_itX, DL.rAbs, DL.rMin2, DL.rMax2, DL.rTupOf, DL.rLstOf, DL.rLstOfM, DL.rIsiD, DL.Items, DL.ItemsL, DL.TyM, DL.dFor, DL.dRange1, DL.dRange2, DL.dEnum_q, q_enL, q_enT, q_enX, DL.dZip, DL.dBM, DL.dBM0, DL.TyD, DL.rAppendD, DL.rExtendD, DL.rPopD, DL.seqOf, DL.dDNewT, DL.dDNewK, DL.dLc, DL.dLcM, DL.dComp, DL.dYes, DL.dChain, DL.wipeR, DL.dTurns, DL.dgSubL, DL.startR, List.map_cons, List.map_nil, List.length_cons, List.length_nil, List.cons_append, List.nil_append, List.getElem?_cons_zero, List.getElem?_cons_succ, List.set_cons_zero, List.set_cons_succ, List.reduceReplicate, Nat.reduceAdd, Nat.reduceSub, Nat.zero_add, sz0, sz1, sz2, sz3, sz4, sz5, sz6, sz7, sz8, sz9, sz10, sz11, sz12, exists_eq_left, exists_eq_left', exists_eq_right, exists_and_left, exists_and_right, exists_const, exists_eq, List.cons.injEq, and_true, true_and, if_true, if_false, Bool.true_eq_false, Bool.false_eq_true, Bool.not_true, Bool.not_false, ite_true, ite_false, DL.D.int.injEq, DL.D.ty.injEq, DL.D.str.injEq, DL.D.tup.injEq, DL.D.lst.injEq, DL.D.ptr.injEq, DL.D.bl.injEq, DL.dNever, Option.some.injEq, eq_self, reduceIte, kitB_ii, kitB_ib, reduceCtorEq, and_self, and_assoc, decide_eq_true_eq])
      refine ⟨f, 1, 1000000, rfl, ?_⟩
      rw [show (decide ((1 : Int) ≤ f) && decide (f ≤ 1000000)) = true by simp [hf f hf']]
      exact hR
    · refine all_q (bs := fs.map fun _ => true) (by rw [List.nil_append, List.map_map, List.map_map]; rfl) ?_
      rw [show (fs.map fun _ => true).all id = true by simp]
      (try simp only [DL.dRet, DL.dAsg, DL.dSeq, DL.dNext, DL.dIfS, DL.dDrop, DL.dName, DL.dVar, DL.dVarF, dC, DL.dCons, DL.dNil, DL.dOp, DL.dUn, DL.dTest, DL.dCB, DL.dTup, DL.dLst, DL.dLstM, DL.dgTup, DL.dgNil, DL.dgCons, DL.dAndV, DL.dOrV, DL.dNotV, DL.dAndT, DL.dOrT, DL.dNotT, DL.dIf, DL.dIsN, DL.dNotN, DL.isNon, DL.dCall, DL.dCallN, DL.dPar, DL.dPar3, DL.dFrz, DL.dSl, DL.dNoPart, DL.dPart, q_ixT, q_ixL, q_ixS, q_ixP, q_ixC, q_int, q_int0, q_addI, q_addS, q_addT, q_addL, q_mulI, q_mulL, q_mulM, q_lenS, q_lenT, q_lenL, q_lenX, q_lenP, q_intI, q_intB, q_eqI, q_eqS, q_eqB, q_neI, q_neS, q_neB, q_slT, q_slL, q_slX, q_slP, q_slS, DL.dIt_q, q_itL, q_itT, q_itX, DL.rAbs, DL.rMin2, DL.rMax2, DL.rTupOf, DL.rLstOf, DL.rLstOfM, DL.rIsiD, DL.Items, DL.ItemsL, DL.TyM, DL.dFor, DL.dRange1, DL.dRange2, DL.dEnum_q, q_enL, q_enT, q_enX, DL.dZip, DL.dBM, DL.dBM0, DL.TyD, DL.rAppendD, DL.rExtendD, DL.rPopD, DL.seqOf, DL.dDNewT, DL.dDNewK, DL.dLc, DL.dLcM, DL.dComp, DL.dYes, DL.dChain, DL.wipeR, DL.dTurns, DL.dgSubL, DL.startR, List.map_cons, List.map_nil, List.length_cons, List.length_nil, List.cons_append, List.nil_append, List.getElem?_cons_zero, List.getElem?_cons_succ, List.set_cons_zero, List.set_cons_succ, List.reduceReplicate, Nat.reduceAdd, Nat.reduceSub, Nat.zero_add, sz0, sz1, sz2, sz3, sz4, sz5, sz6, sz7, sz8, sz9, sz10, sz11, sz12, exists_eq_left, exists_eq_left', exists_eq_right, exists_and_left, exists_and_right, exists_const, exists_eq, List.cons.injEq, and_true, true_and, if_true, if_false, Bool.true_eq_false, Bool.false_eq_true, Bool.not_true, Bool.not_false, ite_true, ite_false, DL.D.int.injEq, DL.D.ty.injEq, DL.D.str.injEq, DL.D.tup.injEq, DL.D.lst.injEq, DL.D.ptr.injEq, DL.D.bl.injEq, DL.dNever, Option.some.injEq, eq_self, reduceIte, kitB_ii, kitB_ib, reduceCtorEq, and_self, and_assoc, decide_eq_true_eq])
      subst hK1
      (try simp only [DL.dRet, DL.dAsg, DL.dSeq, DL.dNext, DL.dIfS, DL.dDrop, DL.dName, DL.dVar, DL.dVarF, dC, DL.dCons, DL.dNil, DL.dOp, DL.dUn, DL.dTest, DL.dCB, DL.dTup, DL.dLst, DL.dLstM, DL.dgTup, DL.dgNil, DL.dgCons, DL.dAndV, DL.dOrV, DL.dNotV, DL.dAndT, DL.dOrT, DL.dNotT, DL.dIf, DL.dIsN, DL.dNotN, DL.isNon, DL.dCall, DL.dCallN, DL.dPar, DL.dPar3, DL.dFrz, DL.dSl, DL.dNoPart, DL.dPart, q_ixT, q_ixL, q_ixS, q_ixP, q_ixC, q_int, q_int0, q_addI, q_addS, q_addT, q_addL, q_mulI, q_mulL, q_mulM, q_lenS, q_lenT, q_lenL, q_lenX, q_lenP, q_intI, q_intB, q_eqI, q_eqS, q_eqB, q_neI, q_neS, q_neB, q_slT, q_slL, q_slX, q_slP, q_slS, DL.dIt_q, q_itL, q_itT, q_itX, DL.rAbs, DL.rMin2, DL.rMax2, DL.rTupOf, DL.rLstOf, DL.rLstOfM, DL.rIsiD, DL.Items, DL.ItemsL, DL.TyM, DL.dFor, DL.dRange1, DL.dRange2, DL.dEnum_q, q_enL, q_enT, q_enX, DL.dZip, DL.dBM, DL.dBM0, DL.TyD, DL.rAppendD, DL.rExtendD, DL.rPopD, DL.seqOf, DL.dDNewT, DL.dDNewK, DL.dLc, DL.dLcM, DL.dComp, DL.dYes, DL.dChain, DL.wipeR, DL.dTurns, DL.dgSubL, DL.startR, List.map_cons, List.map_nil, List.length_cons, List.length_nil, List.cons_append, List.nil_append, List.getElem?_cons_zero, List.getElem?_cons_succ, List.set_cons_zero, List.set_cons_succ, List.reduceReplicate, Nat.reduceAdd, Nat.reduceSub, Nat.zero_add, sz0, sz1, sz2, sz3, sz4, sz5, sz6, sz7, sz8, sz9, sz10, sz11, sz12, exists_eq_left, exists_eq_left', exists_eq_right, exists_and_left, exists_and_right, exists_const, exists_eq, List.cons.injEq, and_true, true_and, if_true, if_false, Bool.true_eq_false, Bool.false_eq_true, Bool.not_true, Bool.not_false, ite_true, ite_false, DL.D.int.injEq, DL.D.ty.injEq, DL.D.str.injEq, DL.D.tup.injEq, DL.D.lst.injEq, DL.D.ptr.injEq, DL.D.bl.injEq, DL.dNever, Option.some.injEq, eq_self, reduceIte, kitB_ii, kitB_ib, reduceCtorEq, and_self, and_assoc, decide_eq_true_eq])
      refine ⟨h', "hands", 1, 8, rfl, h1, h2, ?_⟩
      (try simp only [DL.dRet, DL.dAsg, DL.dSeq, DL.dNext, DL.dIfS, DL.dDrop, DL.dName, DL.dVar, DL.dVarF, dC, DL.dCons, DL.dNil, DL.dOp, DL.dUn, DL.dTest, DL.dCB, DL.dTup, DL.dLst, DL.dLstM, DL.dgTup, DL.dgNil, DL.dgCons, DL.dAndV, DL.dOrV, DL.dNotV, DL.dAndT, DL.dOrT, DL.dNotT, DL.dIf, DL.dIsN, DL.dNotN, DL.isNon, DL.dCall, DL.dCallN, DL.dPar, DL.dPar3, DL.dFrz, DL.dSl, DL.dNoPart, DL.dPart, q_ixT, q_ixL, q_ixS, q_ixP, q_ixC, q_int, q_int0, q_addI, q_addS, q_addT, q_addL, q_mulI, q_mulL, q_mulM, q_lenS, q_lenT, q_lenL, q_lenX, q_lenP, q_intI, q_intB, q_eqI, q_eqS, q_eqB, q_neI, q_neS, q_neB, q_slT, q_slL, q_slX, q_slP, q_slS, DL.dIt_q, q_itL, q_itT, q_itX, DL.rAbs, DL.rMin2, DL.rMax2, DL.rTupOf, DL.rLstOf, DL.rLstOfM, DL.rIsiD, DL.Items, DL.ItemsL, DL.TyM, DL.dFor, DL.dRange1, DL.dRange2, DL.dEnum_q, q_enL, q_enT, q_enX, DL.dZip, DL.dBM, DL.dBM0, DL.TyD, DL.rAppendD, DL.rExtendD, DL.rPopD, DL.seqOf, DL.dDNewT, DL.dDNewK, DL.dLc, DL.dLcM, DL.dComp, DL.dYes, DL.dChain, DL.wipeR, DL.dTurns, DL.dgSubL, DL.startR, List.map_cons, List.map_nil, List.length_cons, List.length_nil, List.cons_append, List.nil_append, List.getElem?_cons_zero, List.getElem?_cons_succ, List.set_cons_zero, List.set_cons_succ, List.reduceReplicate, Nat.reduceAdd, Nat.reduceSub, Nat.zero_add, sz0, sz1, sz2, sz3, sz4, sz5, sz6, sz7, sz8, sz9, sz10, sz11, sz12, exists_eq_left, exists_eq_left', exists_eq_right, exists_and_left, exists_and_right, exists_const, exists_eq, List.cons.injEq, and_true, true_and, if_true, if_false, Bool.true_eq_false, Bool.false_eq_true, Bool.not_true, Bool.not_false, ite_true, ite_false, DL.D.int.injEq, DL.D.ty.injEq, DL.D.str.injEq, DL.D.tup.injEq, DL.D.lst.injEq, DL.D.ptr.injEq, DL.D.bl.injEq, DL.dNever, Option.some.injEq, eq_self, reduceIte, kitB_ii, kitB_ib, reduceCtorEq, and_self, and_assoc, decide_eq_true_eq])
      refine hx.it ?_
      refine DL.comp_map (fun y => .tup [y, .int 1]) (by rw [List.length_nil, List.length_map]; omega) (fun y hy R N hR => ?_) ?_
      · (try simp only [DL.dRet, DL.dAsg, DL.dSeq, DL.dNext, DL.dIfS, DL.dDrop, DL.dName, DL.dVar, DL.dVarF, dC, DL.dCons, DL.dNil, DL.dOp, DL.dUn, DL.dTest, DL.dCB, DL.dTup, DL.dLst, DL.dLstM, DL.dgTup, DL.dgNil, DL.dgCons, DL.dAndV, DL.dOrV, DL.dNotV, DL.dAndT, DL.dOrT, DL.dNotT, DL.dIf, DL.dIsN, DL.dNotN, DL.isNon, DL.dCall, DL.dCallN, DL.dPar, DL.dPar3, DL.dFrz, DL.dSl, DL.dNoPart, DL.dPart, q_ixT, q_ixL, q_ixS, q_ixP, q_ixC, q_int, q_int0, q_addI, q_addS, q_addT, q_addL, q_mulI, q_mulL, q_mulM, q_lenS, q_lenT, q_lenL, q_lenX, q_lenP, q_intI, q_intB, q_eqI, q_eqS, q_eqB, q_neI, q_neS, q_neB, q_slT, q_slL, q_slX, q_slP, q_slS, DL.dIt_q, q_itL, q_itT, q_itX, DL.rAbs, DL.rMin2, DL.rMax2, DL.rTupOf, DL.rLstOf, DL.rLstOfM, DL.rIsiD, DL.Items, DL.ItemsL, DL.TyM, DL.dFor, DL.dRange1, DL.dRange2, DL.dEnum_q, q_enL, q_enT, q_enX, DL.dZip, DL.dBM, DL.dBM0, DL.TyD, DL.rAppendD, DL.rExtendD, DL.rPopD, DL.seqOf, DL.dDNewT, DL.dDNewK, DL.dLc, DL.dLcM, DL.dComp, DL.dYes, DL.dChain, DL.wipeR, DL.dTurns, DL.dgSubL, DL.startR, List.map_cons, List.map_nil, List.length_cons, List.length_nil, List.cons_append, List.nil_append, List.getElem?_cons_zero, List.getElem?_cons_succ, List.set_cons_zero, List.set_cons_succ, List.reduceReplicate, Nat.reduceAdd, Nat.reduceSub, Nat.zero_add, sz0, sz1, sz2, sz3, sz4, sz5, sz6, sz7, sz8, sz9, sz10, sz11, sz12, exists_eq_left, exists_eq_left', exists_eq_right, exists_and_left, exists_and_right, exists_const, exists_eq, List.cons.injEq, and_true, true_and, if_true, if_false, Bool.true_eq_false, Bool.false_eq_true, Bool.not_true, Bool.not_false, ite_true, ite_false, DL.D.int.injEq, DL.D.ty.injEq, DL.D.str.injEq, DL.D.tup.injEq, DL.D.lst.injEq, DL.D.ptr.injEq, DL.D.bl.injEq, DL.dNever, Option.some.injEq, eq_self, reduceIte, kitB_ii, kitB_ib, reduceCtorEq, and_self, and_assoc, decide_eq_true_eq])
        exact hR
      · refine rtW_of ?_
        rw [List.nil_append, List.map_map]
        exact h
    ⟩
def sp_planned : DSp := fun ds M Q _ => ∃ (fs : List Int) (h t : Int), ds = [.tup (fs.map fun f => .tup [.int f, .int 1]), .int h, .int t] ∧ fs.length ≤ 40 ∧ (∀ f ∈ fs, 1 ≤ f ∧ f ≤ 1000000) ∧ 1 ≤ h ∧ h ≤ 8 ∧ 0 ≤ t ∧ t ≤ 2000 ∧
  Q (.tup (rowsD fs h.toNat t.toNat)) M
theorem ok_planned (T : Txt K mg) : FnOk P w K mg base CX0 1 T.a_planned T.fd_planned ["lot", "hands", "ticks"] (toSp K sp_planned) :=
  fun_ok T.F_planned sc_planned (fun ds M Q E h => (by obtain ⟨fs, h, t, rfl, _⟩ := h; rfl)) fun cdv A outer s H E hr => ⟨_, (dss_cons (ds_asg (de_tup (da_cons (de_lcM [("_", 5)] rfl sc_planned.nd (di_seq (de_var 0)) (blkOk_by (own := [("_", 5)]) (N := N_planned) (sc := defScope s_planned) (by decide +kernel)) (by decide) (fun _ _ _ _ _ => (dg_name (i := 5) sc_planned.nd rfl (by first | exact .inl rfl | exact .inr rfl))) (fun _ _ _ _ _ => dts_nil) (fun _ _ _ _ _ => de_int)) (da_cons (de_lstM da_nil) da_nil))) (dg_tup (n := 2) rfl (dgs_cons (dg_name (i := 3) sc_planned.nd rfl (by first | exact .inl rfl | exact .inr rfl)) (dgs_cons (dg_name (i := 4) sc_planned.nd rfl (by first | exact .inl rfl | exact .inr rfl)) dgs_nil)))) (dss_cons (ds_for PassesOwn.never rfl (di_range1 T.n_range (da_cons (de_var 2) da_nil)) (dg_name (i := 5) sc_planned.nd rfl (by first | exact .inl rfl | exact .inr rfl)) (dss_cons (ds_set (i := 6) sc_planned.nd rfl (by first | exact .inl rfl | exact .inr rfl) (de_callB cr_sortPV ref_sortP T.n_sorted bt_sorted (da_cons (de_lc [("at", 8), ("factor", 9), ("_", 5)] rfl sc_planned.nd (di_enum T.n_enumerate (da_cons (de_var 0) da_nil)) (blkOk_by (own := [("at", 8), ("factor", 9), ("_", 5)]) (N := N_planned) (sc := defScope s_planned) (by decide +kernel)) (by decide) (fun _ _ _ _ _ => (dg_tup (n := 2) rfl (dgs_cons (dg_name (i := 8) sc_planned.nd rfl (by first | exact .inl rfl | exact .inr rfl)) (dgs_cons (dg_tup (n := 2) rfl (dgs_cons (dg_name (i := 9) sc_planned.nd rfl (by first | exact .inl rfl | exact .inr rfl)) (dgs_cons (dg_name (i := 5) sc_planned.nd rfl (by first | exact .inl rfl | exact .inr rfl)) dgs_nil))) dgs_nil)))) (fun _ _ _ _ _ => dts_nil) (fun _ _ _ _ _ => (de_tup (da_cons (de_mul (de_add (de_ix (de_var 3) (de_var 8)) de_int) (de_var 9)) (da_cons (de_var 8) da_nil))))) da_nil))) (dss_cons (ds_set (i := 7) sc_planned.nd rfl (by first | exact .inl rfl | exact .inr rfl) (de_callB cr_sortedI ref_sortI T.n_sorted bt_sorted (da_cons (de_lc [("_", 5), ("at", 8)] rfl sc_planned.nd (di_seq (de_slice (de_var 6) do_none (do_some (de_var 1)))) (blkOk_by (own := [("_", 5), ("at", 8)]) (N := N_planned) (sc := defScope s_planned) (by decide +kernel)) (by decide) (fun _ _ _ _ _ => (dg_tup (n := 2) rfl (dgs_cons (dg_name (i := 5) sc_planned.nd rfl (by first | exact .inl rfl | exact .inr rfl)) (dgs_cons (dg_name (i := 8) sc_planned.nd rfl (by first | exact .inl rfl | exact .inr rfl)) dgs_nil)))) (fun _ _ _ _ _ => dts_nil) (fun _ _ _ _ _ => (de_var 8))) da_nil))) (dss_cons (ds_for PassesOwn.never rfl (di_seq (de_var 7)) (dg_name (i := 8) sc_planned.nd rfl (by first | exact .inl rfl | exact .inr rfl)) (dss_one (ds_asg (de_add (de_ix (de_var 3) (de_var 8)) de_int) (dg_subL (de_var 3) (de_var 8))))) (dss_one (ds_expr (de_bm PySem.F.plainAttrs_list PySem.F.slot_list_append PySem.F.type_list_append mt_append ref_append (de_var 4) (da_cons (de_callTy call_tuple_of ref_tupOf T.n_tuple bt_tuple (da_cons (de_var 7) da_nil)) da_nil)))))))) (dss_one (ds_ret (de_callTy call_tuple_of ref_tupOf T.n_tuple bt_tuple (da_cons (de_var 4) da_nil)))))), fun ds M Q E' h => by
    obtain ⟨fs, h', t, rfl, hl, hf, h1, h2, t0, t1, h⟩ := h
    have hz : (2000 : Nat) < sizeLine := by decide
    obtain ⟨n, rfl⟩ := Int.eq_ofNat_of_zero_le (by omega : 0 ≤ h')
    obtain ⟨m, rfl⟩ := Int.eq_ofNat_of_zero_le t0
    simp only [Int.toNat_natCast] at h
    refine seq_i fun K1 hK1 => ?_
    (try simp only [DL.dRet, DL.dAsg, DL.dSeq, DL.dNext, DL.dIfS, DL.dDrop, DL.dName, DL.dVar, DL.dVarF, dC, DL.dCons, DL.dNil, DL.dOp, DL.dUn, DL.dTest, DL.dCB, DL.dTup, DL.dLst, DL.dLstM, DL.dgTup, DL.dgNil, DL.dgCons, DL.dAndV, DL.dOrV, DL.dNotV, DL.dAndT, DL.dOrT, DL.dNotT, DL.dIf, DL.dIsN, DL.dNotN, DL.isNon, DL.dCall, DL.dCallN, DL.dPar, DL.dPar3, DL.dFrz, DL.dSl, DL.dNoPart, DL.dPart, q_ixT, q_ixL, q_ixS, q_ixP, q_ixC, q_int, q_int0, q_addI, q_addS, q_addT, q_addL, q_mulI, q_mulL, q_mulM, q_lenS, q_lenT, q_lenL, q_lenX, q_lenP, q_intI, q_intB, q_eqI, q_eqS, q_eqB, q_neI, q_neS, q_neB, q_slT, q_slL, q_slX, q_slP, q_slS, DL.dIt_q, q_itL, q_itT, q_itX, DL.rAbs, DL.rMin2, DL.rMax2, DL.rTupOf, DL.rLstOf, DL.rLstOfM, DL.rIsiD, DL.Items, DL.ItemsL, DL.TyM, DL.dFor, DL.dRange1, DL.dRange2, DL.dEnum_q, q_enL, q_enT, q_enX, DL.dZip, DL.dBM, DL.dBM0, DL.TyD, DL.rAppendD, DL.rExtendD, DL.rPopD, DL.seqOf, DL.dDNewT, DL.dDNewK, DL.dLc, DL.dLcM, DL.dComp, DL.dYes, DL.dChain, DL.wipeR, DL.dTurns, DL.dgSubL, DL.startR, List.map_cons, List.map_nil, List.length_cons, List.length_nil, List.cons_append, List.nil_append, List.getElem?_cons_zero, List.getElem?_cons_succ, List.set_cons_zero, List.set_cons_succ, List.reduceReplicate, Nat.reduceAdd, Nat.reduceSub, Nat.zero_add, sz0, sz1, sz2, sz3, sz4, sz5, sz6, sz7, sz8, sz9, sz10, sz11, sz12, exists_eq_left, exists_eq_left', exists_eq_right, exists_and_left, exists_and_right, exists_const, exists_eq, List.cons.injEq, and_true, true_and, if_true, if_false, Bool.true_eq_false, Bool.false_eq_true, Bool.not_true, Bool.not_false, ite_true, ite_false, DL.D.int.injEq, DL.D.ty.injEq, DL.D.str.injEq, DL.D.tup.injEq, DL.D.lst.injEq, DL.D.ptr.injEq, DL.D.bl.injEq, DL.dNever, Option.some.injEq, eq_self, reduceIte, kitB_ii, kitB_ib, reduceCtorEq, and_self, and_assoc, decide_eq_true_eq])
    refine DL.comp_map (fun _ => .int 0) (by rw [List.length_nil, List.length_map]; omega) (fun y hy R N hR => ?_) ?_
    · (try simp only [DL.dRet, DL.dAsg, DL.dSeq, DL.dNext, DL.dIfS, DL.dDrop, DL.dName, DL.dVar, DL.dVarF, dC, DL.dCons, DL.dNil, DL.dOp, DL.dUn, DL.dTest, DL.dCB, DL.dTup, DL.dLst, DL.dLstM, DL.dgTup, DL.dgNil, DL.dgCons, DL.dAndV, DL.dOrV, DL.dNotV, DL.dAndT, DL.dOrT, DL.dNotT, DL.dIf, DL.dIsN, DL.dNotN, DL.isNon, DL.dCall, DL.dCallN, DL.dPar, DL.dPar3, DL.dFrz, DL.dSl, DL.dNoPart, DL.dPart, q_ixT, q_ixL, q_ixS, q_ixP, q_ixC, q_int, q_int0, q_addI, q_addS, q_addT, q_addL, q_mulI, q_mulL, q_mulM, q_lenS, q_lenT, q_lenL, q_lenX, q_lenP, q_intI, q_intB, q_eqI, q_eqS, q_eqB, q_neI, q_neS, q_neB, q_slT, q_slL, q_slX, q_slP, q_slS, DL.dIt_q, q_itL, q_itT, q_itX, DL.rAbs, DL.rMin2, DL.rMax2, DL.rTupOf, DL.rLstOf, DL.rLstOfM, DL.rIsiD, DL.Items, DL.ItemsL, DL.TyM, DL.dFor, DL.dRange1, DL.dRange2, DL.dEnum_q, q_enL, q_enT, q_enX, DL.dZip, DL.dBM, DL.dBM0, DL.TyD, DL.rAppendD, DL.rExtendD, DL.rPopD, DL.seqOf, DL.dDNewT, DL.dDNewK, DL.dLc, DL.dLcM, DL.dComp, DL.dYes, DL.dChain, DL.wipeR, DL.dTurns, DL.dgSubL, DL.startR, List.map_cons, List.map_nil, List.length_cons, List.length_nil, List.cons_append, List.nil_append, List.getElem?_cons_zero, List.getElem?_cons_succ, List.set_cons_zero, List.set_cons_succ, List.reduceReplicate, Nat.reduceAdd, Nat.reduceSub, Nat.zero_add, sz0, sz1, sz2, sz3, sz4, sz5, sz6, sz7, sz8, sz9, sz10, sz11, sz12, exists_eq_left, exists_eq_left', exists_eq_right, exists_and_left, exists_and_right, exists_const, exists_eq, List.cons.injEq, and_true, true_and, if_true, if_false, Bool.true_eq_false, Bool.false_eq_true, Bool.not_true, Bool.not_false, ite_true, ite_false, DL.D.int.injEq, DL.D.ty.injEq, DL.D.str.injEq, DL.D.tup.injEq, DL.D.lst.injEq, DL.D.ptr.injEq, DL.D.bl.injEq, DL.dNever, Option.some.injEq, eq_self, reduceIte, kitB_ii, kitB_ib, reduceCtorEq, and_self, and_assoc, decide_eq_true_eq])
      exact hR
    rw [List.nil_append, List.map_map]
    intro pm
    (try simp only [DL.dRet, DL.dAsg, DL.dSeq, DL.dNext, DL.dIfS, DL.dDrop, DL.dName, DL.dVar, DL.dVarF, dC, DL.dCons, DL.dNil, DL.dOp, DL.dUn, DL.dTest, DL.dCB, DL.dTup, DL.dLst, DL.dLstM, DL.dgTup, DL.dgNil, DL.dgCons, DL.dAndV, DL.dOrV, DL.dNotV, DL.dAndT, DL.dOrT, DL.dNotT, DL.dIf, DL.dIsN, DL.dNotN, DL.isNon, DL.dCall, DL.dCallN, DL.dPar, DL.dPar3, DL.dFrz, DL.dSl, DL.dNoPart, DL.dPart, q_ixT, q_ixL, q_ixS, q_ixP, q_ixC, q_int, q_int0, q_addI, q_addS, q_addT, q_addL, q_mulI, q_mulL, q_mulM, q_lenS, q_lenT, q_lenL, q_lenX, q_lenP, q_intI, q_intB, q_eqI, q_eqS, q_eqB, q_neI, q_neS, q_neB, q_slT, q_slL, q_slX, q_slP, q_slS, DL.dIt_q, q_itL, q_itT, q_itX, DL.rAbs, DL.rMin2, DL.rMax2, DL.rTupOf, DL.rLstOf, DL.rLstOfM, DL.rIsiD, DL.Items, DL.ItemsL, DL.TyM, DL.dFor, DL.dRange1, DL.dRange2, DL.dEnum_q, q_enL, q_enT, q_enX, DL.dZip, DL.dBM, DL.dBM0, DL.TyD, DL.rAppendD, DL.rExtendD, DL.rPopD, DL.seqOf, DL.dDNewT, DL.dDNewK, DL.dLc, DL.dLcM, DL.dComp, DL.dYes, DL.dChain, DL.wipeR, DL.dTurns, DL.dgSubL, DL.startR, List.map_cons, List.map_nil, List.length_cons, List.length_nil, List.cons_append, List.nil_append, List.getElem?_cons_zero, List.getElem?_cons_succ, List.set_cons_zero, List.set_cons_succ, List.reduceReplicate, Nat.reduceAdd, Nat.reduceSub, Nat.zero_add, sz0, sz1, sz2, sz3, sz4, sz5, sz6, sz7, sz8, sz9, sz10, sz11, sz12, exists_eq_left, exists_eq_left', exists_eq_right, exists_and_left, exists_and_right, exists_const, exists_eq, List.cons.injEq, and_true, true_and, if_true, if_false, Bool.true_eq_false, Bool.false_eq_true, Bool.not_true, Bool.not_false, ite_true, ite_false, DL.D.int.injEq, DL.D.ty.injEq, DL.D.str.injEq, DL.D.tup.injEq, DL.D.lst.injEq, DL.D.ptr.injEq, DL.D.bl.injEq, DL.dNever, Option.some.injEq, eq_self, reduceIte, kitB_ii, kitB_ib, reduceCtorEq, and_self, and_assoc, decide_eq_true_eq])
    intro pf
    (try simp only [DL.dRet, DL.dAsg, DL.dSeq, DL.dNext, DL.dIfS, DL.dDrop, DL.dName, DL.dVar, DL.dVarF, dC, DL.dCons, DL.dNil, DL.dOp, DL.dUn, DL.dTest, DL.dCB, DL.dTup, DL.dLst, DL.dLstM, DL.dgTup, DL.dgNil, DL.dgCons, DL.dAndV, DL.dOrV, DL.dNotV, DL.dAndT, DL.dOrT, DL.dNotT, DL.dIf, DL.dIsN, DL.dNotN, DL.isNon, DL.dCall, DL.dCallN, DL.dPar, DL.dPar3, DL.dFrz, DL.dSl, DL.dNoPart, DL.dPart, q_ixT, q_ixL, q_ixS, q_ixP, q_ixC, q_int, q_int0, q_addI, q_addS, q_addT, q_addL, q_mulI, q_mulL, q_mulM, q_lenS, q_lenT, q_lenL, q_lenX, q_lenP, q_intI, q_intB, q_eqI, q_eqS, q_eqB, q_neI, q_neS, q_neB, q_slT, q_slL, q_slX, q_slP, q_slS, DL.dIt_q, q_itL, q_itT, q_itX, DL.rAbs, DL.rMin2, DL.rMax2, DL.rTupOf, DL.rLstOf, DL.rLstOfM, DL.rIsiD, DL.Items, DL.ItemsL, DL.TyM, DL.dFor, DL.dRange1, DL.dRange2, DL.dEnum_q, q_enL, q_enT, q_enX, DL.dZip, DL.dBM, DL.dBM0, DL.TyD, DL.rAppendD, DL.rExtendD, DL.rPopD, DL.seqOf, DL.dDNewT, DL.dDNewK, DL.dLc, DL.dLcM, DL.dComp, DL.dYes, DL.dChain, DL.wipeR, DL.dTurns, DL.dgSubL, DL.startR, List.map_cons, List.map_nil, List.length_cons, List.length_nil, List.cons_append, List.nil_append, List.getElem?_cons_zero, List.getElem?_cons_succ, List.set_cons_zero, List.set_cons_succ, List.reduceReplicate, Nat.reduceAdd, Nat.reduceSub, Nat.zero_add, sz0, sz1, sz2, sz3, sz4, sz5, sz6, sz7, sz8, sz9, sz10, sz11, sz12, exists_eq_left, exists_eq_left', exists_eq_right, exists_and_left, exists_and_right, exists_const, exists_eq, List.cons.injEq, and_true, true_and, if_true, if_false, Bool.true_eq_false, Bool.false_eq_true, Bool.not_true, Bool.not_false, ite_true, ite_false, DL.D.int.injEq, DL.D.ty.injEq, DL.D.str.injEq, DL.D.tup.injEq, DL.D.lst.injEq, DL.D.ptr.injEq, DL.D.bl.injEq, DL.dNever, Option.some.injEq, eq_self, reduceIte, kitB_ii, kitB_ib, reduceCtorEq, and_self, and_assoc, decide_eq_true_eq])
    subst hK1
    refine seq_i fun K1 hK1 => ?_
    (try simp only [DL.dRet, DL.dAsg, DL.dSeq, DL.dNext, DL.dIfS, DL.dDrop, DL.dName, DL.dVar, DL.dVarF, dC, DL.dCons, DL.dNil, DL.dOp, DL.dUn, DL.dTest, DL.dCB, DL.dTup, DL.dLst, DL.dLstM, DL.dgTup, DL.dgNil, DL.dgCons, DL.dAndV, DL.dOrV, DL.dNotV, DL.dAndT, DL.dOrT, DL.dNotT, DL.dIf, DL.dIsN, DL.dNotN, DL.isNon, DL.dCall, DL.dCallN, DL.dPar, DL.dPar3, DL.dFrz, DL.dSl, DL.dNoPart, DL.dPart, q_ixT, q_ixL, q_ixS, q_ixP, q_ixC, q_int, q_int0, q_addI, q_addS, q_addT, q_addL, q_mulI, q_mulL, q_mulM, q_lenS, q_lenT, q_lenL, q_lenX, q_lenP, q_intI, q_intB, q_eqI, q_eqS, q_eqB, q_neI, q_neS, q_neB, q_slT, q_slL, q_slX, q_slP, q_slS, DL.dIt_q, q_itL, q_itT, q_itX, DL.rAbs, DL.rMin2, DL.rMax2, DL.rTupOf, DL.rLstOf, DL.rLstOfM, DL.rIsiD, DL.Items, DL.ItemsL, DL.TyM, DL.dFor, DL.dRange1, DL.dRange2, DL.dEnum_q, q_enL, q_enT, q_enX, DL.dZip, DL.dBM, DL.dBM0, DL.TyD, DL.rAppendD, DL.rExtendD, DL.rPopD, DL.seqOf, DL.dDNewT, DL.dDNewK, DL.dLc, DL.dLcM, DL.dComp, DL.dYes, DL.dChain, DL.wipeR, DL.dTurns, DL.dgSubL, DL.startR, List.map_cons, List.map_nil, List.length_cons, List.length_nil, List.cons_append, List.nil_append, List.getElem?_cons_zero, List.getElem?_cons_succ, List.set_cons_zero, List.set_cons_succ, List.reduceReplicate, Nat.reduceAdd, Nat.reduceSub, Nat.zero_add, sz0, sz1, sz2, sz3, sz4, sz5, sz6, sz7, sz8, sz9, sz10, sz11, sz12, exists_eq_left, exists_eq_left', exists_eq_right, exists_and_left, exists_and_right, exists_const, exists_eq, List.cons.injEq, and_true, true_and, if_true, if_false, Bool.true_eq_false, Bool.false_eq_true, Bool.not_true, Bool.not_false, ite_true, ite_false, DL.D.int.injEq, DL.D.ty.injEq, DL.D.str.injEq, DL.D.tup.injEq, DL.D.lst.injEq, DL.D.ptr.injEq, DL.D.bl.injEq, DL.dNever, Option.some.injEq, eq_self, reduceIte, kitB_ii, kitB_ib, reduceCtorEq, and_self, and_assoc, decide_eq_true_eq])
    refine ⟨by omega, by omega, ?_⟩
    refine dTurns_inv (fun i ρ M' => ∃ d5 d6 d7 d8 d9, ρ = [some (.tup (fs.map fun f => .tup [.int f, .int 1])), some (.int n), some (.int m), some (.ptr pm), some (.ptr pf), d5, d6, d7, d8, d9] ∧
      M' = (pf, .lst (rowsD fs n i)) :: (pm, .lst ((madeN fs n i).map D.int)) :: M) ?_ ?_ ?_
    · refine ⟨_, _, _, _, _, rfl, ?_⟩
      unfold madeN rowsD
      rw [List.map_map]
      rfl
    · intro i x ρ M' hx hW N hN
      obtain ⟨d5, d6, d7, d8, d9, rfl, rfl⟩ := hW
      have hi : i < m := by
        have := (List.getElem?_eq_some_iff.mp hx).1
        rw [rangeD_len] at this
        simpa using this
      have hml := madeN_len fs n i
      refine seq_i fun K2 hK2 => ?_
      (try simp only [DL.dRet, DL.dAsg, DL.dSeq, DL.dNext, DL.dIfS, DL.dDrop, DL.dName, DL.dVar, DL.dVarF, dC, DL.dCons, DL.dNil, DL.dOp, DL.dUn, DL.dTest, DL.dCB, DL.dTup, DL.dLst, DL.dLstM, DL.dgTup, DL.dgNil, DL.dgCons, DL.dAndV, DL.dOrV, DL.dNotV, DL.dAndT, DL.dOrT, DL.dNotT, DL.dIf, DL.dIsN, DL.dNotN, DL.isNon, DL.dCall, DL.dCallN, DL.dPar, DL.dPar3, DL.dFrz, DL.dSl, DL.dNoPart, DL.dPart, q_ixT, q_ixL, q_ixS, q_ixP, q_ixC, q_int, q_int0, q_addI, q_addS, q_addT, q_addL, q_mulI, q_mulL, q_mulM, q_lenS, q_lenT, q_lenL, q_lenX, q_lenP, q_intI, q_intB, q_eqI, q_eqS, q_eqB, q_neI, q_neS, q_neB, q_slT, q_slL, q_slX, q_slP, q_slS, DL.dIt_q, q_itL, q_itT, q_itX, DL.rAbs, DL.rMin2, DL.rMax2, DL.rTupOf, DL.rLstOf, DL.rLstOfM, DL.rIsiD, DL.Items, DL.ItemsL, DL.TyM, DL.dFor, DL.dRange1, DL.dRange2, DL.dEnum_q, q_enL, q_enT, q_enX, DL.dZip, DL.dBM, DL.dBM0, DL.TyD, DL.rAppendD, DL.rExtendD, DL.rPopD, DL.seqOf, DL.dDNewT, DL.dDNewK, DL.dLc, DL.dLcM, DL.dComp, DL.dYes, DL.dChain, DL.wipeR, DL.dTurns, DL.dgSubL, DL.startR, List.map_cons, List.map_nil, List.length_cons, List.length_nil, List.cons_append, List.nil_append, List.getElem?_cons_zero, List.getElem?_cons_succ, List.set_cons_zero, List.set_cons_succ, List.reduceReplicate, Nat.reduceAdd, Nat.reduceSub, Nat.zero_add, sz0, sz1, sz2, sz3, sz4, sz5, sz6, sz7, sz8, sz9, sz10, sz11, sz12, exists_eq_left, exists_eq_left', exists_eq_right, exists_and_left, exists_and_right, exists_const, exists_eq, List.cons.injEq, and_true, true_and, if_true, if_false, Bool.true_eq_false, Bool.false_eq_true, Bool.not_true, Bool.not_false, ite_true, ite_false, DL.D.int.injEq, DL.D.ty.injEq, DL.D.str.injEq, DL.D.tup.injEq, DL.D.lst.injEq, DL.D.ptr.injEq, DL.D.bl.injEq, DL.dNever, Option.some.injEq, eq_self, reduceIte, kitB_ii, kitB_ib, reduceCtorEq, and_self, and_assoc, decide_eq_true_eq])
      refine comp_to ((duesOf fs (madeN fs n i)).map prD) (by rw [List.length_map, dues_len, enumD_len, List.length_map]) (by rw [enumD_len, List.length_map]; omega) (fun k y z hy hz' R N' hR => ?_) ?_
      · obtain ⟨f, hf', rfl⟩ : ∃ f, fs[k]? = some f ∧ y = .tup [.int (k : Nat), .tup [.int f, .int 1]] := by
          rw [enumD_get, List.getElem?_map] at hy
          cases e : fs[k]? with
          | none => rw [e] at hy; cases hy
          | some f => rw [e] at hy; exact ⟨f, rfl, (Option.some.inj hy).symm⟩
        have hk := (List.getElem?_eq_some_iff.mp hf').1
        have hfm := hf f (List.mem_of_getElem? hf')
        rw [List.getElem?_map, dues_get hf'] at hz'
        cases hz'
        (try simp only [DL.dRet, DL.dAsg, DL.dSeq, DL.dNext, DL.dIfS, DL.dDrop, DL.dName, DL.dVar, DL.dVarF, dC, DL.dCons, DL.dNil, DL.dOp, DL.dUn, DL.dTest, DL.dCB, DL.dTup, DL.dLst, DL.dLstM, DL.dgTup, DL.dgNil, DL.dgCons, DL.dAndV, DL.dOrV, DL.dNotV, DL.dAndT, DL.dOrT, DL.dNotT, DL.dIf, DL.dIsN, DL.dNotN, DL.isNon, DL.dCall, DL.dCallN, DL.dPar, DL.dPar3, DL.dFrz, DL.dSl, DL.dNoPart, DL.dPart, q_ixT, q_ixL, q_ixS, q_ixP, q_ixC, q_int, q_int0, q_addI, q_addS, q_addT, q_addL, q_mulI, q_mulL, q_mulM, q_lenS, q_lenT, q_lenL, q_lenX, q_lenP, q_intI, q_intB, q_eqI, q_eqS, q_eqB, q_neI, q_neS, q_neB, q_slT, q_slL, q_slX, q_slP, q_slS, DL.dIt_q, q_itL, q_itT, q_itX, DL.rAbs, DL.rMin2, DL.rMax2, DL.rTupOf, DL.rLstOf, DL.rLstOfM, DL.rIsiD, DL.Items, DL.ItemsL, DL.TyM, DL.dFor, DL.dRange1, DL.dRange2, DL.dEnum_q, q_enL, q_enT, q_enX, DL.dZip, DL.dBM, DL.dBM0, DL.TyD, DL.rAppendD, DL.rExtendD, DL.rPopD, DL.seqOf, DL.dDNewT, DL.dDNewK, DL.dLc, DL.dLcM, DL.dComp, DL.dYes, DL.dChain, DL.wipeR, DL.dTurns, DL.dgSubL, DL.startR, List.map_cons, List.map_nil, List.length_cons, List.length_nil, List.cons_append, List.nil_append, List.getElem?_cons_zero, List.getElem?_cons_succ, List.set_cons_zero, List.set_cons_succ, List.reduceReplicate, Nat.reduceAdd, Nat.reduceSub, Nat.zero_add, sz0, sz1, sz2, sz3, sz4, sz5, sz6, sz7, sz8, sz9, sz10, sz11, sz12, exists_eq_left, exists_eq_left', exists_eq_right, exists_and_left, exists_and_right, exists_const, exists_eq, List.cons.injEq, and_true, true_and, if_true, if_false, Bool.true_eq_false, Bool.false_eq_true, Bool.not_true, Bool.not_false, ite_true, ite_false, DL.D.int.injEq, DL.D.ty.injEq, DL.D.str.injEq, DL.D.tup.injEq, DL.D.lst.injEq, DL.D.ptr.injEq, DL.D.bl.injEq, DL.dNever, Option.some.injEq, eq_self, reduceIte, kitB_ii, kitB_ib, reduceCtorEq, and_self, and_assoc, decide_eq_true_eq])
        refine ⟨_, .tail _ (.head _), _, at_d (j := k) (by rw [List.getElem?_map, getD_get (by omega)]; rfl) rfl, ?_⟩
        (try simp only [DL.dRet, DL.dAsg, DL.dSeq, DL.dNext, DL.dIfS, DL.dDrop, DL.dName, DL.dVar, DL.dVarF, dC, DL.dCons, DL.dNil, DL.dOp, DL.dUn, DL.dTest, DL.dCB, DL.dTup, DL.dLst, DL.dLstM, DL.dgTup, DL.dgNil, DL.dgCons, DL.dAndV, DL.dOrV, DL.dNotV, DL.dAndT, DL.dOrT, DL.dNotT, DL.dIf, DL.dIsN, DL.dNotN, DL.isNon, DL.dCall, DL.dCallN, DL.dPar, DL.dPar3, DL.dFrz, DL.dSl, DL.dNoPart, DL.dPart, q_ixT, q_ixL, q_ixS, q_ixP, q_ixC, q_int, q_int0, q_addI, q_addS, q_addT, q_addL, q_mulI, q_mulL, q_mulM, q_lenS, q_lenT, q_lenL, q_lenX, q_lenP, q_intI, q_intB, q_eqI, q_eqS, q_eqB, q_neI, q_neS, q_neB, q_slT, q_slL, q_slX, q_slP, q_slS, DL.dIt_q, q_itL, q_itT, q_itX, DL.rAbs, DL.rMin2, DL.rMax2, DL.rTupOf, DL.rLstOf, DL.rLstOfM, DL.rIsiD, DL.Items, DL.ItemsL, DL.TyM, DL.dFor, DL.dRange1, DL.dRange2, DL.dEnum_q, q_enL, q_enT, q_enX, DL.dZip, DL.dBM, DL.dBM0, DL.TyD, DL.rAppendD, DL.rExtendD, DL.rPopD, DL.seqOf, DL.dDNewT, DL.dDNewK, DL.dLc, DL.dLcM, DL.dComp, DL.dYes, DL.dChain, DL.wipeR, DL.dTurns, DL.dgSubL, DL.startR, List.map_cons, List.map_nil, List.length_cons, List.length_nil, List.cons_append, List.nil_append, List.getElem?_cons_zero, List.getElem?_cons_succ, List.set_cons_zero, List.set_cons_succ, List.reduceReplicate, Nat.reduceAdd, Nat.reduceSub, Nat.zero_add, sz0, sz1, sz2, sz3, sz4, sz5, sz6, sz7, sz8, sz9, sz10, sz11, sz12, exists_eq_left, exists_eq_left', exists_eq_right, exists_and_left, exists_and_right, exists_const, exists_eq, List.cons.injEq, and_true, true_and, if_true, if_false, Bool.true_eq_false, Bool.false_eq_true, Bool.not_true, Bool.not_false, ite_true, ite_false, DL.D.int.injEq, DL.D.ty.injEq, DL.D.str.injEq, DL.D.tup.injEq, DL.D.lst.injEq, DL.D.ptr.injEq, DL.D.bl.injEq, DL.dNever, Option.some.injEq, eq_self, reduceIte, kitB_ii, kitB_ib, reduceCtorEq, and_self, and_assoc, decide_eq_true_eq])
        exact ⟨mul_small (.inr ⟨by omega, by omega⟩), hR⟩
      refine sortP_q rfl (fun ps' hp hs => ?_)
      have hps := srtP_eq hp hs
      subst hps
      subst hK2
      refine seq_i fun K2 hK2 => ?_
      (try simp only [DL.dRet, DL.dAsg, DL.dSeq, DL.dNext, DL.dIfS, DL.dDrop, DL.dName, DL.dVar, DL.dVarF, dC, DL.dCons, DL.dNil, DL.dOp, DL.dUn, DL.dTest, DL.dCB, DL.dTup, DL.dLst, DL.dLstM, DL.dgTup, DL.dgNil, DL.dgCons, DL.dAndV, DL.dOrV, DL.dNotV, DL.dAndT, DL.dOrT, DL.dNotT, DL.dIf, DL.dIsN, DL.dNotN, DL.isNon, DL.dCall, DL.dCallN, DL.dPar, DL.dPar3, DL.dFrz, DL.dSl, DL.dNoPart, DL.dPart, q_ixT, q_ixL, q_ixS, q_ixP, q_ixC, q_int, q_int0, q_addI, q_addS, q_addT, q_addL, q_mulI, q_mulL, q_mulM, q_lenS, q_lenT, q_lenL, q_lenX, q_lenP, q_intI, q_intB, q_eqI, q_eqS, q_eqB, q_neI, q_neS, q_neB, q_slT, q_slL, q_slX, q_slP, q_slS, DL.dIt_q, q_itL, q_itT, q_itX, DL.rAbs, DL.rMin2, DL.rMax2, DL.rTupOf, DL.rLstOf, DL.rLstOfM, DL.rIsiD, DL.Items, DL.ItemsL, DL.TyM, DL.dFor, DL.dRange1, DL.dRange2, DL.dEnum_q, q_enL, q_enT, q_enX, DL.dZip, DL.dBM, DL.dBM0, DL.TyD, DL.rAppendD, DL.rExtendD, DL.rPopD, DL.seqOf, DL.dDNewT, DL.dDNewK, DL.dLc, DL.dLcM, DL.dComp, DL.dYes, DL.dChain, DL.wipeR, DL.dTurns, DL.dgSubL, DL.startR, List.map_cons, List.map_nil, List.length_cons, List.length_nil, List.cons_append, List.nil_append, List.getElem?_cons_zero, List.getElem?_cons_succ, List.set_cons_zero, List.set_cons_succ, List.reduceReplicate, Nat.reduceAdd, Nat.reduceSub, Nat.zero_add, sz0, sz1, sz2, sz3, sz4, sz5, sz6, sz7, sz8, sz9, sz10, sz11, sz12, exists_eq_left, exists_eq_left', exists_eq_right, exists_and_left, exists_and_right, exists_const, exists_eq, List.cons.injEq, and_true, true_and, if_true, if_false, Bool.true_eq_false, Bool.false_eq_true, Bool.not_true, Bool.not_false, ite_true, ite_false, DL.D.int.injEq, DL.D.ty.injEq, DL.D.str.injEq, DL.D.tup.injEq, DL.D.lst.injEq, DL.D.ptr.injEq, DL.D.bl.injEq, DL.dNever, Option.some.injEq, eq_self, reduceIte, kitB_ii, kitB_ib, reduceCtorEq, and_self, and_assoc, decide_eq_true_eq])
      rw [cutD_take, ← List.map_take]
      refine comp_to (((ordOf fs (madeN fs n i)).take n).map D.int) (by unfold ordOf; rw [← List.map_take, List.length_map, List.length_map, List.length_map]) (by rw [List.length_map, List.length_take]; omega) (fun k y z hy hz' R N' hR => ?_) ?_
      · rw [List.getElem?_map] at hy
        cases e : ((srtP (duesOf fs (madeN fs n i))).take n)[k]? with
        | none => rw [e] at hy; cases hy
        | some pr =>
          rw [e] at hy
          unfold ordOf at hz'
          rw [← List.map_take, List.getElem?_map, List.getElem?_map, e] at hz'
          cases hy
          cases hz'
          (try simp only [DL.dRet, DL.dAsg, DL.dSeq, DL.dNext, DL.dIfS, DL.dDrop, DL.dName, DL.dVar, DL.dVarF, dC, DL.dCons, DL.dNil, DL.dOp, DL.dUn, DL.dTest, DL.dCB, DL.dTup, DL.dLst, DL.dLstM, DL.dgTup, DL.dgNil, DL.dgCons, DL.dAndV, DL.dOrV, DL.dNotV, DL.dAndT, DL.dOrT, DL.dNotT, DL.dIf, DL.dIsN, DL.dNotN, DL.isNon, DL.dCall, DL.dCallN, DL.dPar, DL.dPar3, DL.dFrz, DL.dSl, DL.dNoPart, DL.dPart, q_ixT, q_ixL, q_ixS, q_ixP, q_ixC, q_int, q_int0, q_addI, q_addS, q_addT, q_addL, q_mulI, q_mulL, q_mulM, q_lenS, q_lenT, q_lenL, q_lenX, q_lenP, q_intI, q_intB, q_eqI, q_eqS, q_eqB, q_neI, q_neS, q_neB, q_slT, q_slL, q_slX, q_slP, q_slS, DL.dIt_q, q_itL, q_itT, q_itX, DL.rAbs, DL.rMin2, DL.rMax2, DL.rTupOf, DL.rLstOf, DL.rLstOfM, DL.rIsiD, DL.Items, DL.ItemsL, DL.TyM, DL.dFor, DL.dRange1, DL.dRange2, DL.dEnum_q, q_enL, q_enT, q_enX, DL.dZip, DL.dBM, DL.dBM0, DL.TyD, DL.rAppendD, DL.rExtendD, DL.rPopD, DL.seqOf, DL.dDNewT, DL.dDNewK, DL.dLc, DL.dLcM, DL.dComp, DL.dYes, DL.dChain, DL.wipeR, DL.dTurns, DL.dgSubL, DL.startR, List.map_cons, List.map_nil, List.length_cons, List.length_nil, List.cons_append, List.nil_append, List.getElem?_cons_zero, List.getElem?_cons_succ, List.set_cons_zero, List.set_cons_succ, List.reduceReplicate, Nat.reduceAdd, Nat.reduceSub, Nat.zero_add, sz0, sz1, sz2, sz3, sz4, sz5, sz6, sz7, sz8, sz9, sz10, sz11, sz12, exists_eq_left, exists_eq_left', exists_eq_right, exists_and_left, exists_and_right, exists_const, exists_eq, List.cons.injEq, and_true, true_and, if_true, if_false, Bool.true_eq_false, Bool.false_eq_true, Bool.not_true, Bool.not_false, ite_true, ite_false, DL.D.int.injEq, DL.D.ty.injEq, DL.D.str.injEq, DL.D.tup.injEq, DL.D.lst.injEq, DL.D.ptr.injEq, DL.D.bl.injEq, DL.dNever, Option.some.injEq, eq_self, reduceIte, kitB_ii, kitB_ib, reduceCtorEq, and_self, and_assoc, decide_eq_true_eq, prD])
          exact hR
      refine sortI_q rfl (fun ns' hp' hs' => ?_)
      have hns : ns' = rowN fs n i := srt_eq hp' hs'
      subst hns
      subst hK2
      refine seq_i fun K2 hK2 => ?_
      (try simp only [DL.dRet, DL.dAsg, DL.dSeq, DL.dNext, DL.dIfS, DL.dDrop, DL.dName, DL.dVar, DL.dVarF, dC, DL.dCons, DL.dNil, DL.dOp, DL.dUn, DL.dTest, DL.dCB, DL.dTup, DL.dLst, DL.dLstM, DL.dgTup, DL.dgNil, DL.dgCons, DL.dAndV, DL.dOrV, DL.dNotV, DL.dAndT, DL.dOrT, DL.dNotT, DL.dIf, DL.dIsN, DL.dNotN, DL.isNon, DL.dCall, DL.dCallN, DL.dPar, DL.dPar3, DL.dFrz, DL.dSl, DL.dNoPart, DL.dPart, q_ixT, q_ixL, q_ixS, q_ixP, q_ixC, q_int, q_int0, q_addI, q_addS, q_addT, q_addL, q_mulI, q_mulL, q_mulM, q_lenS, q_lenT, q_lenL, q_lenX, q_lenP, q_intI, q_intB, q_eqI, q_eqS, q_eqB, q_neI, q_neS, q_neB, q_slT, q_slL, q_slX, q_slP, q_slS, DL.dIt_q, q_itL, q_itT, q_itX, DL.rAbs, DL.rMin2, DL.rMax2, DL.rTupOf, DL.rLstOf, DL.rLstOfM, DL.rIsiD, DL.Items, DL.ItemsL, DL.TyM, DL.dFor, DL.dRange1, DL.dRange2, DL.dEnum_q, q_enL, q_enT, q_enX, DL.dZip, DL.dBM, DL.dBM0, DL.TyD, DL.rAppendD, DL.rExtendD, DL.rPopD, DL.seqOf, DL.dDNewT, DL.dDNewK, DL.dLc, DL.dLcM, DL.dComp, DL.dYes, DL.dChain, DL.wipeR, DL.dTurns, DL.dgSubL, DL.startR, List.map_cons, List.map_nil, List.length_cons, List.length_nil, List.cons_append, List.nil_append, List.getElem?_cons_zero, List.getElem?_cons_succ, List.set_cons_zero, List.set_cons_succ, List.reduceReplicate, Nat.reduceAdd, Nat.reduceSub, Nat.zero_add, sz0, sz1, sz2, sz3, sz4, sz5, sz6, sz7, sz8, sz9, sz10, sz11, sz12, exists_eq_left, exists_eq_left', exists_eq_right, exists_and_left, exists_and_right, exists_const, exists_eq, List.cons.injEq, and_true, true_and, if_true, if_false, Bool.true_eq_false, Bool.false_eq_true, Bool.not_true, Bool.not_false, ite_true, ite_false, DL.D.int.injEq, DL.D.ty.injEq, DL.D.str.injEq, DL.D.tup.injEq, DL.D.lst.injEq, DL.D.ptr.injEq, DL.D.bl.injEq, DL.dNever, Option.some.injEq, eq_self, reduceIte, kitB_ii, kitB_ib, reduceCtorEq, and_self, and_assoc, decide_eq_true_eq])
      refine dTurns_inv (fun j ρ M' => ∃ d8 d9, ρ = [some (.tup (fs.map fun f => .tup [.int f, .int 1])), some (.int n), some (.int m), some (.ptr pm), some (.ptr pf), some x, some (.lst ((srtP (duesOf fs (madeN fs n i))).map prD)), some (.lst ((rowN fs n i).map D.int)), d8, d9] ∧
        M' = (pf, .lst (rowsD fs n i)) :: (pm, .lst ((incr (madeN fs n i) ((rowN fs n i).take j)).map D.int)) :: M) ?_ ?_ ?_
      · refine ⟨_, _, rfl, ?_⟩
        rw [List.take_zero, incr_nil]
      · intro j y ρ M' hy hW N2 hN2
        obtain ⟨d8, d9, rfl, rfl⟩ := hW
        rw [List.getElem?_map] at hy
        cases e : (rowN fs n i)[j]? with
        | none => rw [e] at hy; cases hy
        | some p =>
          rw [e] at hy
          cases hy
          obtain ⟨p0, p1⟩ := row_mem (List.mem_of_getElem? e)
          have hq : p.toNat < (incr (madeN fs n i) ((rowN fs n i).take j)).length := by rw [incr_len]; omega
          (try simp only [DL.dRet, DL.dAsg, DL.dSeq, DL.dNext, DL.dIfS, DL.dDrop, DL.dName, DL.dVar, DL.dVarF, dC, DL.dCons, DL.dNil, DL.dOp, DL.dUn, DL.dTest, DL.dCB, DL.dTup, DL.dLst, DL.dLstM, DL.dgTup, DL.dgNil, DL.dgCons, DL.dAndV, DL.dOrV, DL.dNotV, DL.dAndT, DL.dOrT, DL.dNotT, DL.dIf, DL.dIsN, DL.dNotN, DL.isNon, DL.dCall, DL.dCallN, DL.dPar, DL.dPar3, DL.dFrz, DL.dSl, DL.dNoPart, DL.dPart, q_ixT, q_ixL, q_ixS, q_ixP, q_ixC, q_int, q_int0, q_addI, q_addS, q_addT, q_addL, q_mulI, q_mulL, q_mulM, q_lenS, q_lenT, q_lenL, q_lenX, q_lenP, q_intI, q_intB, q_eqI, q_eqS, q_eqB, q_neI, q_neS, q_neB, q_slT, q_slL, q_slX, q_slP, q_slS, DL.dIt_q, q_itL, q_itT, q_itX, DL.rAbs, DL.rMin2, DL.rMax2, DL.rTupOf, DL.rLstOf, DL.rLstOfM, DL.rIsiD, DL.Items, DL.ItemsL, DL.TyM, DL.dFor, DL.dRange1, DL.dRange2, DL.dEnum_q, q_enL, q_enT, q_enX, DL.dZip, DL.dBM, DL.dBM0, DL.TyD, DL.rAppendD, DL.rExtendD, DL.rPopD, DL.seqOf, DL.dDNewT, DL.dDNewK, DL.dLc, DL.dLcM, DL.dComp, DL.dYes, DL.dChain, DL.wipeR, DL.dTurns, DL.dgSubL, DL.startR, List.map_cons, List.map_nil, List.length_cons, List.length_nil, List.cons_append, List.nil_append, List.getElem?_cons_zero, List.getElem?_cons_succ, List.set_cons_zero, List.set_cons_succ, List.reduceReplicate, Nat.reduceAdd, Nat.reduceSub, Nat.zero_add, sz0, sz1, sz2, sz3, sz4, sz5, sz6, sz7, sz8, sz9, sz10, sz11, sz12, exists_eq_left, exists_eq_left', exists_eq_right, exists_and_left, exists_and_right, exists_const, exists_eq, List.cons.injEq, and_true, true_and, if_true, if_false, Bool.true_eq_false, Bool.false_eq_true, Bool.not_true, Bool.not_false, ite_true, ite_false, DL.D.int.injEq, DL.D.ty.injEq, DL.D.str.injEq, DL.D.tup.injEq, DL.D.lst.injEq, DL.D.ptr.injEq, DL.D.bl.injEq, DL.dNever, Option.some.injEq, eq_self, reduceIte, kitB_ii, kitB_ib, reduceCtorEq, and_self, and_assoc, decide_eq_true_eq])
          refine ⟨_, .tail _ (.head _), _, at_d (j := p.toNat) (by rw [List.getElem?_map, getD_get hq]; rfl) (by omega), ?_⟩
          (try simp only [DL.dRet, DL.dAsg, DL.dSeq, DL.dNext, DL.dIfS, DL.dDrop, DL.dName, DL.dVar, DL.dVarF, dC, DL.dCons, DL.dNil, DL.dOp, DL.dUn, DL.dTest, DL.dCB, DL.dTup, DL.dLst, DL.dLstM, DL.dgTup, DL.dgNil, DL.dgCons, DL.dAndV, DL.dOrV, DL.dNotV, DL.dAndT, DL.dOrT, DL.dNotT, DL.dIf, DL.dIsN, DL.dNotN, DL.isNon, DL.dCall, DL.dCallN, DL.dPar, DL.dPar3, DL.dFrz, DL.dSl, DL.dNoPart, DL.dPart, q_ixT, q_ixL, q_ixS, q_ixP, q_ixC, q_int, q_int0, q_addI, q_addS, q_addT, q_addL, q_mulI, q_mulL, q_mulM, q_lenS, q_lenT, q_lenL, q_lenX, q_lenP, q_intI, q_intB, q_eqI, q_eqS, q_eqB, q_neI, q_neS, q_neB, q_slT, q_slL, q_slX, q_slP, q_slS, DL.dIt_q, q_itL, q_itT, q_itX, DL.rAbs, DL.rMin2, DL.rMax2, DL.rTupOf, DL.rLstOf, DL.rLstOfM, DL.rIsiD, DL.Items, DL.ItemsL, DL.TyM, DL.dFor, DL.dRange1, DL.dRange2, DL.dEnum_q, q_enL, q_enT, q_enX, DL.dZip, DL.dBM, DL.dBM0, DL.TyD, DL.rAppendD, DL.rExtendD, DL.rPopD, DL.seqOf, DL.dDNewT, DL.dDNewK, DL.dLc, DL.dLcM, DL.dComp, DL.dYes, DL.dChain, DL.wipeR, DL.dTurns, DL.dgSubL, DL.startR, List.map_cons, List.map_nil, List.length_cons, List.length_nil, List.cons_append, List.nil_append, List.getElem?_cons_zero, List.getElem?_cons_succ, List.set_cons_zero, List.set_cons_succ, List.reduceReplicate, Nat.reduceAdd, Nat.reduceSub, Nat.zero_add, sz0, sz1, sz2, sz3, sz4, sz5, sz6, sz7, sz8, sz9, sz10, sz11, sz12, exists_eq_left, exists_eq_left', exists_eq_right, exists_and_left, exists_and_right, exists_const, exists_eq, List.cons.injEq, and_true, true_and, if_true, if_false, Bool.true_eq_false, Bool.false_eq_true, Bool.not_true, Bool.not_false, ite_true, ite_false, DL.D.int.injEq, DL.D.ty.injEq, DL.D.str.injEq, DL.D.tup.injEq, DL.D.lst.injEq, DL.D.ptr.injEq, DL.D.bl.injEq, DL.dNever, Option.some.injEq, eq_self, reduceIte, kitB_ii, kitB_ib, reduceCtorEq, and_self, and_assoc, decide_eq_true_eq])
          refine ⟨_, p.toNat, ix_d (by omega) (by rw [List.length_map]; exact hq), _, .there .here, hN2 _ _ ⟨_, _, rfl, ?_⟩⟩
          rw [← incr_step (show (rowN fs n i).Nodup from row_nodup _ _ _) e p0 (by omega), List.map_set]
      · intro ρ M' hW
        obtain ⟨d8, d9, rfl, rfl⟩ := hW
        subst hK2
        (try simp only [DL.dRet, DL.dAsg, DL.dSeq, DL.dNext, DL.dIfS, DL.dDrop, DL.dName, DL.dVar, DL.dVarF, dC, DL.dCons, DL.dNil, DL.dOp, DL.dUn, DL.dTest, DL.dCB, DL.dTup, DL.dLst, DL.dLstM, DL.dgTup, DL.dgNil, DL.dgCons, DL.dAndV, DL.dOrV, DL.dNotV, DL.dAndT, DL.dOrT, DL.dNotT, DL.dIf, DL.dIsN, DL.dNotN, DL.isNon, DL.dCall, DL.dCallN, DL.dPar, DL.dPar3, DL.dFrz, DL.dSl, DL.dNoPart, DL.dPart, q_ixT, q_ixL, q_ixS, q_ixP, q_ixC, q_int, q_int0, q_addI, q_addS, q_addT, q_addL, q_mulI, q_mulL, q_mulM, q_lenS, q_lenT, q_lenL, q_lenX, q_lenP, q_intI, q_intB, q_eqI, q_eqS, q_eqB, q_neI, q_neS, q_neB, q_slT, q_slL, q_slX, q_slP, q_slS, DL.dIt_q, q_itL, q_itT, q_itX, DL.rAbs, DL.rMin2, DL.rMax2, DL.rTupOf, DL.rLstOf, DL.rLstOfM, DL.rIsiD, DL.Items, DL.ItemsL, DL.TyM, DL.dFor, DL.dRange1, DL.dRange2, DL.dEnum_q, q_enL, q_enT, q_enX, DL.dZip, DL.dBM, DL.dBM0, DL.TyD, DL.rAppendD, DL.rExtendD, DL.rPopD, DL.seqOf, DL.dDNewT, DL.dDNewK, DL.dLc, DL.dLcM, DL.dComp, DL.dYes, DL.dChain, DL.wipeR, DL.dTurns, DL.dgSubL, DL.startR, List.map_cons, List.map_nil, List.length_cons, List.length_nil, List.cons_append, List.nil_append, List.getElem?_cons_zero, List.getElem?_cons_succ, List.set_cons_zero, List.set_cons_succ, List.reduceReplicate, Nat.reduceAdd, Nat.reduceSub, Nat.zero_add, sz0, sz1, sz2, sz3, sz4, sz5, sz6, sz7, sz8, sz9, sz10, sz11, sz12, exists_eq_left, exists_eq_left', exists_eq_right, exists_and_left, exists_and_right, exists_const, exists_eq, List.cons.injEq, and_true, true_and, if_true, if_false, Bool.true_eq_false, Bool.false_eq_true, Bool.not_true, Bool.not_false, ite_true, ite_false, DL.D.int.injEq, DL.D.ty.injEq, DL.D.str.injEq, DL.D.tup.injEq, DL.D.lst.injEq, DL.D.ptr.injEq, DL.D.bl.injEq, DL.dNever, Option.some.injEq, eq_self, reduceIte, kitB_ii, kitB_ib, reduceCtorEq, and_self, and_assoc, decide_eq_true_eq])
        refine ⟨⟨_, .head _⟩, _, (by unfold rowsD; rw [List.length_map, List.length_range]; omega), _, .here, hN _ _ ⟨_, _, _, _, _, rfl, ?_⟩⟩
        unfold rowsD
        rw [List.length_map, List.take_length, List.range_succ, List.map_append]
        rfl
    · intro ρ M' hW
      obtain ⟨d5, d6, d7, d8, d9, rfl, rfl⟩ := hW
      subst hK1
      (try simp only [DL.dRet, DL.dAsg, DL.dSeq, DL.dNext, DL.dIfS, DL.dDrop, DL.dName, DL.dVar, DL.dVarF, dC, DL.dCons, DL.dNil, DL.dOp, DL.dUn, DL.dTest, DL.dCB, DL.dTup, DL.dLst, DL.dLstM, DL.dgTup, DL.dgNil, DL.dgCons, DL.dAndV, DL.dOrV, DL.dNotV, DL.dAndT, DL.dOrT, DL.dNotT, DL.dIf, DL.dIsN, DL.dNotN, DL.isNon, DL.dCall, DL.dCallN, DL.dPar, DL.dPar3, DL.dFrz, DL.dSl, DL.dNoPart, DL.dPart, q_ixT, q_ixL, q_ixS, q_ixP, q_ixC, q_int, q_int0, q_addI, q_addS, q_addT, q_addL, q_mulI, q_mulL, q_mulM, q_lenS, q_lenT, q_lenL, q_lenX, q_lenP, q_intI, q_intB, q_eqI, q_eqS, q_eqB, q_neI, q_neS, q_neB, q_slT, q_slL, q_slX, q_slP, q_slS, DL.dIt_q, q_itL, q_itT, q_itX, DL.rAbs, DL.rMin2, DL.rMax2, DL.rTupOf, DL.rLstOf, DL.rLstOfM, DL.rIsiD, DL.Items, DL.ItemsL, DL.TyM, DL.dFor, DL.dRange1, DL.dRange2, DL.dEnum_q, q_enL, q_enT, q_enX, DL.dZip, DL.dBM, DL.dBM0, DL.TyD, DL.rAppendD, DL.rExtendD, DL.rPopD, DL.seqOf, DL.dDNewT, DL.dDNewK, DL.dLc, DL.dLcM, DL.dComp, DL.dYes, DL.dChain, DL.wipeR, DL.dTurns, DL.dgSubL, DL.startR, List.map_cons, List.map_nil, List.length_cons, List.length_nil, List.cons_append, List.nil_append, List.getElem?_cons_zero, List.getElem?_cons_succ, List.set_cons_zero, List.set_cons_succ, List.reduceReplicate, Nat.reduceAdd, Nat.reduceSub, Nat.zero_add, sz0, sz1, sz2, sz3, sz4, sz5, sz6, sz7, sz8, sz9, sz10, sz11, sz12, exists_eq_left, exists_eq_left', exists_eq_right, exists_and_left, exists_and_right, exists_const, exists_eq, List.cons.injEq, and_true, true_and, if_true, if_false, Bool.true_eq_false, Bool.false_eq_true, Bool.not_true, Bool.not_false, ite_true, ite_false, DL.D.int.injEq, DL.D.ty.injEq, DL.D.str.injEq, DL.D.tup.injEq, DL.D.lst.injEq, DL.D.ptr.injEq, DL.D.bl.injEq, DL.dNever, Option.some.injEq, eq_self, reduceIte, kitB_ii, kitB_ib, reduceCtorEq, and_self, and_assoc, decide_eq_true_eq])
      refine ⟨_, .head _, rtW_w (.skip (.skip (.refl _))) ?_⟩
      rw [rangeD_len]
      exact h
    ⟩
def sp_hands_plan : DSp := fun ds M Q _ => ∃ (x : D) (fs : List Int) (h t : Int), ds = [x, .int h, .int t] ∧ SeqX x (fs.map D.int) ∧ fs ≠ [] ∧ fs.length ≤ 40 ∧ (∀ f ∈ fs, 1 ≤ f ∧ f ≤ 1000000) ∧ 1 ≤ h ∧ h ≤ 8 ∧ 0 ≤ t ∧ t ≤ 2000 ∧
  Q (.tup (rowsD fs h.toNat t.toNat)) M
theorem ok_hands_plan (T : Txt K mg) : FnOk P w K mg base CX0 5 T.a_hands_plan T.fd_hands_plan ["factors", "hands", "ticks"] (toSp K sp_hands_plan) :=
  fun_ok T.F_hands_plan sc_hands_plan (fun ds M Q E h => (by obtain ⟨x, fs, h, t, rfl, _⟩ := h; rfl)) fun cdv A outer s H E hr => ⟨_, (dss_cons (ds_set (i := 3) sc_hands_plan.nd rfl (by first | exact .inl rfl | exact .inr rfl) (de_call (ok_need_whole T) (hr.mono (by decide)) T.g_need_whole T.F_need_whole.kp T.b_need_whole (da_cons (de_var 0) (da_cons (de_var 1) da_nil)))) (dss_cons (ds_expr (de_call (ok_need_number T) (hr.mono (by decide)) T.g_need_number T.F_need_number.kp T.b_need_number (da_cons (de_var 2) (da_cons de_str (da_cons de_int (da_cons (de_globI T.g_MOST_TICKS) da_nil)))))) (dss_one (ds_ret (de_call (ok_planned T) (hr.mono (by decide)) T.g_planned T.F_planned.kp T.b_planned (da_cons (de_var 3) (da_cons (de_var 1) (da_cons (de_var 2) da_nil)))))))), fun ds M Q E' h => by
    obtain ⟨x, fs, h', t, rfl, hx, hne, hl, hf, h1, h2, t0, t1, h⟩ := h
    (try simp only [DL.dRet, DL.dAsg, DL.dSeq, DL.dNext, DL.dIfS, DL.dDrop, DL.dName, DL.dVar, DL.dVarF, dC, DL.dCons, DL.dNil, DL.dOp, DL.dUn, DL.dTest, DL.dCB, DL.dTup, DL.dLst, DL.dLstM, DL.dgTup, DL.dgNil, DL.dgCons, DL.dAndV, DL.dOrV, DL.dNotV, DL.dAndT, DL.dOrT, DL.dNotT, DL.dIf, DL.dIsN, DL.dNotN, DL.isNon, DL.dCall, DL.dCallN, DL.dPar, DL.dPar3, DL.dFrz, DL.dSl, DL.dNoPart, DL.dPart, q_ixT, q_ixL, q_ixS, q_ixP, q_ixC, q_int, q_int0, q_addI, q_addS, q_addT, q_addL, q_mulI, q_mulL, q_mulM, q_lenS, q_lenT, q_lenL, q_lenX, q_lenP, q_intI, q_intB, q_eqI, q_eqS, q_eqB, q_neI, q_neS, q_neB, q_slT, q_slL, q_slX, q_slP, q_slS, DL.dIt_q, q_itL, q_itT, q_itX, DL.rAbs, DL.rMin2, DL.rMax2, DL.rTupOf, DL.rLstOf, DL.rLstOfM, DL.rIsiD, DL.Items, DL.ItemsL, DL.TyM, DL.dFor, DL.dRange1, DL.dRange2, DL.dEnum_q, q_enL, q_enT, q_enX, DL.dZip, DL.dBM, DL.dBM0, DL.TyD, DL.rAppendD, DL.rExtendD, DL.rPopD, DL.seqOf, DL.dDNewT, DL.dDNewK, DL.dLc, DL.dLcM, DL.dComp, DL.dYes, DL.dChain, DL.wipeR, DL.dTurns, DL.dgSubL, DL.startR, List.map_cons, List.map_nil, List.length_cons, List.length_nil, List.cons_append, List.nil_append, List.getElem?_cons_zero, List.getElem?_cons_succ, List.set_cons_zero, List.set_cons_succ, List.reduceReplicate, Nat.reduceAdd, Nat.reduceSub, Nat.zero_add, sz0, sz1, sz2, sz3, sz4, sz5, sz6, sz7, sz8, sz9, sz10, sz11, sz12, exists_eq_left, exists_eq_left', exists_eq_right, exists_and_left, exists_and_right, exists_const, exists_eq, List.cons.injEq, and_true, true_and, if_true, if_false, Bool.true_eq_false, Bool.false_eq_true, Bool.not_true, Bool.not_false, ite_true, ite_false, DL.D.int.injEq, DL.D.ty.injEq, DL.D.str.injEq, DL.D.tup.injEq, DL.D.lst.injEq, DL.D.ptr.injEq, DL.D.bl.injEq, DL.dNever, Option.some.injEq, eq_self, reduceIte, kitB_ii, kitB_ib, reduceCtorEq, and_self, and_assoc, decide_eq_true_eq])
    refine ⟨x, fs, h', rfl, hx, hne, hl, hf, h1, h2, ?_⟩
    (try simp only [DL.dRet, DL.dAsg, DL.dSeq, DL.dNext, DL.dIfS, DL.dDrop, DL.dName, DL.dVar, DL.dVarF, dC, DL.dCons, DL.dNil, DL.dOp, DL.dUn, DL.dTest, DL.dCB, DL.dTup, DL.dLst, DL.dLstM, DL.dgTup, DL.dgNil, DL.dgCons, DL.dAndV, DL.dOrV, DL.dNotV, DL.dAndT, DL.dOrT, DL.dNotT, DL.dIf, DL.dIsN, DL.dNotN, DL.isNon, DL.dCall, DL.dCallN, DL.dPar, DL.dPar3, DL.dFrz, DL.dSl, DL.dNoPart, DL.dPart, q_ixT, q_ixL, q_ixS, q_ixP, q_ixC, q_int, q_int0, q_addI, q_addS, q_addT, q_addL, q_mulI, q_mulL, q_mulM, q_lenS, q_lenT, q_lenL, q_lenX, q_lenP, q_intI, q_intB, q_eqI, q_eqS, q_eqB, q_neI, q_neS, q_neB, q_slT, q_slL, q_slX, q_slP, q_slS, DL.dIt_q, q_itL, q_itT, q_itX, DL.rAbs, DL.rMin2, DL.rMax2, DL.rTupOf, DL.rLstOf, DL.rLstOfM, DL.rIsiD, DL.Items, DL.ItemsL, DL.TyM, DL.dFor, DL.dRange1, DL.dRange2, DL.dEnum_q, q_enL, q_enT, q_enX, DL.dZip, DL.dBM, DL.dBM0, DL.TyD, DL.rAppendD, DL.rExtendD, DL.rPopD, DL.seqOf, DL.dDNewT, DL.dDNewK, DL.dLc, DL.dLcM, DL.dComp, DL.dYes, DL.dChain, DL.wipeR, DL.dTurns, DL.dgSubL, DL.startR, List.map_cons, List.map_nil, List.length_cons, List.length_nil, List.cons_append, List.nil_append, List.getElem?_cons_zero, List.getElem?_cons_succ, List.set_cons_zero, List.set_cons_succ, List.reduceReplicate, Nat.reduceAdd, Nat.reduceSub, Nat.zero_add, sz0, sz1, sz2, sz3, sz4, sz5, sz6, sz7, sz8, sz9, sz10, sz11, sz12, exists_eq_left, exists_eq_left', exists_eq_right, exists_and_left, exists_and_right, exists_const, exists_eq, List.cons.injEq, and_true, true_and, if_true, if_false, Bool.true_eq_false, Bool.false_eq_true, Bool.not_true, Bool.not_false, ite_true, ite_false, DL.D.int.injEq, DL.D.ty.injEq, DL.D.str.injEq, DL.D.tup.injEq, DL.D.lst.injEq, DL.D.ptr.injEq, DL.D.bl.injEq, DL.dNever, Option.some.injEq, eq_self, reduceIte, kitB_ii, kitB_ib, reduceCtorEq, and_self, and_assoc, decide_eq_true_eq])
    refine ⟨t, "ticks", 0, 2000, rfl, t0, t1, ?_⟩
    (try simp only [DL.dRet, DL.dAsg, DL.dSeq, DL.dNext, DL.dIfS, DL.dDrop, DL.dName, DL.dVar, DL.dVarF, dC, DL.dCons, DL.dNil, DL.dOp, DL.dUn, DL.dTest, DL.dCB, DL.dTup, DL.dLst, DL.dLstM, DL.dgTup, DL.dgNil, DL.dgCons, DL.dAndV, DL.dOrV, DL.dNotV, DL.dAndT, DL.dOrT, DL.dNotT, DL.dIf, DL.dIsN, DL.dNotN, DL.isNon, DL.dCall, DL.dCallN, DL.dPar, DL.dPar3, DL.dFrz, DL.dSl, DL.dNoPart, DL.dPart, q_ixT, q_ixL, q_ixS, q_ixP, q_ixC, q_int, q_int0, q_addI, q_addS, q_addT, q_addL, q_mulI, q_mulL, q_mulM, q_lenS, q_lenT, q_lenL, q_lenX, q_lenP, q_intI, q_intB, q_eqI, q_eqS, q_eqB, q_neI, q_neS, q_neB, q_slT, q_slL, q_slX, q_slP, q_slS, DL.dIt_q, q_itL, q_itT, q_itX, DL.rAbs, DL.rMin2, DL.rMax2, DL.rTupOf, DL.rLstOf, DL.rLstOfM, DL.rIsiD, DL.Items, DL.ItemsL, DL.TyM, DL.dFor, DL.dRange1, DL.dRange2, DL.dEnum_q, q_enL, q_enT, q_enX, DL.dZip, DL.dBM, DL.dBM0, DL.TyD, DL.rAppendD, DL.rExtendD, DL.rPopD, DL.seqOf, DL.dDNewT, DL.dDNewK, DL.dLc, DL.dLcM, DL.dComp, DL.dYes, DL.dChain, DL.wipeR, DL.dTurns, DL.dgSubL, DL.startR, List.map_cons, List.map_nil, List.length_cons, List.length_nil, List.cons_append, List.nil_append, List.getElem?_cons_zero, List.getElem?_cons_succ, List.set_cons_zero, List.set_cons_succ, List.reduceReplicate, Nat.reduceAdd, Nat.reduceSub, Nat.zero_add, sz0, sz1, sz2, sz3, sz4, sz5, sz6, sz7, sz8, sz9, sz10, sz11, sz12, exists_eq_left, exists_eq_left', exists_eq_right, exists_and_left, exists_and_right, exists_const, exists_eq, List.cons.injEq, and_true, true_and, if_true, if_false, Bool.true_eq_false, Bool.false_eq_true, Bool.not_true, Bool.not_false, ite_true, ite_false, DL.D.int.injEq, DL.D.ty.injEq, DL.D.str.injEq, DL.D.tup.injEq, DL.D.lst.injEq, DL.D.ptr.injEq, DL.D.bl.injEq, DL.dNever, Option.some.injEq, eq_self, reduceIte, kitB_ii, kitB_ib, reduceCtorEq, and_self, and_assoc, decide_eq_true_eq])
    exact ⟨fs, h', t, rfl, hl, hf, h1, h2, t0, t1, rtW_of h⟩
    ⟩
def sp_late_in : DSp := fun ds M Q _ => ∃ (x : D) (fs : List Int) (h t : Int), ds = [x, .int h, .int t] ∧ SeqX x (fs.map D.int) ∧ fs ≠ [] ∧ fs.length ≤ 25 ∧ (∀ f ∈ fs, 1 ≤ f ∧ f ≤ 1000000) ∧ 1 ≤ h ∧ h ≤ 8 ∧ 0 ≤ t ∧ t ≤ 60 ∧
  Q (.tup ((lawF fs h.toNat t.toNat fs.length).map prD)) M
theorem ok_late_in (T : Txt K mg) : FnOk P w K mg base CX0 6 T.a_late_in T.fd_late_in ["factors", "hands", "ticks"] (toSp K sp_late_in) :=
  fun_ok T.F_late_in sc_late_in (fun ds M Q E h => (by obtain ⟨x, fs, h, t, rfl, _⟩ := h; rfl)) fun cdv A outer s H E hr => ⟨_, (dss_cons (ds_set (i := 3) sc_late_in.nd rfl (by first | exact .inl rfl | exact .inr rfl) (de_call (ok_hands_plan T) (hr.mono (by decide)) T.g_hands_plan T.F_hands_plan.kp T.b_hands_plan (da_cons (de_var 0) (da_cons (de_var 1) (da_cons (de_var 2) da_nil))))) (dss_cons (ds_par (i := 4) (j := 5) rfl sc_late_in.nd rfl rfl (by decide) rfl rfl (da_cons (de_lcM [("_", 10)] rfl sc_late_in.nd (di_seq (de_var 0)) (blkOk_by (own := [("_", 10)]) (N := N_late_in) (sc := defScope s_late_in) (by decide +kernel)) (by decide) (fun _ _ _ _ _ => (dg_name (i := 10) sc_late_in.nd rfl (by first | exact .inl rfl | exact .inr rfl))) (fun _ _ _ _ _ => dts_nil) (fun _ _ _ _ _ => de_int)) (da_cons (de_lstM da_nil) da_nil)) rfl) (dss_cons (ds_for PassesOwn.never rfl (di_enum T.n_enumerate (da_cons (de_var 3) da_nil)) (dg_tup (n := 2) rfl (dgs_cons (dg_name (i := 6) sc_late_in.nd rfl (by first | exact .inl rfl | exact .inr rfl)) (dgs_cons (dg_name (i := 7) sc_late_in.nd rfl (by first | exact .inl rfl | exact .inr rfl)) dgs_nil))) (dss_one (ds_for PassesOwn.never rfl (di_seq (de_var 7)) (dg_name (i := 8) sc_late_in.nd rfl (by first | exact .inl rfl | exact .inr rfl)) (dss_cons (ds_asg (de_add (de_ix (de_var 4) (de_var 8)) de_int) (dg_subL (de_var 4) (de_var 8))) (dss_one (ds_if (dt_le (de_mul (de_ix (de_var 4) (de_var 8)) (de_ix (de_var 0) (de_var 8))) (de_var 6)) (dss_one (ds_expr (de_bm PySem.F.plainAttrs_list PySem.F.slot_list_append PySem.F.type_list_append mt_append ref_append (de_var 5) (da_cons (de_tup (da_cons (de_var 8) (da_cons (de_ix (de_var 4) (de_var 8)) da_nil))) da_nil)))) dss_nil)))))) (dss_cons (ds_for PassesOwn.never rfl (di_enum T.n_enumerate (da_cons (de_var 0) da_nil)) (dg_tup (n := 2) rfl (dgs_cons (dg_name (i := 8) sc_late_in.nd rfl (by first | exact .inl rfl | exact .inr rfl)) (dgs_cons (dg_name (i := 9) sc_late_in.nd rfl (by first | exact .inl rfl | exact .inr rfl)) dgs_nil))) (dss_one (ds_expr (de_bm PySem.F.plainAttrs_list PySem.F.slot_list_extend PySem.F.type_list_extend mt_extend ref_extend (de_var 5) (da_cons (de_lc [("step", 11)] rfl sc_late_in.nd (di_range2 T.n_range (da_cons (de_add (de_ix (de_var 4) (de_var 8)) de_int) (da_cons (de_add (de_fdiv (de_var 2) (de_var 9)) de_int) da_nil))) (blkOk_by (own := [("step", 11)]) (N := N_late_in) (sc := defScope s_late_in) (by decide +kernel)) (by decide) (fun _ _ _ _ _ => (dg_name (i := 11) sc_late_in.nd rfl (by first | exact .inl rfl | exact .inr rfl))) (fun _ _ _ _ _ => dts_nil) (fun _ _ _ _ _ => (de_tup (da_cons (de_var 8) (da_cons (de_var 11) da_nil))))) da_nil))))) (dss_cons (ds_if (dt_gt (de_callB call_lenV ref_len T.n_len bt_len (da_cons (de_var 5) da_nil)) (de_globI T.g_MOST_LATE)) dss_never dss_nil) (dss_one (ds_ret (de_callTy call_tuple_of ref_tupOf T.n_tuple bt_tuple (da_cons (de_callB cr_sortPV ref_sortP T.n_sorted bt_sorted (da_cons (de_var 5) da_nil)) da_nil))))))))), fun ds M Q E' h => by
    obtain ⟨x, fs, h', t, rfl, hx, hne, hl, hf, h1, h2, t0, t1, h⟩ := h
    have hz : (20000 : Nat) < sizeLine := by decide
    obtain ⟨n, rfl⟩ := Int.eq_ofNat_of_zero_le (by omega : 0 ≤ h')
    obtain ⟨m, rfl⟩ := Int.eq_ofNat_of_zero_le t0
    simp only [Int.toNat_natCast] at h
    have hfd : ∀ i, i < fs.length → 1 ≤ fs.getD i 0 ∧ fs.getD i 0 ≤ 1000000 := fun i hi => hf (fs.getD i 0) (by rw [List.getD_eq_getElem?_getD, List.getElem?_eq_getElem hi]; exact List.getElem_mem _)
    refine seq_i fun K1 hK1 => ?_
    (try simp only [DL.dRet, DL.dAsg, DL.dSeq, DL.dNext, DL.dIfS, DL.dDrop, DL.dName, DL.dVar, DL.dVarF, dC, DL.dCons, DL.dNil, DL.dOp, DL.dUn, DL.dTest, DL.dCB, DL.dTup, DL.dLst, DL.dLstM, DL.dgTup, DL.dgNil, DL.dgCons, DL.dAndV, DL.dOrV, DL.dNotV, DL.dAndT, DL.dOrT, DL.dNotT, DL.dIf, DL.dIsN, DL.dNotN, DL.isNon, DL.dCall, DL.dCallN, DL.dPar, DL.dPar3, DL.dFrz, DL.dSl, DL.dNoPart, DL.dPart, q_ixT, q_ixL, q_ixS, q_ixP, q_ixC, q_int, q_int0, q_addI, q_addS, q_addT, q_addL, q_mulI, q_mulL, q_mulM, q_lenS, q_lenT, q_lenL, q_lenX, q_lenP, q_intI, q_intB, q_eqI, q_eqS, q_eqB, q_neI, q_neS, q_neB, q_slT, q_slL, q_slX, q_slP, q_slS, DL.dIt_q, q_itL, q_itT, q_itX, DL.rAbs, DL.rMin2, DL.rMax2, DL.rTupOf, DL.rLstOf, DL.rLstOfM, DL.rIsiD, DL.Items, DL.ItemsL, DL.TyM, DL.dFor, DL.dRange1, DL.dRange2, DL.dEnum_q, q_enL, q_enT, q_enX, DL.dZip, DL.dBM, DL.dBM0, DL.TyD, DL.rAppendD, DL.rExtendD, DL.rPopD, DL.seqOf, DL.dDNewT, DL.dDNewK, DL.dLc, DL.dLcM, DL.dComp, DL.dYes, DL.dChain, DL.wipeR, DL.dTurns, DL.dgSubL, DL.startR, List.map_cons, List.map_nil, List.length_cons, List.length_nil, List.cons_append, List.nil_append, List.getElem?_cons_zero, List.getElem?_cons_succ, List.set_cons_zero, List.set_cons_succ, List.reduceReplicate, Nat.reduceAdd, Nat.reduceSub, Nat.zero_add, sz0, sz1, sz2, sz3, sz4, sz5, sz6, sz7, sz8, sz9, sz10, sz11, sz12, exists_eq_left, exists_eq_left', exists_eq_right, exists_and_left, exists_and_right, exists_const, exists_eq, List.cons.injEq, and_true, true_and, if_true, if_false, Bool.true_eq_false, Bool.false_eq_true, Bool.not_true, Bool.not_false, ite_true, ite_false, DL.D.int.injEq, DL.D.ty.injEq, DL.D.str.injEq, DL.D.tup.injEq, DL.D.lst.injEq, DL.D.ptr.injEq, DL.D.bl.injEq, DL.dNever, Option.some.injEq, eq_self, reduceIte, kitB_ii, kitB_ib, reduceCtorEq, and_self, and_assoc, decide_eq_true_eq])
    refine ⟨x, fs, n, m, rfl, hx, hne, by omega, hf, h1, h2, t0, by omega, ?_⟩
    rw [Int.toNat_natCast, Int.toNat_natCast]
    subst hK1
    refine seq_i fun K1 hK1 => ?_
    (try simp only [DL.dRet, DL.dAsg, DL.dSeq, DL.dNext, DL.dIfS, DL.dDrop, DL.dName, DL.dVar, DL.dVarF, dC, DL.dCons, DL.dNil, DL.dOp, DL.dUn, DL.dTest, DL.dCB, DL.dTup, DL.dLst, DL.dLstM, DL.dgTup, DL.dgNil, DL.dgCons, DL.dAndV, DL.dOrV, DL.dNotV, DL.dAndT, DL.dOrT, DL.dNotT, DL.dIf, DL.dIsN, DL.dNotN, DL.isNon, DL.dCall, DL.dCallN, DL.dPar, DL.dPar3, DL.dFrz, DL.dSl, DL.dNoPart, DL.dPart, q_ixT, q_ixL, q_ixS, q_ixP, q_ixC, q_int, q_int0, q_addI, q_addS, q_addT, q_addL, q_mulI, q_mulL, q_mulM, q_lenS, q_lenT, q_lenL, q_lenX, q_lenP, q_intI, q_intB, q_eqI, q_eqS, q_eqB, q_neI, q_neS, q_neB, q_slT, q_slL, q_slX, q_slP, q_slS, DL.dIt_q, q_itL, q_itT, q_itX, DL.rAbs, DL.rMin2, DL.rMax2, DL.rTupOf, DL.rLstOf, DL.rLstOfM, DL.rIsiD, DL.Items, DL.ItemsL, DL.TyM, DL.dFor, DL.dRange1, DL.dRange2, DL.dEnum_q, q_enL, q_enT, q_enX, DL.dZip, DL.dBM, DL.dBM0, DL.TyD, DL.rAppendD, DL.rExtendD, DL.rPopD, DL.seqOf, DL.dDNewT, DL.dDNewK, DL.dLc, DL.dLcM, DL.dComp, DL.dYes, DL.dChain, DL.wipeR, DL.dTurns, DL.dgSubL, DL.startR, List.map_cons, List.map_nil, List.length_cons, List.length_nil, List.cons_append, List.nil_append, List.getElem?_cons_zero, List.getElem?_cons_succ, List.set_cons_zero, List.set_cons_succ, List.reduceReplicate, Nat.reduceAdd, Nat.reduceSub, Nat.zero_add, sz0, sz1, sz2, sz3, sz4, sz5, sz6, sz7, sz8, sz9, sz10, sz11, sz12, exists_eq_left, exists_eq_left', exists_eq_right, exists_and_left, exists_and_right, exists_const, exists_eq, List.cons.injEq, and_true, true_and, if_true, if_false, Bool.true_eq_false, Bool.false_eq_true, Bool.not_true, Bool.not_false, ite_true, ite_false, DL.D.int.injEq, DL.D.ty.injEq, DL.D.str.injEq, DL.D.tup.injEq, DL.D.lst.injEq, DL.D.ptr.injEq, DL.D.bl.injEq, DL.dNever, Option.some.injEq, eq_self, reduceIte, kitB_ii, kitB_ib, reduceCtorEq, and_self, and_assoc, decide_eq_true_eq])
    refine hx.it ?_
    refine DL.comp_map (fun _ => .int 0) (by rw [List.length_nil, List.length_map]; omega) (fun y hy R N hR => ?_) ?_
    · (try simp only [DL.dRet, DL.dAsg, DL.dSeq, DL.dNext, DL.dIfS, DL.dDrop, DL.dName, DL.dVar, DL.dVarF, dC, DL.dCons, DL.dNil, DL.dOp, DL.dUn, DL.dTest, DL.dCB, DL.dTup, DL.dLst, DL.dLstM, DL.dgTup, DL.dgNil, DL.dgCons, DL.dAndV, DL.dOrV, DL.dNotV, DL.dAndT, DL.dOrT, DL.dNotT, DL.dIf, DL.dIsN, DL.dNotN, DL.isNon, DL.dCall, DL.dCallN, DL.dPar, DL.dPar3, DL.dFrz, DL.dSl, DL.dNoPart, DL.dPart, q_ixT, q_ixL, q_ixS, q_ixP, q_ixC, q_int, q_int0, q_addI, q_addS, q_addT, q_addL, q_mulI, q_mulL, q_mulM, q_lenS, q_lenT, q_lenL, q_lenX, q_lenP, q_intI, q_intB, q_eqI, q_eqS, q_eqB, q_neI, q_neS, q_neB, q_slT, q_slL, q_slX, q_slP, q_slS, DL.dIt_q, q_itL, q_itT, q_itX, DL.rAbs, DL.rMin2, DL.rMax2, DL.rTupOf, DL.rLstOf, DL.rLstOfM, DL.rIsiD, DL.Items, DL.ItemsL, DL.TyM, DL.dFor, DL.dRange1, DL.dRange2, DL.dEnum_q, q_enL, q_enT, q_enX, DL.dZip, DL.dBM, DL.dBM0, DL.TyD, DL.rAppendD, DL.rExtendD, DL.rPopD, DL.seqOf, DL.dDNewT, DL.dDNewK, DL.dLc, DL.dLcM, DL.dComp, DL.dYes, DL.dChain, DL.wipeR, DL.dTurns, DL.dgSubL, DL.startR, List.map_cons, List.map_nil, List.length_cons, List.length_nil, List.cons_append, List.nil_append, List.getElem?_cons_zero, List.getElem?_cons_succ, List.set_cons_zero, List.set_cons_succ, List.reduceReplicate, Nat.reduceAdd, Nat.reduceSub, Nat.zero_add, sz0, sz1, sz2, sz3, sz4, sz5, sz6, sz7, sz8, sz9, sz10, sz11, sz12, exists_eq_left, exists_eq_left', exists_eq_right, exists_and_left, exists_and_right, exists_const, exists_eq, List.cons.injEq, and_true, true_and, if_true, if_false, Bool.true_eq_false, Bool.false_eq_true, Bool.not_true, Bool.not_false, ite_true, ite_false, DL.D.int.injEq, DL.D.ty.injEq, DL.D.str.injEq, DL.D.tup.injEq, DL.D.lst.injEq, DL.D.ptr.injEq, DL.D.bl.injEq, DL.dNever, Option.some.injEq, eq_self, reduceIte, kitB_ii, kitB_ib, reduceCtorEq, and_self, and_assoc, decide_eq_true_eq])
      exact hR
    rw [List.nil_append, List.map_map]
    intro pm pf
    subst hK1
    refine seq_i fun K1 hK1 => ?_
    (try simp only [DL.dRet, DL.dAsg, DL.dSeq, DL.dNext, DL.dIfS, DL.dDrop, DL.dName, DL.dVar, DL.dVarF, dC, DL.dCons, DL.dNil, DL.dOp, DL.dUn, DL.dTest, DL.dCB, DL.dTup, DL.dLst, DL.dLstM, DL.dgTup, DL.dgNil, DL.dgCons, DL.dAndV, DL.dOrV, DL.dNotV, DL.dAndT, DL.dOrT, DL.dNotT, DL.dIf, DL.dIsN, DL.dNotN, DL.isNon, DL.dCall, DL.dCallN, DL.dPar, DL.dPar3, DL.dFrz, DL.dSl, DL.dNoPart, DL.dPart, q_ixT, q_ixL, q_ixS, q_ixP, q_ixC, q_int, q_int0, q_addI, q_addS, q_addT, q_addL, q_mulI, q_mulL, q_mulM, q_lenS, q_lenT, q_lenL, q_lenX, q_lenP, q_intI, q_intB, q_eqI, q_eqS, q_eqB, q_neI, q_neS, q_neB, q_slT, q_slL, q_slX, q_slP, q_slS, DL.dIt_q, q_itL, q_itT, q_itX, DL.rAbs, DL.rMin2, DL.rMax2, DL.rTupOf, DL.rLstOf, DL.rLstOfM, DL.rIsiD, DL.Items, DL.ItemsL, DL.TyM, DL.dFor, DL.dRange1, DL.dRange2, DL.dEnum_q, q_enL, q_enT, q_enX, DL.dZip, DL.dBM, DL.dBM0, DL.TyD, DL.rAppendD, DL.rExtendD, DL.rPopD, DL.seqOf, DL.dDNewT, DL.dDNewK, DL.dLc, DL.dLcM, DL.dComp, DL.dYes, DL.dChain, DL.wipeR, DL.dTurns, DL.dgSubL, DL.startR, List.map_cons, List.map_nil, List.length_cons, List.length_nil, List.cons_append, List.nil_append, List.getElem?_cons_zero, List.getElem?_cons_succ, List.set_cons_zero, List.set_cons_succ, List.reduceReplicate, Nat.reduceAdd, Nat.reduceSub, Nat.zero_add, sz0, sz1, sz2, sz3, sz4, sz5, sz6, sz7, sz8, sz9, sz10, sz11, sz12, exists_eq_left, exists_eq_left', exists_eq_right, exists_and_left, exists_and_right, exists_const, exists_eq, List.cons.injEq, and_true, true_and, if_true, if_false, Bool.true_eq_false, Bool.false_eq_true, Bool.not_true, Bool.not_false, ite_true, ite_false, DL.D.int.injEq, DL.D.ty.injEq, DL.D.str.injEq, DL.D.tup.injEq, DL.D.lst.injEq, DL.D.ptr.injEq, DL.D.bl.injEq, DL.dNever, Option.some.injEq, eq_self, reduceIte, kitB_ii, kitB_ib, reduceCtorEq, and_self, and_assoc, decide_eq_true_eq])
    refine dTurns_inv (fun i ρ M' => ∃ d6 d7 d8 d9 d10 d11, ρ = [some x, some (.int n), some (.int m), some (.tup (rowsD fs n m)), some (.ptr pm), some (.ptr pf), d6, d7, d8, d9, d10, d11] ∧
      M' = (pf, .lst ((found1 fs n i).map prD)) :: (pm, .lst ((madeN fs n i).map D.int)) :: M) ?_ ?_ ?_
    · refine ⟨_, _, _, _, _, _, rfl, ?_⟩
      unfold madeN
      rw [List.map_map]
      rfl
    · intro i y ρ M' hy hW N hN
      obtain ⟨d6, d7, d8, d9, d10, d11, rfl, rfl⟩ := hW
      have hi : i < m := by
        have := (List.getElem?_eq_some_iff.mp hy).1
        rw [enumD_len] at this
        unfold rowsD at this
        rw [List.length_map, List.length_range] at this
        exact this
      have hy2 : y = .tup [.int (i : Nat), .tup ((rowN fs n i).map D.int)] := by
        rw [enumD_get] at hy
        unfold rowsD at hy
        rw [List.getElem?_map, List.getElem?_range hi] at hy
        exact (Option.some.inj hy).symm
      subst hy2
      have hml := madeN_len fs n i
      (try simp only [DL.dRet, DL.dAsg, DL.dSeq, DL.dNext, DL.dIfS, DL.dDrop, DL.dName, DL.dVar, DL.dVarF, dC, DL.dCons, DL.dNil, DL.dOp, DL.dUn, DL.dTest, DL.dCB, DL.dTup, DL.dLst, DL.dLstM, DL.dgTup, DL.dgNil, DL.dgCons, DL.dAndV, DL.dOrV, DL.dNotV, DL.dAndT, DL.dOrT, DL.dNotT, DL.dIf, DL.dIsN, DL.dNotN, DL.isNon, DL.dCall, DL.dCallN, DL.dPar, DL.dPar3, DL.dFrz, DL.dSl, DL.dNoPart, DL.dPart, q_ixT, q_ixL, q_ixS, q_ixP, q_ixC, q_int, q_int0, q_addI, q_addS, q_addT, q_addL, q_mulI, q_mulL, q_mulM, q_lenS, q_lenT, q_lenL, q_lenX, q_lenP, q_intI, q_intB, q_eqI, q_eqS, q_eqB, q_neI, q_neS, q_neB, q_slT, q_slL, q_slX, q_slP, q_slS, DL.dIt_q, q_itL, q_itT, q_itX, DL.rAbs, DL.rMin2, DL.rMax2, DL.rTupOf, DL.rLstOf, DL.rLstOfM, DL.rIsiD, DL.Items, DL.ItemsL, DL.TyM, DL.dFor, DL.dRange1, DL.dRange2, DL.dEnum_q, q_enL, q_enT, q_enX, DL.dZip, DL.dBM, DL.dBM0, DL.TyD, DL.rAppendD, DL.rExtendD, DL.rPopD, DL.seqOf, DL.dDNewT, DL.dDNewK, DL.dLc, DL.dLcM, DL.dComp, DL.dYes, DL.dChain, DL.wipeR, DL.dTurns, DL.dgSubL, DL.startR, List.map_cons, List.map_nil, List.length_cons, List.length_nil, List.cons_append, List.nil_append, List.getElem?_cons_zero, List.getElem?_cons_succ, List.set_cons_zero, List.set_cons_succ, List.reduceReplicate, Nat.reduceAdd, Nat.reduceSub, Nat.zero_add, sz0, sz1, sz2, sz3, sz4, sz5, sz6, sz7, sz8, sz9, sz10, sz11, sz12, exists_eq_left, exists_eq_left', exists_eq_right, exists_and_left, exists_and_right, exists_const, exists_eq, List.cons.injEq, and_true, true_and, if_true, if_false, Bool.true_eq_false, Bool.false_eq_true, Bool.not_true, Bool.not_false, ite_true, ite_false, DL.D.int.injEq, DL.D.ty.injEq, DL.D.str.injEq, DL.D.tup.injEq, DL.D.lst.injEq, DL.D.ptr.injEq, DL.D.bl.injEq, DL.dNever, Option.some.injEq, eq_self, reduceIte, kitB_ii, kitB_ib, reduceCtorEq, and_self, and_assoc, decide_eq_true_eq])
      refine dTurns_inv (fun j ρ M' => ∃ d8 d9 d10 d11, ρ = [some x, some (.int n), some (.int m), some (.tup (rowsD fs n m)), some (.ptr pm), some (.ptr pf), some (.int (i : Nat)), some (.tup ((rowN fs n i).map D.int)), d8, d9, d10, d11] ∧
        M' = (pf, .lst ((found1 fs n i ++ lateOf fs (madeN fs n i) i ((rowN fs n i).take j)).map prD)) :: (pm, .lst ((incr (madeN fs n i) ((rowN fs n i).take j)).map D.int)) :: M) ?_ ?_ ?_
      · refine ⟨_, _, _, _, rfl, ?_⟩
        rw [List.take_zero, incr_nil]
        unfold lateOf
        rw [List.filter_nil, List.map_nil, List.append_nil]
      · intro j z ρ M' hz' hW N2 hN2
        obtain ⟨d8, d9, d10, d11, rfl, rfl⟩ := hW
        rw [List.getElem?_map] at hz'
        cases e : (rowN fs n i)[j]? with
        | none => rw [e] at hz'; cases hz'
        | some p =>
          rw [e] at hz'
          cases hz'
          obtain ⟨p0, p1⟩ := row_mem (List.mem_of_getElem? e)
          have hq : p.toNat < (incr (madeN fs n i) ((rowN fs n i).take j)).length := by rw [incr_len]; omega
          refine seq_i fun K2 hK2 => ?_
          (try simp only [DL.dRet, DL.dAsg, DL.dSeq, DL.dNext, DL.dIfS, DL.dDrop, DL.dName, DL.dVar, DL.dVarF, dC, DL.dCons, DL.dNil, DL.dOp, DL.dUn, DL.dTest, DL.dCB, DL.dTup, DL.dLst, DL.dLstM, DL.dgTup, DL.dgNil, DL.dgCons, DL.dAndV, DL.dOrV, DL.dNotV, DL.dAndT, DL.dOrT, DL.dNotT, DL.dIf, DL.dIsN, DL.dNotN, DL.isNon, DL.dCall, DL.dCallN, DL.dPar, DL.dPar3, DL.dFrz, DL.dSl, DL.dNoPart, DL.dPart, q_ixT, q_ixL, q_ixS, q_ixP, q_ixC, q_int, q_int0, q_addI, q_addS, q_addT, q_addL, q_mulI, q_mulL, q_mulM, q_lenS, q_lenT, q_lenL, q_lenX, q_lenP, q_intI, q_intB, q_eqI, q_eqS, q_eqB, q_neI, q_neS, q_neB, q_slT, q_slL, q_slX, q_slP, q_slS, DL.dIt_q, q_itL, q_itT, q_itX, DL.rAbs, DL.rMin2, DL.rMax2, DL.rTupOf, DL.rLstOf, DL.rLstOfM, DL.rIsiD, DL.Items, DL.ItemsL, DL.TyM, DL.dFor, DL.dRange1, DL.dRange2, DL.dEnum_q, q_enL, q_enT, q_enX, DL.dZip, DL.dBM, DL.dBM0, DL.TyD, DL.rAppendD, DL.rExtendD, DL.rPopD, DL.seqOf, DL.dDNewT, DL.dDNewK, DL.dLc, DL.dLcM, DL.dComp, DL.dYes, DL.dChain, DL.wipeR, DL.dTurns, DL.dgSubL, DL.startR, List.map_cons, List.map_nil, List.length_cons, List.length_nil, List.cons_append, List.nil_append, List.getElem?_cons_zero, List.getElem?_cons_succ, List.set_cons_zero, List.set_cons_succ, List.reduceReplicate, Nat.reduceAdd, Nat.reduceSub, Nat.zero_add, sz0, sz1, sz2, sz3, sz4, sz5, sz6, sz7, sz8, sz9, sz10, sz11, sz12, exists_eq_left, exists_eq_left', exists_eq_right, exists_and_left, exists_and_right, exists_const, exists_eq, List.cons.injEq, and_true, true_and, if_true, if_false, Bool.true_eq_false, Bool.false_eq_true, Bool.not_true, Bool.not_false, ite_true, ite_false, DL.D.int.injEq, DL.D.ty.injEq, DL.D.str.injEq, DL.D.tup.injEq, DL.D.lst.injEq, DL.D.ptr.injEq, DL.D.bl.injEq, DL.dNever, Option.some.injEq, eq_self, reduceIte, kitB_ii, kitB_ib, reduceCtorEq, and_self, and_assoc, decide_eq_true_eq])
          refine ⟨_, .tail _ (.head _), _, at_d (j := p.toNat) (by rw [List.getElem?_map, getD_get hq]; rfl) (by omega), ?_⟩
          (try simp only [DL.dRet, DL.dAsg, DL.dSeq, DL.dNext, DL.dIfS, DL.dDrop, DL.dName, DL.dVar, DL.dVarF, dC, DL.dCons, DL.dNil, DL.dOp, DL.dUn, DL.dTest, DL.dCB, DL.dTup, DL.dLst, DL.dLstM, DL.dgTup, DL.dgNil, DL.dgCons, DL.dAndV, DL.dOrV, DL.dNotV, DL.dAndT, DL.dOrT, DL.dNotT, DL.dIf, DL.dIsN, DL.dNotN, DL.isNon, DL.dCall, DL.dCallN, DL.dPar, DL.dPar3, DL.dFrz, DL.dSl, DL.dNoPart, DL.dPart, q_ixT, q_ixL, q_ixS, q_ixP, q_ixC, q_int, q_int0, q_addI, q_addS, q_addT, q_addL, q_mulI, q_mulL, q_mulM, q_lenS, q_lenT, q_lenL, q_lenX, q_lenP, q_intI, q_intB, q_eqI, q_eqS, q_eqB, q_neI, q_neS, q_neB, q_slT, q_slL, q_slX, q_slP, q_slS, DL.dIt_q, q_itL, q_itT, q_itX, DL.rAbs, DL.rMin2, DL.rMax2, DL.rTupOf, DL.rLstOf, DL.rLstOfM, DL.rIsiD, DL.Items, DL.ItemsL, DL.TyM, DL.dFor, DL.dRange1, DL.dRange2, DL.dEnum_q, q_enL, q_enT, q_enX, DL.dZip, DL.dBM, DL.dBM0, DL.TyD, DL.rAppendD, DL.rExtendD, DL.rPopD, DL.seqOf, DL.dDNewT, DL.dDNewK, DL.dLc, DL.dLcM, DL.dComp, DL.dYes, DL.dChain, DL.wipeR, DL.dTurns, DL.dgSubL, DL.startR, List.map_cons, List.map_nil, List.length_cons, List.length_nil, List.cons_append, List.nil_append, List.getElem?_cons_zero, List.getElem?_cons_succ, List.set_cons_zero, List.set_cons_succ, List.reduceReplicate, Nat.reduceAdd, Nat.reduceSub, Nat.zero_add, sz0, sz1, sz2, sz3, sz4, sz5, sz6, sz7, sz8, sz9, sz10, sz11, sz12, exists_eq_left, exists_eq_left', exists_eq_right, exists_and_left, exists_and_right, exists_const, exists_eq, List.cons.injEq, and_true, true_and, if_true, if_false, Bool.true_eq_false, Bool.false_eq_true, Bool.not_true, Bool.not_false, ite_true, ite_false, DL.D.int.injEq, DL.D.ty.injEq, DL.D.str.injEq, DL.D.tup.injEq, DL.D.lst.injEq, DL.D.ptr.injEq, DL.D.bl.injEq, DL.dNever, Option.some.injEq, eq_self, reduceIte, kitB_ii, kitB_ib, reduceCtorEq, and_self, and_assoc, decide_eq_true_eq])
          refine ⟨_, p.toNat, ix_d (by omega) (by rw [List.length_map]; exact hq), _, .there .here, ?_⟩
          have hnd : (rowN fs n i).Nodup := row_nodup _ _ _
          have hst : ((incr (madeN fs n i) ((rowN fs n i).take j)).map D.int).set p.toNat (.int ((incr (madeN fs n i) ((rowN fs n i).take j)).getD p.toNat 0 + 1)) = (incr (madeN fs n i) ((rowN fs n i).take (j + 1))).map D.int := by
            rw [← incr_step hnd e p0 (by omega), List.map_set]
          have hval : (incr (madeN fs n i) ((rowN fs n i).take (j + 1))).getD p.toNat 0 = (madeN fs n i).getD p.toNat 0 + 1 := by
            rw [incr_getD _ _ _ (by omega), if_pos (by rw [List.take_add_one, e]; exact List.mem_append.mpr (.inr (List.mem_singleton.mpr (by omega))))]
          rw [hst]
          subst hK2
          (try simp only [DL.dRet, DL.dAsg, DL.dSeq, DL.dNext, DL.dIfS, DL.dDrop, DL.dName, DL.dVar, DL.dVarF, dC, DL.dCons, DL.dNil, DL.dOp, DL.dUn, DL.dTest, DL.dCB, DL.dTup, DL.dLst, DL.dLstM, DL.dgTup, DL.dgNil, DL.dgCons, DL.dAndV, DL.dOrV, DL.dNotV, DL.dAndT, DL.dOrT, DL.dNotT, DL.dIf, DL.dIsN, DL.dNotN, DL.isNon, DL.dCall, DL.dCallN, DL.dPar, DL.dPar3, DL.dFrz, DL.dSl, DL.dNoPart, DL.dPart, q_ixT, q_ixL, q_ixS, q_ixP, q_ixC, q_int, q_int0, q_addI, q_addS, q_addT, q_addL, q_mulI, q_mulL, q_mulM, q_lenS, q_lenT, q_lenL, q_lenX, q_lenP, q_intI, q_intB, q_eqI, q_eqS, q_eqB, q_neI, q_neS, q_neB, q_slT, q_slL, q_slX, q_slP, q_slS, DL.dIt_q, q_itL, q_itT, q_itX, DL.rAbs, DL.rMin2, DL.rMax2, DL.rTupOf, DL.rLstOf, DL.rLstOfM, DL.rIsiD, DL.Items, DL.ItemsL, DL.TyM, DL.dFor, DL.dRange1, DL.dRange2, DL.dEnum_q, q_enL, q_enT, q_enX, DL.dZip, DL.dBM, DL.dBM0, DL.TyD, DL.rAppendD, DL.rExtendD, DL.rPopD, DL.seqOf, DL.dDNewT, DL.dDNewK, DL.dLc, DL.dLcM, DL.dComp, DL.dYes, DL.dChain, DL.wipeR, DL.dTurns, DL.dgSubL, DL.startR, List.map_cons, List.map_nil, List.length_cons, List.length_nil, List.cons_append, List.nil_append, List.getElem?_cons_zero, List.getElem?_cons_succ, List.set_cons_zero, List.set_cons_succ, List.reduceReplicate, Nat.reduceAdd, Nat.reduceSub, Nat.zero_add, sz0, sz1, sz2, sz3, sz4, sz5, sz6, sz7, sz8, sz9, sz10, sz11, sz12, exists_eq_left, exists_eq_left', exists_eq_right, exists_and_left, exists_and_right, exists_const, exists_eq, List.cons.injEq, and_true, true_and, if_true, if_false, Bool.true_eq_false, Bool.false_eq_true, Bool.not_true, Bool.not_false, ite_true, ite_false, DL.D.int.injEq, DL.D.ty.injEq, DL.D.str.injEq, DL.D.tup.injEq, DL.D.lst.injEq, DL.D.ptr.injEq, DL.D.bl.injEq, DL.dNever, Option.some.injEq, eq_self, reduceIte, kitB_ii, kitB_ib, reduceCtorEq, and_self, and_assoc, decide_eq_true_eq])
          have gm : atI ((incr (madeN fs n i) ((rowN fs n i).take (j + 1))).map D.int) p = some (.int ((madeN fs n i).getD p.toNat 0 + 1)) := by
            rw [← hval]
            exact at_d (j := p.toNat) (by rw [List.getElem?_map, getD_get (by rw [incr_len]; omega)]; rfl) (by omega)
          have gf : atI (fs.map D.int) p = some (.int (fs.getD p.toNat 0)) := at_d (j := p.toNat) (by rw [List.getElem?_map, getD_get (by omega)]; rfl) (by omega)
          have hfp := hfd p.toNat (by omega)
          refine ⟨_, .tail _ (.head _), _, gm, hx.ix gf ?_⟩
          (try simp only [DL.dRet, DL.dAsg, DL.dSeq, DL.dNext, DL.dIfS, DL.dDrop, DL.dName, DL.dVar, DL.dVarF, dC, DL.dCons, DL.dNil, DL.dOp, DL.dUn, DL.dTest, DL.dCB, DL.dTup, DL.dLst, DL.dLstM, DL.dgTup, DL.dgNil, DL.dgCons, DL.dAndV, DL.dOrV, DL.dNotV, DL.dAndT, DL.dOrT, DL.dNotT, DL.dIf, DL.dIsN, DL.dNotN, DL.isNon, DL.dCall, DL.dCallN, DL.dPar, DL.dPar3, DL.dFrz, DL.dSl, DL.dNoPart, DL.dPart, q_ixT, q_ixL, q_ixS, q_ixP, q_ixC, q_int, q_int0, q_addI, q_addS, q_addT, q_addL, q_mulI, q_mulL, q_mulM, q_lenS, q_lenT, q_lenL, q_lenX, q_lenP, q_intI, q_intB, q_eqI, q_eqS, q_eqB, q_neI, q_neS, q_neB, q_slT, q_slL, q_slX, q_slP, q_slS, DL.dIt_q, q_itL, q_itT, q_itX, DL.rAbs, DL.rMin2, DL.rMax2, DL.rTupOf, DL.rLstOf, DL.rLstOfM, DL.rIsiD, DL.Items, DL.ItemsL, DL.TyM, DL.dFor, DL.dRange1, DL.dRange2, DL.dEnum_q, q_enL, q_enT, q_enX, DL.dZip, DL.dBM, DL.dBM0, DL.TyD, DL.rAppendD, DL.rExtendD, DL.rPopD, DL.seqOf, DL.dDNewT, DL.dDNewK, DL.dLc, DL.dLcM, DL.dComp, DL.dYes, DL.dChain, DL.wipeR, DL.dTurns, DL.dgSubL, DL.startR, List.map_cons, List.map_nil, List.length_cons, List.length_nil, List.cons_append, List.nil_append, List.getElem?_cons_zero, List.getElem?_cons_succ, List.set_cons_zero, List.set_cons_succ, List.reduceReplicate, Nat.reduceAdd, Nat.reduceSub, Nat.zero_add, sz0, sz1, sz2, sz3, sz4, sz5, sz6, sz7, sz8, sz9, sz10, sz11, sz12, exists_eq_left, exists_eq_left', exists_eq_right, exists_and_left, exists_and_right, exists_const, exists_eq, List.cons.injEq, and_true, true_and, if_true, if_false, Bool.true_eq_false, Bool.false_eq_true, Bool.not_true, Bool.not_false, ite_true, ite_false, DL.D.int.injEq, DL.D.ty.injEq, DL.D.str.injEq, DL.D.tup.injEq, DL.D.lst.injEq, DL.D.ptr.injEq, DL.D.bl.injEq, DL.dNever, Option.some.injEq, eq_self, reduceIte, kitB_ii, kitB_ib, reduceCtorEq, and_self, and_assoc, decide_eq_true_eq])
          refine ⟨mul_small (.inr ⟨by omega, by omega⟩), ?_⟩
          have hls := lateOf_step (fs := fs) (made := madeN fs n i) (t := i) e
          have hlen := found1_len fs n i
          have hlen2 := lateOf_len fs (madeN fs n i) i ((rowN fs n i).take j)
          have hlen3 := row_len fs n (madeN fs n i)
          have hlen4 : ((rowN fs n i).take j).length ≤ n := by rw [List.length_take]; exact Nat.le_trans (Nat.min_le_right _ _) hlen3
          have hni : n * i ≤ 8 * 60 := Nat.mul_le_mul (by omega) (by omega)
          by_cases hc : ((madeN fs n i).getD p.toNat 0 + 1) * fs.getD p.toNat 0 ≤ (i : Int)
          · rw [if_pos hc] at hls ⊢
            refine ⟨⟨_, .head _⟩, _, .tail _ (.head _), _, gm, _, (by rw [List.length_map, List.length_append]; omega), _, .here, hN2 _ _ ⟨_, _, _, _, rfl, ?_⟩⟩
            rw [hls, ← List.append_assoc, List.map_append (l₂ := [_])]
            rfl
          · rw [if_neg hc] at hls ⊢
            refine hN2 _ _ ⟨_, _, _, _, rfl, ?_⟩
            rw [hls]
      · intro ρ M' hW
        obtain ⟨d8, d9, d10, d11, rfl, rfl⟩ := hW
        refine hN _ _ ⟨_, _, _, _, _, _, rfl, ?_⟩
        rw [List.length_map, List.take_length, found1_succ]
        rfl
    · intro ρ M' hW
      obtain ⟨d6, d7, d8, d9, d10, d11, rfl, rfl⟩ := hW
      rw [enumD_len, show (rowsD fs n m).length = m by unfold rowsD; rw [List.length_map, List.length_range]]
      subst hK1
      dsimp only
      refine seq_i fun K1 hK1 => ?_
      (try simp only [DL.dRet, DL.dAsg, DL.dSeq, DL.dNext, DL.dIfS, DL.dDrop, DL.dName, DL.dVar, DL.dVarF, dC, DL.dCons, DL.dNil, DL.dOp, DL.dUn, DL.dTest, DL.dCB, DL.dTup, DL.dLst, DL.dLstM, DL.dgTup, DL.dgNil, DL.dgCons, DL.dAndV, DL.dOrV, DL.dNotV, DL.dAndT, DL.dOrT, DL.dNotT, DL.dIf, DL.dIsN, DL.dNotN, DL.isNon, DL.dCall, DL.dCallN, DL.dPar, DL.dPar3, DL.dFrz, DL.dSl, DL.dNoPart, DL.dPart, q_ixT, q_ixL, q_ixS, q_ixP, q_ixC, q_int, q_int0, q_addI, q_addS, q_addT, q_addL, q_mulI, q_mulL, q_mulM, q_lenS, q_lenT, q_lenL, q_lenX, q_lenP, q_intI, q_intB, q_eqI, q_eqS, q_eqB, q_neI, q_neS, q_neB, q_slT, q_slL, q_slX, q_slP, q_slS, DL.dIt_q, q_itL, q_itT, q_itX, DL.rAbs, DL.rMin2, DL.rMax2, DL.rTupOf, DL.rLstOf, DL.rLstOfM, DL.rIsiD, DL.Items, DL.ItemsL, DL.TyM, DL.dFor, DL.dRange1, DL.dRange2, DL.dEnum_q, q_enL, q_enT, q_enX, DL.dZip, DL.dBM, DL.dBM0, DL.TyD, DL.rAppendD, DL.rExtendD, DL.rPopD, DL.seqOf, DL.dDNewT, DL.dDNewK, DL.dLc, DL.dLcM, DL.dComp, DL.dYes, DL.dChain, DL.wipeR, DL.dTurns, DL.dgSubL, DL.startR, List.map_cons, List.map_nil, List.length_cons, List.length_nil, List.cons_append, List.nil_append, List.getElem?_cons_zero, List.getElem?_cons_succ, List.set_cons_zero, List.set_cons_succ, List.reduceReplicate, Nat.reduceAdd, Nat.reduceSub, Nat.zero_add, sz0, sz1, sz2, sz3, sz4, sz5, sz6, sz7, sz8, sz9, sz10, sz11, sz12, exists_eq_left, exists_eq_left', exists_eq_right, exists_and_left, exists_and_right, exists_const, exists_eq, List.cons.injEq, and_true, true_and, if_true, if_false, Bool.true_eq_false, Bool.false_eq_true, Bool.not_true, Bool.not_false, ite_true, ite_false, DL.D.int.injEq, DL.D.ty.injEq, DL.D.str.injEq, DL.D.tup.injEq, DL.D.lst.injEq, DL.D.ptr.injEq, DL.D.bl.injEq, DL.dNever, Option.some.injEq, eq_self, reduceIte, kitB_ii, kitB_ib, reduceCtorEq, and_self, and_assoc, decide_eq_true_eq])
      refine hx.en ?_
      refine dTurns_inv (fun i ρ M' => ∃ d6 d7 d8 d9 d10 d11, ρ = [some x, some (.int n), some (.int m), some (.tup (rowsD fs n m)), some (.ptr pm), some (.ptr pf), d6, d7, d8, d9, d10, d11] ∧
        M' = (pf, .lst ((found2 fs n m i).map prD)) :: (pm, .lst ((madeN fs n m).map D.int)) :: M) ?_ ?_ ?_
      · refine ⟨_, _, _, _, _, _, rfl, ?_⟩
        unfold found2
        rw [List.range_zero, List.map_nil, List.flatten_nil, List.append_nil]
      · intro i y ρ M' hy hW N hN
        obtain ⟨d6, d7, d8, d9, d10, d11, rfl, rfl⟩ := hW
        have hi : i < fs.length := by
          have := (List.getElem?_eq_some_iff.mp hy).1
          rw [enumD_len, List.length_map] at this
          exact this
        have hfi := hfd i hi
        have hy2 : y = .tup [.int (i : Nat), .int (fs.getD i 0)] := by
          rw [enumD_get, List.getElem?_map, List.getElem?_eq_getElem hi] at hy
          rw [List.getD_eq_getElem?_getD, List.getElem?_eq_getElem hi]
          exact (Option.some.inj hy).symm
        subst hy2
        have hml := madeN_len fs n m
        have gm : atI ((madeN fs n m).map D.int) (i : Int) = some (.int ((madeN fs n m).getD i 0)) := at_d (j := i) (by rw [List.getElem?_map, getD_get (by omega)]; rfl) rfl
        have hr := madeN_range fs n m i hi
        have hd := div_small hfi.1 (show (0 : Int) ≤ m by omega)
        (try simp only [DL.dRet, DL.dAsg, DL.dSeq, DL.dNext, DL.dIfS, DL.dDrop, DL.dName, DL.dVar, DL.dVarF, dC, DL.dCons, DL.dNil, DL.dOp, DL.dUn, DL.dTest, DL.dCB, DL.dTup, DL.dLst, DL.dLstM, DL.dgTup, DL.dgNil, DL.dgCons, DL.dAndV, DL.dOrV, DL.dNotV, DL.dAndT, DL.dOrT, DL.dNotT, DL.dIf, DL.dIsN, DL.dNotN, DL.isNon, DL.dCall, DL.dCallN, DL.dPar, DL.dPar3, DL.dFrz, DL.dSl, DL.dNoPart, DL.dPart, q_ixT, q_ixL, q_ixS, q_ixP, q_ixC, q_int, q_int0, q_addI, q_addS, q_addT, q_addL, q_mulI, q_mulL, q_mulM, q_lenS, q_lenT, q_lenL, q_lenX, q_lenP, q_intI, q_intB, q_eqI, q_eqS, q_eqB, q_neI, q_neS, q_neB, q_slT, q_slL, q_slX, q_slP, q_slS, DL.dIt_q, q_itL, q_itT, q_itX, DL.rAbs, DL.rMin2, DL.rMax2, DL.rTupOf, DL.rLstOf, DL.rLstOfM, DL.rIsiD, DL.Items, DL.ItemsL, DL.TyM, DL.dFor, DL.dRange1, DL.dRange2, DL.dEnum_q, q_enL, q_enT, q_enX, DL.dZip, DL.dBM, DL.dBM0, DL.TyD, DL.rAppendD, DL.rExtendD, DL.rPopD, DL.seqOf, DL.dDNewT, DL.dDNewK, DL.dLc, DL.dLcM, DL.dComp, DL.dYes, DL.dChain, DL.wipeR, DL.dTurns, DL.dgSubL, DL.startR, List.map_cons, List.map_nil, List.length_cons, List.length_nil, List.cons_append, List.nil_append, List.getElem?_cons_zero, List.getElem?_cons_succ, List.set_cons_zero, List.set_cons_succ, List.reduceReplicate, Nat.reduceAdd, Nat.reduceSub, Nat.zero_add, sz0, sz1, sz2, sz3, sz4, sz5, sz6, sz7, sz8, sz9, sz10, sz11, sz12, exists_eq_left, exists_eq_left', exists_eq_right, exists_and_left, exists_and_right, exists_const, exists_eq, List.cons.injEq, and_true, true_and, if_true, if_false, Bool.true_eq_false, Bool.false_eq_true, Bool.not_true, Bool.not_false, ite_true, ite_false, DL.D.int.injEq, DL.D.ty.injEq, DL.D.str.injEq, DL.D.tup.injEq, DL.D.lst.injEq, DL.D.ptr.injEq, DL.D.bl.injEq, DL.dNever, Option.some.injEq, eq_self, reduceIte, kitB_ii, kitB_ib, reduceCtorEq, and_self, and_assoc, decide_eq_true_eq])
        refine ⟨⟨_, .head _⟩, _, .tail _ (.head _), _, gm, ?_⟩
        (try simp only [DL.dRet, DL.dAsg, DL.dSeq, DL.dNext, DL.dIfS, DL.dDrop, DL.dName, DL.dVar, DL.dVarF, dC, DL.dCons, DL.dNil, DL.dOp, DL.dUn, DL.dTest, DL.dCB, DL.dTup, DL.dLst, DL.dLstM, DL.dgTup, DL.dgNil, DL.dgCons, DL.dAndV, DL.dOrV, DL.dNotV, DL.dAndT, DL.dOrT, DL.dNotT, DL.dIf, DL.dIsN, DL.dNotN, DL.isNon, DL.dCall, DL.dCallN, DL.dPar, DL.dPar3, DL.dFrz, DL.dSl, DL.dNoPart, DL.dPart, q_ixT, q_ixL, q_ixS, q_ixP, q_ixC, q_int, q_int0, q_addI, q_addS, q_addT, q_addL, q_mulI, q_mulL, q_mulM, q_lenS, q_lenT, q_lenL, q_lenX, q_lenP, q_intI, q_intB, q_eqI, q_eqS, q_eqB, q_neI, q_neS, q_neB, q_slT, q_slL, q_slX, q_slP, q_slS, DL.dIt_q, q_itL, q_itT, q_itX, DL.rAbs, DL.rMin2, DL.rMax2, DL.rTupOf, DL.rLstOf, DL.rLstOfM, DL.rIsiD, DL.Items, DL.ItemsL, DL.TyM, DL.dFor, DL.dRange1, DL.dRange2, DL.dEnum_q, q_enL, q_enT, q_enX, DL.dZip, DL.dBM, DL.dBM0, DL.TyD, DL.rAppendD, DL.rExtendD, DL.rPopD, DL.seqOf, DL.dDNewT, DL.dDNewK, DL.dLc, DL.dLcM, DL.dComp, DL.dYes, DL.dChain, DL.wipeR, DL.dTurns, DL.dgSubL, DL.startR, List.map_cons, List.map_nil, List.length_cons, List.length_nil, List.cons_append, List.nil_append, List.getElem?_cons_zero, List.getElem?_cons_succ, List.set_cons_zero, List.set_cons_succ, List.reduceReplicate, Nat.reduceAdd, Nat.reduceSub, Nat.zero_add, sz0, sz1, sz2, sz3, sz4, sz5, sz6, sz7, sz8, sz9, sz10, sz11, sz12, exists_eq_left, exists_eq_left', exists_eq_right, exists_and_left, exists_and_right, exists_const, exists_eq, List.cons.injEq, and_true, true_and, if_true, if_false, Bool.true_eq_false, Bool.false_eq_true, Bool.not_true, Bool.not_false, ite_true, ite_false, DL.D.int.injEq, DL.D.ty.injEq, DL.D.str.injEq, DL.D.tup.injEq, DL.D.lst.injEq, DL.D.ptr.injEq, DL.D.bl.injEq, DL.dNever, Option.some.injEq, eq_self, reduceIte, kitB_ii, kitB_ib, reduceCtorEq, and_self, and_assoc, decide_eq_true_eq])
        refine ⟨⟨by omega, by omega⟩, by omega, by omega, by omega, by omega, ?_⟩
        have hrl := restP_len (h := n) (n := m) hf hi
        refine comp_to ((restP fs n m i).map prD) (by rw [List.length_map, rangeD_len]; unfold restP; rw [List.length_map, List.length_range]) (by rw [rangeD_len]; omega) (fun k u v hu hv R N' hR => ?_) ?_
        · have hk := (List.getElem?_eq_some_iff.mp hu).1
          rw [rangeD_len] at hk
          rw [rangeD_get hk] at hu
          cases hu
          unfold restP at hv
          rw [List.getElem?_map, List.getElem?_map, List.getElem?_range hk] at hv
          cases hv
          (try simp only [DL.dRet, DL.dAsg, DL.dSeq, DL.dNext, DL.dIfS, DL.dDrop, DL.dName, DL.dVar, DL.dVarF, dC, DL.dCons, DL.dNil, DL.dOp, DL.dUn, DL.dTest, DL.dCB, DL.dTup, DL.dLst, DL.dLstM, DL.dgTup, DL.dgNil, DL.dgCons, DL.dAndV, DL.dOrV, DL.dNotV, DL.dAndT, DL.dOrT, DL.dNotT, DL.dIf, DL.dIsN, DL.dNotN, DL.isNon, DL.dCall, DL.dCallN, DL.dPar, DL.dPar3, DL.dFrz, DL.dSl, DL.dNoPart, DL.dPart, q_ixT, q_ixL, q_ixS, q_ixP, q_ixC, q_int, q_int0, q_addI, q_addS, q_addT, q_addL, q_mulI, q_mulL, q_mulM, q_lenS, q_lenT, q_lenL, q_lenX, q_lenP, q_intI, q_intB, q_eqI, q_eqS, q_eqB, q_neI, q_neS, q_neB, q_slT, q_slL, q_slX, q_slP, q_slS, DL.dIt_q, q_itL, q_itT, q_itX, DL.rAbs, DL.rMin2, DL.rMax2, DL.rTupOf, DL.rLstOf, DL.rLstOfM, DL.rIsiD, DL.Items, DL.ItemsL, DL.TyM, DL.dFor, DL.dRange1, DL.dRange2, DL.dEnum_q, q_enL, q_enT, q_enX, DL.dZip, DL.dBM, DL.dBM0, DL.TyD, DL.rAppendD, DL.rExtendD, DL.rPopD, DL.seqOf, DL.dDNewT, DL.dDNewK, DL.dLc, DL.dLcM, DL.dComp, DL.dYes, DL.dChain, DL.wipeR, DL.dTurns, DL.dgSubL, DL.startR, List.map_cons, List.map_nil, List.length_cons, List.length_nil, List.cons_append, List.nil_append, List.getElem?_cons_zero, List.getElem?_cons_succ, List.set_cons_zero, List.set_cons_succ, List.reduceReplicate, Nat.reduceAdd, Nat.reduceSub, Nat.zero_add, sz0, sz1, sz2, sz3, sz4, sz5, sz6, sz7, sz8, sz9, sz10, sz11, sz12, exists_eq_left, exists_eq_left', exists_eq_right, exists_and_left, exists_and_right, exists_const, exists_eq, List.cons.injEq, and_true, true_and, if_true, if_false, Bool.true_eq_false, Bool.false_eq_true, Bool.not_true, Bool.not_false, ite_true, ite_false, DL.D.int.injEq, DL.D.ty.injEq, DL.D.str.injEq, DL.D.tup.injEq, DL.D.lst.injEq, DL.D.ptr.injEq, DL.D.bl.injEq, DL.dNever, Option.some.injEq, eq_self, reduceIte, kitB_ii, kitB_ib, reduceCtorEq, and_self, and_assoc, decide_eq_true_eq])
          exact hR
        · have h2 := found2_len (h := n) (n := m) (k := i) hf (by omega)
          have hnm : n * m ≤ 8 * 60 := Nat.mul_le_mul (by omega) (by omega)
          have hmi : m * i ≤ 60 * 25 := Nat.mul_le_mul (by omega) (by omega)
          refine ⟨_, _, rfl, by rw [List.length_map, List.length_map]; omega, _, .here, hN _ _ ⟨_, _, _, _, _, _, rfl, ?_⟩⟩
          rw [found2_succ, List.map_append]
      · intro ρ M' hW
        obtain ⟨d6, d7, d8, d9, d10, d11, rfl, rfl⟩ := hW
        rw [enumD_len, List.length_map]
        subst hK1
        have h2 := found2_len (h := n) (n := m) (k := fs.length) hf (by omega)
        have hnm : n * m ≤ 8 * 60 := Nat.mul_le_mul (by omega) (by omega)
        have hmi : m * fs.length ≤ 60 * 25 := Nat.mul_le_mul (by omega) (by omega)
        (try simp only [DL.dRet, DL.dAsg, DL.dSeq, DL.dNext, DL.dIfS, DL.dDrop, DL.dName, DL.dVar, DL.dVarF, dC, DL.dCons, DL.dNil, DL.dOp, DL.dUn, DL.dTest, DL.dCB, DL.dTup, DL.dLst, DL.dLstM, DL.dgTup, DL.dgNil, DL.dgCons, DL.dAndV, DL.dOrV, DL.dNotV, DL.dAndT, DL.dOrT, DL.dNotT, DL.dIf, DL.dIsN, DL.dNotN, DL.isNon, DL.dCall, DL.dCallN, DL.dPar, DL.dPar3, DL.dFrz, DL.dSl, DL.dNoPart, DL.dPart, q_ixT, q_ixL, q_ixS, q_ixP, q_ixC, q_int, q_int0, q_addI, q_addS, q_addT, q_addL, q_mulI, q_mulL, q_mulM, q_lenS, q_lenT, q_lenL, q_lenX, q_lenP, q_intI, q_intB, q_eqI, q_eqS, q_eqB, q_neI, q_neS, q_neB, q_slT, q_slL, q_slX, q_slP, q_slS, DL.dIt_q, q_itL, q_itT, q_itX, DL.rAbs, DL.rMin2, DL.rMax2, DL.rTupOf, DL.rLstOf, DL.rLstOfM, DL.rIsiD, DL.Items, DL.ItemsL, DL.TyM, DL.dFor, DL.dRange1, DL.dRange2, DL.dEnum_q, q_enL, q_enT, q_enX, DL.dZip, DL.dBM, DL.dBM0, DL.TyD, DL.rAppendD, DL.rExtendD, DL.rPopD, DL.seqOf, DL.dDNewT, DL.dDNewK, DL.dLc, DL.dLcM, DL.dComp, DL.dYes, DL.dChain, DL.wipeR, DL.dTurns, DL.dgSubL, DL.startR, List.map_cons, List.map_nil, List.length_cons, List.length_nil, List.cons_append, List.nil_append, List.getElem?_cons_zero, List.getElem?_cons_succ, List.set_cons_zero, List.set_cons_succ, List.reduceReplicate, Nat.reduceAdd, Nat.reduceSub, Nat.zero_add, sz0, sz1, sz2, sz3, sz4, sz5, sz6, sz7, sz8, sz9, sz10, sz11, sz12, exists_eq_left, exists_eq_left', exists_eq_right, exists_and_left, exists_and_right, exists_const, exists_eq, List.cons.injEq, and_true, true_and, if_true, if_false, Bool.true_eq_false, Bool.false_eq_true, Bool.not_true, Bool.not_false, ite_true, ite_false, DL.D.int.injEq, DL.D.ty.injEq, DL.D.str.injEq, DL.D.tup.injEq, DL.D.lst.injEq, DL.D.ptr.injEq, DL.D.bl.injEq, DL.dNever, Option.some.injEq, eq_self, reduceIte, kitB_ii, kitB_ib, reduceCtorEq, and_self, and_assoc, decide_eq_true_eq])
        refine ⟨_, .head _, ?_⟩
        rw [if_neg (by rw [List.length_map]; omega)]
        refine sortPp_q (.head _) (fun ps' hp hs => ?_)
        have := late_eq hf hp hs
        subst this
        (try simp only [DL.dRet, DL.dAsg, DL.dSeq, DL.dNext, DL.dIfS, DL.dDrop, DL.dName, DL.dVar, DL.dVarF, dC, DL.dCons, DL.dNil, DL.dOp, DL.dUn, DL.dTest, DL.dCB, DL.dTup, DL.dLst, DL.dLstM, DL.dgTup, DL.dgNil, DL.dgCons, DL.dAndV, DL.dOrV, DL.dNotV, DL.dAndT, DL.dOrT, DL.dNotT, DL.dIf, DL.dIsN, DL.dNotN, DL.isNon, DL.dCall, DL.dCallN, DL.dPar, DL.dPar3, DL.dFrz, DL.dSl, DL.dNoPart, DL.dPart, q_ixT, q_ixL, q_ixS, q_ixP, q_ixC, q_int, q_int0, q_addI, q_addS, q_addT, q_addL, q_mulI, q_mulL, q_mulM, q_lenS, q_lenT, q_lenL, q_lenX, q_lenP, q_intI, q_intB, q_eqI, q_eqS, q_eqB, q_neI, q_neS, q_neB, q_slT, q_slL, q_slX, q_slP, q_slS, DL.dIt_q, q_itL, q_itT, q_itX, DL.rAbs, DL.rMin2, DL.rMax2, DL.rTupOf, DL.rLstOf, DL.rLstOfM, DL.rIsiD, DL.Items, DL.ItemsL, DL.TyM, DL.dFor, DL.dRange1, DL.dRange2, DL.dEnum_q, q_enL, q_enT, q_enX, DL.dZip, DL.dBM, DL.dBM0, DL.TyD, DL.rAppendD, DL.rExtendD, DL.rPopD, DL.seqOf, DL.dDNewT, DL.dDNewK, DL.dLc, DL.dLcM, DL.dComp, DL.dYes, DL.dChain, DL.wipeR, DL.dTurns, DL.dgSubL, DL.startR, List.map_cons, List.map_nil, List.length_cons, List.length_nil, List.cons_append, List.nil_append, List.getElem?_cons_zero, List.getElem?_cons_succ, List.set_cons_zero, List.set_cons_succ, List.reduceReplicate, Nat.reduceAdd, Nat.reduceSub, Nat.zero_add, sz0, sz1, sz2, sz3, sz4, sz5, sz6, sz7, sz8, sz9, sz10, sz11, sz12, exists_eq_left, exists_eq_left', exists_eq_right, exists_and_left, exists_and_right, exists_const, exists_eq, List.cons.injEq, and_true, true_and, if_true, if_false, Bool.true_eq_false, Bool.false_eq_true, Bool.not_true, Bool.not_false, ite_true, ite_false, DL.D.int.injEq, DL.D.ty.injEq, DL.D.str.injEq, DL.D.tup.injEq, DL.D.lst.injEq, DL.D.ptr.injEq, DL.D.bl.injEq, DL.dNever, Option.some.injEq, eq_self, reduceIte, kitB_ii, kitB_ib, reduceCtorEq, and_self, and_assoc, decide_eq_true_eq])
        exact rtW_w (.skip (.skip (.refl _))) h
    ⟩

theorem ok_law {f : Addr} {fd : FuncData} (F : Fun K "law" "law" s_law f fd) (T : Txt K mg) : FnG P w K mg base 7 f fd ["_law_script"] (toSp K lawSp) :=
  fun_okG F sc_law (fun ds M Q E h => by obtain ⟨ns, rfl, _⟩ := h; rfl) fun cdv A outer s H E hg hr => ⟨_, (dss_cons (ds_set (i := 1) sc_law.nd rfl (by first | exact .inl rfl | exact .inr rfl) (de_call (ok_law_urn T) (hr.mono (by decide)) T.g_law_urn T.F_law_urn.kp T.b_law_urn (da_cons (de_var 0) da_nil))) (dss_cons (ds_for PassesOwn.never rfl (di_range1 T.n_range (da_cons de_int da_nil)) (dg_name (i := 2) sc_law.nd rfl (by first | exact .inl rfl | exact .inr rfl)) (dss_cons (ds_set (i := 3) sc_law.nd rfl (by first | exact .inl rfl | exact .inr rfl) (de_call (ok_law_pick T) (hr.mono (by decide)) T.g_law_pick T.F_law_pick.kp T.b_law_pick (da_cons (de_var 1) (da_cons (de_lst (da_cons de_int (da_cons de_int (da_cons de_int (da_cons de_int (da_cons de_int (da_cons (de_add de_int (de_call (ok_law_dip T) (hr.mono (by decide)) T.g_law_dip T.F_law_dip.kp T.b_law_dip (da_cons (de_var 1) (da_cons de_int da_nil)))) da_nil))))))) da_nil)))) (dss_cons (ds_asg (de_tup (da_cons (de_call (ok_law_factors T) (hr.mono (by decide)) T.g_law_factors T.F_law_factors.kp T.b_law_factors (da_cons (de_var 1) (da_cons (de_var 3) da_nil))) (da_cons (de_call (ok_law_pick T) (hr.mono (by decide)) T.g_law_pick T.F_law_pick.kp T.b_law_pick (da_cons (de_var 1) (da_cons (de_lst (da_cons de_int (da_cons de_int (da_cons de_int (da_cons (de_call (ok_law_dip T) (hr.mono (by decide)) T.g_law_dip T.F_law_dip.kp T.b_law_dip (da_cons (de_var 1) (da_cons de_int da_nil))) da_nil))))) da_nil))) da_nil))) (dg_tup (n := 2) rfl (dgs_cons (dg_name (i := 4) sc_law.nd rfl (by first | exact .inl rfl | exact .inr rfl)) (dgs_cons (dg_name (i := 5) sc_law.nd rfl (by first | exact .inl rfl | exact .inr rfl)) dgs_nil)))) (dss_cons (ds_asg (de_call (ok_law_plan T) (hr.mono (by decide)) T.g_law_plan T.F_law_plan.kp T.b_law_plan (da_cons (de_var 4) (da_cons (de_var 3) (da_cons (de_var 5) da_nil)))) (dg_tup (n := 2) rfl (dgs_cons (dg_name (i := 6) sc_law.nd rfl (by first | exact .inl rfl | exact .inr rfl)) (dgs_cons (dg_name (i := 7) sc_law.nd rfl (by first | exact .inl rfl | exact .inr rfl)) dgs_nil)))) (dss_cons (ds_if (dt_neF (de_callB (call_reprV (guards_deeper hg) hr.units) ref_repr T.n_repr bt_repr (da_cons (de_callN0 (fun xs => match xs with | [x0, x1, x2] => [x2, x1, x0] | _ => []) (ok_hands_plan T) (hr.mono (by decide)) T.g_hands_plan T.F_hands_plan.kp T.kb_hands_plan_ticks_hands_factors (fun F vs ds l r => by match vs, ds, l, r with | [_, _, _], _, _, .cons h0 (.cons h1 (.cons h2 (.nil))) => exact .cons h2 (.cons h1 (.cons h0 (.nil)))) (dk_cons (de_var 5) (dk_cons (de_var 3) (dk_cons (de_callTy call_tuple_of ref_tupOf T.n_tuple bt_tuple (da_cons (de_var 4) da_nil)) dk_nil)))) da_nil)) (de_callB (call_reprV (guards_deeper hg) hr.units) ref_repr T.n_repr bt_repr (da_cons (de_var 6) da_nil))) (dss_one (ds_ret de_bl)) dss_nil) (dss_cons (ds_set (i := 8) sc_law.nd rfl (by first | exact .inl rfl | exact .inr rfl) (de_lstM da_nil)) (dss_cons (ds_for PassesOwn.never rfl (di_enum T.n_enumerate (da_cons (de_var 4) da_nil)) (dg_tup (n := 2) rfl (dgs_cons (dg_name (i := 9) sc_law.nd rfl (by first | exact .inl rfl | exact .inr rfl)) (dgs_cons (dg_name (i := 10) sc_law.nd rfl (by first | exact .inl rfl | exact .inr rfl)) dgs_nil))) (dss_one (ds_expr (de_bm PySem.F.plainAttrs_list PySem.F.slot_list_extend PySem.F.type_list_extend mt_extend ref_extend (de_var 8) (da_cons (de_lc [("_law_step", 11)] rfl sc_law.nd (di_range2 T.n_range (da_cons de_int (da_cons (de_add (de_fdiv (de_var 5) (de_var 10)) de_int) da_nil))) (blkOk_by (own := [("_law_step", 11)]) (N := N_law) (sc := defScope s_law) (by decide +kernel)) (by decide) (fun _ _ _ _ _ => (dg_name (i := 11) sc_law.nd rfl (by first | exact .inl rfl | exact .inr rfl))) (fun _ _ _ _ _ => (dts_one (dt_gt (de_dget2T (hu_of hr) (de_var 7) (da_cons (de_var 9) (da_cons (de_var 11) da_nil)) (de_add (de_var 5) de_int)) (de_mul (de_var 10) (de_var 11))))) (fun _ _ _ _ _ => (de_tup (da_cons (de_var 9) (da_cons (de_var 11) da_nil))))) da_nil))))) (dss_one (ds_if (dt_neF (de_callB (call_reprV (guards_deeper hg) hr.units) ref_repr T.n_repr bt_repr (da_cons (de_callN0 (fun xs => match xs with | [x0, x1, x2] => [x1, x2, x0] | _ => []) (ok_late_in T) (hr.mono (by decide)) T.g_late_in T.F_late_in.kp T.kb_late_in_ticks_factors_hands (fun F vs ds l r => by match vs, ds, l, r with | [_, _, _], _, _, .cons h0 (.cons h1 (.cons h2 (.nil))) => exact .cons h1 (.cons h2 (.cons h0 (.nil)))) (dk_cons (de_var 5) (dk_cons (de_var 4) (dk_cons (de_var 3) dk_nil)))) da_nil)) (de_callB (call_reprV (guards_deeper hg) hr.units) ref_repr T.n_repr bt_repr (da_cons (de_callTy call_tuple_of ref_tupOf T.n_tuple bt_tuple (da_cons (de_var 8) da_nil)) da_nil))) (dss_one (ds_ret de_bl)) dss_nil))))))))) (dss_one (ds_ret de_bl)))), fun ds M Q E' h => by
    obtain ⟨ns, rfl, hns, rfl, h⟩ := h
    have hz : (20000 : Nat) < sizeLine := by decide
    refine seq_i fun K1 hK1 => ?_
    (try simp only [DL.dRet, DL.dAsg, DL.dSeq, DL.dNext, DL.dIfS, DL.dDrop, DL.dName, DL.dVar, DL.dVarF, dC, DL.dCons, DL.dNil, DL.dOp, DL.dUn, DL.dTest, DL.dCB, DL.dTup, DL.dLst, DL.dLstM, DL.dgTup, DL.dgNil, DL.dgCons, DL.dAndV, DL.dOrV, DL.dNotV, DL.dAndT, DL.dOrT, DL.dNotT, DL.dIf, DL.dIsN, DL.dNotN, DL.isNon, DL.dCall, DL.dCallN, DL.dPar, DL.dPar3, DL.dFrz, DL.dSl, DL.dNoPart, DL.dPart, q_ixT, q_ixL, q_ixS, q_ixP, q_ixC, q_int, q_int0, q_addI, q_addS, q_addT, q_addL, q_mulI, q_mulL, q_mulM, q_lenS, q_lenT, q_lenL, q_lenX, q_lenP, q_intI, q_intB, q_eqI, q_eqS, q_eqB, q_neI, q_neS, q_neB, q_slT, q_slL, q_slX, q_slP, q_slS, DL.dIt_q, q_itL, q_itT, q_itX, DL.rAbs, DL.rMin2, DL.rMax2, DL.rTupOf, DL.rLstOf, DL.rLstOfM, DL.rIsiD, DL.Items, DL.ItemsL, DL.TyM, DL.dFor, DL.dRange1, DL.dRange2, DL.dEnum_q, q_enL, q_enT, q_enX, DL.dZip, DL.dBM, DL.dBM0, DL.TyD, DL.rAppendD, DL.rExtendD, DL.rPopD, DL.seqOf, DL.dDNewT, DL.dDNewK, DL.dLc, DL.dLcM, DL.dComp, DL.dYes, DL.dChain, DL.wipeR, DL.dTurns, DL.dgSubL, DL.startR, List.map_cons, List.map_nil, List.length_cons, List.length_nil, List.cons_append, List.nil_append, List.getElem?_cons_zero, List.getElem?_cons_succ, List.set_cons_zero, List.set_cons_succ, List.reduceReplicate, Nat.reduceAdd, Nat.reduceSub, Nat.zero_add, sz0, sz1, sz2, sz3, sz4, sz5, sz6, sz7, sz8, sz9, sz10, sz11, sz12, exists_eq_left, exists_eq_left', exists_eq_right, exists_and_left, exists_and_right, exists_const, exists_eq, List.cons.injEq, and_true, true_and, if_true, if_false, Bool.true_eq_false, Bool.false_eq_true, Bool.not_true, Bool.not_false, ite_true, ite_false, DL.D.int.injEq, DL.D.ty.injEq, DL.D.str.injEq, DL.D.tup.injEq, DL.D.lst.injEq, DL.D.ptr.injEq, DL.D.bl.injEq, DL.dNever, Option.some.injEq, eq_self, reduceIte, kitB_ii, kitB_ib, reduceCtorEq, and_self, and_assoc, decide_eq_true_eq])
    refine ⟨ns, rfl, hns, fun p o hu0 => ?_⟩
    subst hK1
    refine seq_i fun K1 hK1 => ?_
    (try simp only [DL.dRet, DL.dAsg, DL.dSeq, DL.dNext, DL.dIfS, DL.dDrop, DL.dName, DL.dVar, DL.dVarF, dC, DL.dCons, DL.dNil, DL.dOp, DL.dUn, DL.dTest, DL.dCB, DL.dTup, DL.dLst, DL.dLstM, DL.dgTup, DL.dgNil, DL.dgCons, DL.dAndV, DL.dOrV, DL.dNotV, DL.dAndT, DL.dOrT, DL.dNotT, DL.dIf, DL.dIsN, DL.dNotN, DL.isNon, DL.dCall, DL.dCallN, DL.dPar, DL.dPar3, DL.dFrz, DL.dSl, DL.dNoPart, DL.dPart, q_ixT, q_ixL, q_ixS, q_ixP, q_ixC, q_int, q_int0, q_addI, q_addS, q_addT, q_addL, q_mulI, q_mulL, q_mulM, q_lenS, q_lenT, q_lenL, q_lenX, q_lenP, q_intI, q_intB, q_eqI, q_eqS, q_eqB, q_neI, q_neS, q_neB, q_slT, q_slL, q_slX, q_slP, q_slS, DL.dIt_q, q_itL, q_itT, q_itX, DL.rAbs, DL.rMin2, DL.rMax2, DL.rTupOf, DL.rLstOf, DL.rLstOfM, DL.rIsiD, DL.Items, DL.ItemsL, DL.TyM, DL.dFor, DL.dRange1, DL.dRange2, DL.dEnum_q, q_enL, q_enT, q_enX, DL.dZip, DL.dBM, DL.dBM0, DL.TyD, DL.rAppendD, DL.rExtendD, DL.rPopD, DL.seqOf, DL.dDNewT, DL.dDNewK, DL.dLc, DL.dLcM, DL.dComp, DL.dYes, DL.dChain, DL.wipeR, DL.dTurns, DL.dgSubL, DL.startR, List.map_cons, List.map_nil, List.length_cons, List.length_nil, List.cons_append, List.nil_append, List.getElem?_cons_zero, List.getElem?_cons_succ, List.set_cons_zero, List.set_cons_succ, List.reduceReplicate, Nat.reduceAdd, Nat.reduceSub, Nat.zero_add, sz0, sz1, sz2, sz3, sz4, sz5, sz6, sz7, sz8, sz9, sz10, sz11, sz12, exists_eq_left, exists_eq_left', exists_eq_right, exists_and_left, exists_and_right, exists_const, exists_eq, List.cons.injEq, and_true, true_and, if_true, if_false, Bool.true_eq_false, Bool.false_eq_true, Bool.not_true, Bool.not_false, ite_true, ite_false, DL.D.int.injEq, DL.D.ty.injEq, DL.D.str.injEq, DL.D.tup.injEq, DL.D.lst.injEq, DL.D.ptr.injEq, DL.D.bl.injEq, DL.dNever, Option.some.injEq, eq_self, reduceIte, kitB_ii, kitB_ib, reduceCtorEq, and_self, and_assoc, decide_eq_true_eq])
    refine ⟨by decide, by decide, ?_⟩
    refine dTurns_inv (fun i ρ M' => ∃ d2 d3 d4 d5 d6 d7 d8 d9 d10 d11 A B o, ρ = [some (.scr (ns.map D.int)), some (.ptr p), d2, d3, d4, d5, d6, d7, d8, d9, d10, d11] ∧ M' = A ++ (p, o) :: B ∧ UrnM (70 * (i : Int)) o)
      ⟨_, _, _, _, _, _, _, _, _, _, [], [], o, rfl, rfl, hu0.mono (by decide)⟩ ?_ ?_
    · intro i x ρ M' hx hW N hN
      obtain ⟨d2, d3, d4, d5, d6, d7, d8, d9, d10, d11, A, B, o, rfl, rfl, hu⟩ := hW
      have hi : i < 3 := by
        have := (List.getElem?_eq_some_iff.mp hx).1
        rw [rangeD_len] at this
        exact this
      refine seq_i fun K2 hK2 => ?_
      (try simp only [DL.dRet, DL.dAsg, DL.dSeq, DL.dNext, DL.dIfS, DL.dDrop, DL.dName, DL.dVar, DL.dVarF, dC, DL.dCons, DL.dNil, DL.dOp, DL.dUn, DL.dTest, DL.dCB, DL.dTup, DL.dLst, DL.dLstM, DL.dgTup, DL.dgNil, DL.dgCons, DL.dAndV, DL.dOrV, DL.dNotV, DL.dAndT, DL.dOrT, DL.dNotT, DL.dIf, DL.dIsN, DL.dNotN, DL.isNon, DL.dCall, DL.dCallN, DL.dPar, DL.dPar3, DL.dFrz, DL.dSl, DL.dNoPart, DL.dPart, q_ixT, q_ixL, q_ixS, q_ixP, q_ixC, q_int, q_int0, q_addI, q_addS, q_addT, q_addL, q_mulI, q_mulL, q_mulM, q_lenS, q_lenT, q_lenL, q_lenX, q_lenP, q_intI, q_intB, q_eqI, q_eqS, q_eqB, q_neI, q_neS, q_neB, q_slT, q_slL, q_slX, q_slP, q_slS, DL.dIt_q, q_itL, q_itT, q_itX, DL.rAbs, DL.rMin2, DL.rMax2, DL.rTupOf, DL.rLstOf, DL.rLstOfM, DL.rIsiD, DL.Items, DL.ItemsL, DL.TyM, DL.dFor, DL.dRange1, DL.dRange2, DL.dEnum_q, q_enL, q_enT, q_enX, DL.dZip, DL.dBM, DL.dBM0, DL.TyD, DL.rAppendD, DL.rExtendD, DL.rPopD, DL.seqOf, DL.dDNewT, DL.dDNewK, DL.dLc, DL.dLcM, DL.dComp, DL.dYes, DL.dChain, DL.wipeR, DL.dTurns, DL.dgSubL, DL.startR, List.map_cons, List.map_nil, List.length_cons, List.length_nil, List.cons_append, List.nil_append, List.getElem?_cons_zero, List.getElem?_cons_succ, List.set_cons_zero, List.set_cons_succ, List.reduceReplicate, Nat.reduceAdd, Nat.reduceSub, Nat.zero_add, sz0, sz1, sz2, sz3, sz4, sz5, sz6, sz7, sz8, sz9, sz10, sz11, sz12, exists_eq_left, exists_eq_left', exists_eq_right, exists_and_left, exists_and_right, exists_const, exists_eq, List.cons.injEq, and_true, true_and, if_true, if_false, Bool.true_eq_false, Bool.false_eq_true, Bool.not_true, Bool.not_false, ite_true, ite_false, DL.D.int.injEq, DL.D.ty.injEq, DL.D.str.injEq, DL.D.tup.injEq, DL.D.lst.injEq, DL.D.ptr.injEq, DL.D.bl.injEq, DL.dNever, Option.some.injEq, eq_self, reduceIte, kitB_ii, kitB_ib, reduceCtorEq, and_self, and_assoc, decide_eq_true_eq])
      refine ⟨p, 8, _, A, B, o, rfl, by decide, by decide, rfl, hu, by omega, fun v o1 v0 v1 hu1 => ?_⟩
      (try simp only [DL.dRet, DL.dAsg, DL.dSeq, DL.dNext, DL.dIfS, DL.dDrop, DL.dName, DL.dVar, DL.dVarF, dC, DL.dCons, DL.dNil, DL.dOp, DL.dUn, DL.dTest, DL.dCB, DL.dTup, DL.dLst, DL.dLstM, DL.dgTup, DL.dgNil, DL.dgCons, DL.dAndV, DL.dOrV, DL.dNotV, DL.dAndT, DL.dOrT, DL.dNotT, DL.dIf, DL.dIsN, DL.dNotN, DL.isNon, DL.dCall, DL.dCallN, DL.dPar, DL.dPar3, DL.dFrz, DL.dSl, DL.dNoPart, DL.dPart, q_ixT, q_ixL, q_ixS, q_ixP, q_ixC, q_int, q_int0, q_addI, q_addS, q_addT, q_addL, q_mulI, q_mulL, q_mulM, q_lenS, q_lenT, q_lenL, q_lenX, q_lenP, q_intI, q_intB, q_eqI, q_eqS, q_eqB, q_neI, q_neS, q_neB, q_slT, q_slL, q_slX, q_slP, q_slS, DL.dIt_q, q_itL, q_itT, q_itX, DL.rAbs, DL.rMin2, DL.rMax2, DL.rTupOf, DL.rLstOf, DL.rLstOfM, DL.rIsiD, DL.Items, DL.ItemsL, DL.TyM, DL.dFor, DL.dRange1, DL.dRange2, DL.dEnum_q, q_enL, q_enT, q_enX, DL.dZip, DL.dBM, DL.dBM0, DL.TyD, DL.rAppendD, DL.rExtendD, DL.rPopD, DL.seqOf, DL.dDNewT, DL.dDNewK, DL.dLc, DL.dLcM, DL.dComp, DL.dYes, DL.dChain, DL.wipeR, DL.dTurns, DL.dgSubL, DL.startR, List.map_cons, List.map_nil, List.length_cons, List.length_nil, List.cons_append, List.nil_append, List.getElem?_cons_zero, List.getElem?_cons_succ, List.set_cons_zero, List.set_cons_succ, List.reduceReplicate, Nat.reduceAdd, Nat.reduceSub, Nat.zero_add, sz0, sz1, sz2, sz3, sz4, sz5, sz6, sz7, sz8, sz9, sz10, sz11, sz12, exists_eq_left, exists_eq_left', exists_eq_right, exists_and_left, exists_and_right, exists_const, exists_eq, List.cons.injEq, and_true, true_and, if_true, if_false, Bool.true_eq_false, Bool.false_eq_true, Bool.not_true, Bool.not_false, ite_true, ite_false, DL.D.int.injEq, DL.D.ty.injEq, DL.D.str.injEq, DL.D.tup.injEq, DL.D.lst.injEq, DL.D.ptr.injEq, DL.D.bl.injEq, DL.dNever, Option.some.injEq, eq_self, reduceIte, kitB_ii, kitB_ib, reduceCtorEq, and_self, and_assoc, decide_eq_true_eq])
      refine ⟨p, _, _, A, B, o1, rfl, by simp, by simp, rfl, hu1, by omega, fun d o2 hd hu2 => ?_⟩
      have hh : ∃ n : Nat, d = .int (n : Int) ∧ 1 ≤ n ∧ n ≤ 8 := by
        simp only [List.mem_cons, List.mem_nil_iff, or_false] at hd
        rcases hd with rfl | rfl | rfl | rfl | rfl | rfl
        · exact ⟨1, rfl, by omega, by omega⟩
        · exact ⟨2, rfl, by omega, by omega⟩
        · exact ⟨3, rfl, by omega, by omega⟩
        · exact ⟨4, rfl, by omega, by omega⟩
        · exact ⟨8, rfl, by omega, by omega⟩
        · exact ⟨(1 + v).toNat, congrArg D.int (by omega), by omega, by omega⟩
      obtain ⟨n, rfl, n1, n2⟩ := hh
      subst hK2
      refine seq_i fun K2 hK2 => ?_
      (try simp only [DL.dRet, DL.dAsg, DL.dSeq, DL.dNext, DL.dIfS, DL.dDrop, DL.dName, DL.dVar, DL.dVarF, dC, DL.dCons, DL.dNil, DL.dOp, DL.dUn, DL.dTest, DL.dCB, DL.dTup, DL.dLst, DL.dLstM, DL.dgTup, DL.dgNil, DL.dgCons, DL.dAndV, DL.dOrV, DL.dNotV, DL.dAndT, DL.dOrT, DL.dNotT, DL.dIf, DL.dIsN, DL.dNotN, DL.isNon, DL.dCall, DL.dCallN, DL.dPar, DL.dPar3, DL.dFrz, DL.dSl, DL.dNoPart, DL.dPart, q_ixT, q_ixL, q_ixS, q_ixP, q_ixC, q_int, q_int0, q_addI, q_addS, q_addT, q_addL, q_mulI, q_mulL, q_mulM, q_lenS, q_lenT, q_lenL, q_lenX, q_lenP, q_intI, q_intB, q_eqI, q_eqS, q_eqB, q_neI, q_neS, q_neB, q_slT, q_slL, q_slX, q_slP, q_slS, DL.dIt_q, q_itL, q_itT, q_itX, DL.rAbs, DL.rMin2, DL.rMax2, DL.rTupOf, DL.rLstOf, DL.rLstOfM, DL.rIsiD, DL.Items, DL.ItemsL, DL.TyM, DL.dFor, DL.dRange1, DL.dRange2, DL.dEnum_q, q_enL, q_enT, q_enX, DL.dZip, DL.dBM, DL.dBM0, DL.TyD, DL.rAppendD, DL.rExtendD, DL.rPopD, DL.seqOf, DL.dDNewT, DL.dDNewK, DL.dLc, DL.dLcM, DL.dComp, DL.dYes, DL.dChain, DL.wipeR, DL.dTurns, DL.dgSubL, DL.startR, List.map_cons, List.map_nil, List.length_cons, List.length_nil, List.cons_append, List.nil_append, List.getElem?_cons_zero, List.getElem?_cons_succ, List.set_cons_zero, List.set_cons_succ, List.reduceReplicate, Nat.reduceAdd, Nat.reduceSub, Nat.zero_add, sz0, sz1, sz2, sz3, sz4, sz5, sz6, sz7, sz8, sz9, sz10, sz11, sz12, exists_eq_left, exists_eq_left', exists_eq_right, exists_and_left, exists_and_right, exists_const, exists_eq, List.cons.injEq, and_true, true_and, if_true, if_false, Bool.true_eq_false, Bool.false_eq_true, Bool.not_true, Bool.not_false, ite_true, ite_false, DL.D.int.injEq, DL.D.ty.injEq, DL.D.str.injEq, DL.D.tup.injEq, DL.D.lst.injEq, DL.D.ptr.injEq, DL.D.bl.injEq, DL.dNever, Option.some.injEq, eq_self, reduceIte, kitB_ii, kitB_ib, reduceCtorEq, and_self, and_assoc, decide_eq_true_eq])
      refine ⟨p, n, _, A, B, o2, rfl, by omega, by omega, rfl, hu2, by omega, fun fs o3 hne hfl hf hu3 => ?_⟩
      (try simp only [DL.dRet, DL.dAsg, DL.dSeq, DL.dNext, DL.dIfS, DL.dDrop, DL.dName, DL.dVar, DL.dVarF, dC, DL.dCons, DL.dNil, DL.dOp, DL.dUn, DL.dTest, DL.dCB, DL.dTup, DL.dLst, DL.dLstM, DL.dgTup, DL.dgNil, DL.dgCons, DL.dAndV, DL.dOrV, DL.dNotV, DL.dAndT, DL.dOrT, DL.dNotT, DL.dIf, DL.dIsN, DL.dNotN, DL.isNon, DL.dCall, DL.dCallN, DL.dPar, DL.dPar3, DL.dFrz, DL.dSl, DL.dNoPart, DL.dPart, q_ixT, q_ixL, q_ixS, q_ixP, q_ixC, q_int, q_int0, q_addI, q_addS, q_addT, q_addL, q_mulI, q_mulL, q_mulM, q_lenS, q_lenT, q_lenL, q_lenX, q_lenP, q_intI, q_intB, q_eqI, q_eqS, q_eqB, q_neI, q_neS, q_neB, q_slT, q_slL, q_slX, q_slP, q_slS, DL.dIt_q, q_itL, q_itT, q_itX, DL.rAbs, DL.rMin2, DL.rMax2, DL.rTupOf, DL.rLstOf, DL.rLstOfM, DL.rIsiD, DL.Items, DL.ItemsL, DL.TyM, DL.dFor, DL.dRange1, DL.dRange2, DL.dEnum_q, q_enL, q_enT, q_enX, DL.dZip, DL.dBM, DL.dBM0, DL.TyD, DL.rAppendD, DL.rExtendD, DL.rPopD, DL.seqOf, DL.dDNewT, DL.dDNewK, DL.dLc, DL.dLcM, DL.dComp, DL.dYes, DL.dChain, DL.wipeR, DL.dTurns, DL.dgSubL, DL.startR, List.map_cons, List.map_nil, List.length_cons, List.length_nil, List.cons_append, List.nil_append, List.getElem?_cons_zero, List.getElem?_cons_succ, List.set_cons_zero, List.set_cons_succ, List.reduceReplicate, Nat.reduceAdd, Nat.reduceSub, Nat.zero_add, sz0, sz1, sz2, sz3, sz4, sz5, sz6, sz7, sz8, sz9, sz10, sz11, sz12, exists_eq_left, exists_eq_left', exists_eq_right, exists_and_left, exists_and_right, exists_const, exists_eq, List.cons.injEq, and_true, true_and, if_true, if_false, Bool.true_eq_false, Bool.false_eq_true, Bool.not_true, Bool.not_false, ite_true, ite_false, DL.D.int.injEq, DL.D.ty.injEq, DL.D.str.injEq, DL.D.tup.injEq, DL.D.lst.injEq, DL.D.ptr.injEq, DL.D.bl.injEq, DL.dNever, Option.some.injEq, eq_self, reduceIte, kitB_ii, kitB_ib, reduceCtorEq, and_self, and_assoc, decide_eq_true_eq])
      refine ⟨p, 61, _, A, B, o3, rfl, by decide, by decide, rfl, hu3, by omega, fun v' o4 v0' v1' hu4 => ?_⟩
      (try simp only [DL.dRet, DL.dAsg, DL.dSeq, DL.dNext, DL.dIfS, DL.dDrop, DL.dName, DL.dVar, DL.dVarF, dC, DL.dCons, DL.dNil, DL.dOp, DL.dUn, DL.dTest, DL.dCB, DL.dTup, DL.dLst, DL.dLstM, DL.dgTup, DL.dgNil, DL.dgCons, DL.dAndV, DL.dOrV, DL.dNotV, DL.dAndT, DL.dOrT, DL.dNotT, DL.dIf, DL.dIsN, DL.dNotN, DL.isNon, DL.dCall, DL.dCallN, DL.dPar, DL.dPar3, DL.dFrz, DL.dSl, DL.dNoPart, DL.dPart, q_ixT, q_ixL, q_ixS, q_ixP, q_ixC, q_int, q_int0, q_addI, q_addS, q_addT, q_addL, q_mulI, q_mulL, q_mulM, q_lenS, q_lenT, q_lenL, q_lenX, q_lenP, q_intI, q_intB, q_eqI, q_eqS, q_eqB, q_neI, q_neS, q_neB, q_slT, q_slL, q_slX, q_slP, q_slS, DL.dIt_q, q_itL, q_itT, q_itX, DL.rAbs, DL.rMin2, DL.rMax2, DL.rTupOf, DL.rLstOf, DL.rLstOfM, DL.rIsiD, DL.Items, DL.ItemsL, DL.TyM, DL.dFor, DL.dRange1, DL.dRange2, DL.dEnum_q, q_enL, q_enT, q_enX, DL.dZip, DL.dBM, DL.dBM0, DL.TyD, DL.rAppendD, DL.rExtendD, DL.rPopD, DL.seqOf, DL.dDNewT, DL.dDNewK, DL.dLc, DL.dLcM, DL.dComp, DL.dYes, DL.dChain, DL.wipeR, DL.dTurns, DL.dgSubL, DL.startR, List.map_cons, List.map_nil, List.length_cons, List.length_nil, List.cons_append, List.nil_append, List.getElem?_cons_zero, List.getElem?_cons_succ, List.set_cons_zero, List.set_cons_succ, List.reduceReplicate, Nat.reduceAdd, Nat.reduceSub, Nat.zero_add, sz0, sz1, sz2, sz3, sz4, sz5, sz6, sz7, sz8, sz9, sz10, sz11, sz12, exists_eq_left, exists_eq_left', exists_eq_right, exists_and_left, exists_and_right, exists_const, exists_eq, List.cons.injEq, and_true, true_and, if_true, if_false, Bool.true_eq_false, Bool.false_eq_true, Bool.not_true, Bool.not_false, ite_true, ite_false, DL.D.int.injEq, DL.D.ty.injEq, DL.D.str.injEq, DL.D.tup.injEq, DL.D.lst.injEq, DL.D.ptr.injEq, DL.D.bl.injEq, DL.dNever, Option.some.injEq, eq_self, reduceIte, kitB_ii, kitB_ib, reduceCtorEq, and_self, and_assoc, decide_eq_true_eq])
      refine ⟨p, _, _, A, B, o4, rfl, by simp, by simp, rfl, hu4, by omega, fun d o5 hd hu5 => ?_⟩
      have hh : ∃ m : Nat, d = .int (m : Int) ∧ m ≤ 60 := by
        simp only [List.mem_cons, List.mem_nil_iff, or_false] at hd
        rcases hd with rfl | rfl | rfl | rfl
        · exact ⟨12, rfl, by omega⟩
        · exact ⟨24, rfl, by omega⟩
        · exact ⟨60, rfl, by omega⟩
        · exact ⟨v'.toNat, congrArg D.int (by omega), by omega⟩
      obtain ⟨m, rfl, m1⟩ := hh
      have hf6 : ∀ f ∈ fs, 1 ≤ f ∧ f ≤ 1000000 := fun f hf' => ⟨(hf f hf').1, by have := (hf f hf').2; omega⟩
      (try simp only [DL.dRet, DL.dAsg, DL.dSeq, DL.dNext, DL.dIfS, DL.dDrop, DL.dName, DL.dVar, DL.dVarF, dC, DL.dCons, DL.dNil, DL.dOp, DL.dUn, DL.dTest, DL.dCB, DL.dTup, DL.dLst, DL.dLstM, DL.dgTup, DL.dgNil, DL.dgCons, DL.dAndV, DL.dOrV, DL.dNotV, DL.dAndT, DL.dOrT, DL.dNotT, DL.dIf, DL.dIsN, DL.dNotN, DL.isNon, DL.dCall, DL.dCallN, DL.dPar, DL.dPar3, DL.dFrz, DL.dSl, DL.dNoPart, DL.dPart, q_ixT, q_ixL, q_ixS, q_ixP, q_ixC, q_int, q_int0, q_addI, q_addS, q_addT, q_addL, q_mulI, q_mulL, q_mulM, q_lenS, q_lenT, q_lenL, q_lenX, q_lenP, q_intI, q_intB, q_eqI, q_eqS, q_eqB, q_neI, q_neS, q_neB, q_slT, q_slL, q_slX, q_slP, q_slS, DL.dIt_q, q_itL, q_itT, q_itX, DL.rAbs, DL.rMin2, DL.rMax2, DL.rTupOf, DL.rLstOf, DL.rLstOfM, DL.rIsiD, DL.Items, DL.ItemsL, DL.TyM, DL.dFor, DL.dRange1, DL.dRange2, DL.dEnum_q, q_enL, q_enT, q_enX, DL.dZip, DL.dBM, DL.dBM0, DL.TyD, DL.rAppendD, DL.rExtendD, DL.rPopD, DL.seqOf, DL.dDNewT, DL.dDNewK, DL.dLc, DL.dLcM, DL.dComp, DL.dYes, DL.dChain, DL.wipeR, DL.dTurns, DL.dgSubL, DL.startR, List.map_cons, List.map_nil, List.length_cons, List.length_nil, List.cons_append, List.nil_append, List.getElem?_cons_zero, List.getElem?_cons_succ, List.set_cons_zero, List.set_cons_succ, List.reduceReplicate, Nat.reduceAdd, Nat.reduceSub, Nat.zero_add, sz0, sz1, sz2, sz3, sz4, sz5, sz6, sz7, sz8, sz9, sz10, sz11, sz12, exists_eq_left, exists_eq_left', exists_eq_right, exists_and_left, exists_and_right, exists_const, exists_eq, List.cons.injEq, and_true, true_and, if_true, if_false, Bool.true_eq_false, Bool.false_eq_true, Bool.not_true, Bool.not_false, ite_true, ite_false, DL.D.int.injEq, DL.D.ty.injEq, DL.D.str.injEq, DL.D.tup.injEq, DL.D.lst.injEq, DL.D.ptr.injEq, DL.D.bl.injEq, DL.dNever, Option.some.injEq, eq_self, reduceIte, kitB_ii, kitB_ib, reduceCtorEq, and_self, and_assoc, decide_eq_true_eq])
      subst hK2
      refine seq_i fun K2 hK2 => ?_
      (try simp only [DL.dRet, DL.dAsg, DL.dSeq, DL.dNext, DL.dIfS, DL.dDrop, DL.dName, DL.dVar, DL.dVarF, dC, DL.dCons, DL.dNil, DL.dOp, DL.dUn, DL.dTest, DL.dCB, DL.dTup, DL.dLst, DL.dLstM, DL.dgTup, DL.dgNil, DL.dgCons, DL.dAndV, DL.dOrV, DL.dNotV, DL.dAndT, DL.dOrT, DL.dNotT, DL.dIf, DL.dIsN, DL.dNotN, DL.isNon, DL.dCall, DL.dCallN, DL.dPar, DL.dPar3, DL.dFrz, DL.dSl, DL.dNoPart, DL.dPart, q_ixT, q_ixL, q_ixS, q_ixP, q_ixC, q_int, q_int0, q_addI, q_addS, q_addT, q_addL, q_mulI, q_mulL, q_mulM, q_lenS, q_lenT, q_lenL, q_lenX, q_lenP, q_intI, q_intB, q_eqI, q_eqS, q_eqB, q_neI, q_neS, q_neB, q_slT, q_slL, q_slX, q_slP, q_slS, DL.dIt_q, q_itL, q_itT, q_itX, DL.rAbs, DL.rMin2, DL.rMax2, DL.rTupOf, DL.rLstOf, DL.rLstOfM, DL.rIsiD, DL.Items, DL.ItemsL, DL.TyM, DL.dFor, DL.dRange1, DL.dRange2, DL.dEnum_q, q_enL, q_enT, q_enX, DL.dZip, DL.dBM, DL.dBM0, DL.TyD, DL.rAppendD, DL.rExtendD, DL.rPopD, DL.seqOf, DL.dDNewT, DL.dDNewK, DL.dLc, DL.dLcM, DL.dComp, DL.dYes, DL.dChain, DL.wipeR, DL.dTurns, DL.dgSubL, DL.startR, List.map_cons, List.map_nil, List.length_cons, List.length_nil, List.cons_append, List.nil_append, List.getElem?_cons_zero, List.getElem?_cons_succ, List.set_cons_zero, List.set_cons_succ, List.reduceReplicate, Nat.reduceAdd, Nat.reduceSub, Nat.zero_add, sz0, sz1, sz2, sz3, sz4, sz5, sz6, sz7, sz8, sz9, sz10, sz11, sz12, exists_eq_left, exists_eq_left', exists_eq_right, exists_and_left, exists_and_right, exists_const, exists_eq, List.cons.injEq, and_true, true_and, if_true, if_false, Bool.true_eq_false, Bool.false_eq_true, Bool.not_true, Bool.not_false, ite_true, ite_false, DL.D.int.injEq, DL.D.ty.injEq, DL.D.str.injEq, DL.D.tup.injEq, DL.D.lst.injEq, DL.D.ptr.injEq, DL.D.bl.injEq, DL.dNever, Option.some.injEq, eq_self, reduceIte, kitB_ii, kitB_ib, reduceCtorEq, and_self, and_assoc, decide_eq_true_eq])
      refine ⟨fs, n, m, rfl, hne, by omega, hf6, by omega, by omega, by omega, by omega, fun w kvs hw => ?_⟩
      simp only [Int.toNat_natCast] at hw
      rw [Int.toNat_natCast, Int.toNat_natCast]
      (try simp only [DL.dRet, DL.dAsg, DL.dSeq, DL.dNext, DL.dIfS, DL.dDrop, DL.dName, DL.dVar, DL.dVarF, dC, DL.dCons, DL.dNil, DL.dOp, DL.dUn, DL.dTest, DL.dCB, DL.dTup, DL.dLst, DL.dLstM, DL.dgTup, DL.dgNil, DL.dgCons, DL.dAndV, DL.dOrV, DL.dNotV, DL.dAndT, DL.dOrT, DL.dNotT, DL.dIf, DL.dIsN, DL.dNotN, DL.isNon, DL.dCall, DL.dCallN, DL.dPar, DL.dPar3, DL.dFrz, DL.dSl, DL.dNoPart, DL.dPart, q_ixT, q_ixL, q_ixS, q_ixP, q_ixC, q_int, q_int0, q_addI, q_addS, q_addT, q_addL, q_mulI, q_mulL, q_mulM, q_lenS, q_lenT, q_lenL, q_lenX, q_lenP, q_intI, q_intB, q_eqI, q_eqS, q_eqB, q_neI, q_neS, q_neB, q_slT, q_slL, q_slX, q_slP, q_slS, DL.dIt_q, q_itL, q_itT, q_itX, DL.rAbs, DL.rMin2, DL.rMax2, DL.rTupOf, DL.rLstOf, DL.rLstOfM, DL.rIsiD, DL.Items, DL.ItemsL, DL.TyM, DL.dFor, DL.dRange1, DL.dRange2, DL.dEnum_q, q_enL, q_enT, q_enX, DL.dZip, DL.dBM, DL.dBM0, DL.TyD, DL.rAppendD, DL.rExtendD, DL.rPopD, DL.seqOf, DL.dDNewT, DL.dDNewK, DL.dLc, DL.dLcM, DL.dComp, DL.dYes, DL.dChain, DL.wipeR, DL.dTurns, DL.dgSubL, DL.startR, List.map_cons, List.map_nil, List.length_cons, List.length_nil, List.cons_append, List.nil_append, List.getElem?_cons_zero, List.getElem?_cons_succ, List.set_cons_zero, List.set_cons_succ, List.reduceReplicate, Nat.reduceAdd, Nat.reduceSub, Nat.zero_add, sz0, sz1, sz2, sz3, sz4, sz5, sz6, sz7, sz8, sz9, sz10, sz11, sz12, exists_eq_left, exists_eq_left', exists_eq_right, exists_and_left, exists_and_right, exists_const, exists_eq, List.cons.injEq, and_true, true_and, if_true, if_false, Bool.true_eq_false, Bool.false_eq_true, Bool.not_true, Bool.not_false, ite_true, ite_false, DL.D.int.injEq, DL.D.ty.injEq, DL.D.str.injEq, DL.D.tup.injEq, DL.D.lst.injEq, DL.D.ptr.injEq, DL.D.bl.injEq, DL.dNever, Option.some.injEq, eq_self, reduceIte, kitB_ii, kitB_ib, reduceCtorEq, and_self, and_assoc, decide_eq_true_eq])
      subst hK2
      refine seq_i fun K2 hK2 => ?_
      (try simp only [DL.dRet, DL.dAsg, DL.dSeq, DL.dNext, DL.dIfS, DL.dDrop, DL.dName, DL.dVar, DL.dVarF, dC, DL.dCons, DL.dNil, DL.dOp, DL.dUn, DL.dTest, DL.dCB, DL.dTup, DL.dLst, DL.dLstM, DL.dgTup, DL.dgNil, DL.dgCons, DL.dAndV, DL.dOrV, DL.dNotV, DL.dAndT, DL.dOrT, DL.dNotT, DL.dIf, DL.dIsN, DL.dNotN, DL.isNon, DL.dCall, DL.dCallN, DL.dPar, DL.dPar3, DL.dFrz, DL.dSl, DL.dNoPart, DL.dPart, q_ixT, q_ixL, q_ixS, q_ixP, q_ixC, q_int, q_int0, q_addI, q_addS, q_addT, q_addL, q_mulI, q_mulL, q_mulM, q_lenS, q_lenT, q_lenL, q_lenX, q_lenP, q_intI, q_intB, q_eqI, q_eqS, q_eqB, q_neI, q_neS, q_neB, q_slT, q_slL, q_slX, q_slP, q_slS, DL.dIt_q, q_itL, q_itT, q_itX, DL.rAbs, DL.rMin2, DL.rMax2, DL.rTupOf, DL.rLstOf, DL.rLstOfM, DL.rIsiD, DL.Items, DL.ItemsL, DL.TyM, DL.dFor, DL.dRange1, DL.dRange2, DL.dEnum_q, q_enL, q_enT, q_enX, DL.dZip, DL.dBM, DL.dBM0, DL.TyD, DL.rAppendD, DL.rExtendD, DL.rPopD, DL.seqOf, DL.dDNewT, DL.dDNewK, DL.dLc, DL.dLcM, DL.dComp, DL.dYes, DL.dChain, DL.wipeR, DL.dTurns, DL.dgSubL, DL.startR, List.map_cons, List.map_nil, List.length_cons, List.length_nil, List.cons_append, List.nil_append, List.getElem?_cons_zero, List.getElem?_cons_succ, List.set_cons_zero, List.set_cons_succ, List.reduceReplicate, Nat.reduceAdd, Nat.reduceSub, Nat.zero_add, sz0, sz1, sz2, sz3, sz4, sz5, sz6, sz7, sz8, sz9, sz10, sz11, sz12, exists_eq_left, exists_eq_left', exists_eq_right, exists_and_left, exists_and_right, exists_const, exists_eq, List.cons.injEq, and_true, true_and, if_true, if_false, Bool.true_eq_false, Bool.false_eq_true, Bool.not_true, Bool.not_false, ite_true, ite_false, DL.D.int.injEq, DL.D.ty.injEq, DL.D.str.injEq, DL.D.tup.injEq, DL.D.lst.injEq, DL.D.ptr.injEq, DL.D.bl.injEq, DL.dNever, Option.some.injEq, eq_self, reduceIte, kitB_ii, kitB_ib, reduceCtorEq, and_self, and_assoc, decide_eq_true_eq])
      refine ⟨_, fs, n, m, rfl, .inr rfl, hne, by omega, hf6, by omega, by omega, by omega, by omega, ?_⟩
      rw [Int.toNat_natCast, Int.toNat_natCast]
      refine repr_q ⟨_, .inl rfl⟩ (rows_nice (by omega)) (rows_dp ..) (rows_wt n2 m1) ?_
      refine repr_q ⟨_, .inl rfl⟩ (rows_nice (by omega)) (rows_dp ..) (rows_wt n2 m1) ?_
      (try simp only [DL.dRet, DL.dAsg, DL.dSeq, DL.dNext, DL.dIfS, DL.dDrop, DL.dName, DL.dVar, DL.dVarF, dC, DL.dCons, DL.dNil, DL.dOp, DL.dUn, DL.dTest, DL.dCB, DL.dTup, DL.dLst, DL.dLstM, DL.dgTup, DL.dgNil, DL.dgCons, DL.dAndV, DL.dOrV, DL.dNotV, DL.dAndT, DL.dOrT, DL.dNotT, DL.dIf, DL.dIsN, DL.dNotN, DL.isNon, DL.dCall, DL.dCallN, DL.dPar, DL.dPar3, DL.dFrz, DL.dSl, DL.dNoPart, DL.dPart, q_ixT, q_ixL, q_ixS, q_ixP, q_ixC, q_int, q_int0, q_addI, q_addS, q_addT, q_addL, q_mulI, q_mulL, q_mulM, q_lenS, q_lenT, q_lenL, q_lenX, q_lenP, q_intI, q_intB, q_eqI, q_eqS, q_eqB, q_neI, q_neS, q_neB, q_slT, q_slL, q_slX, q_slP, q_slS, DL.dIt_q, q_itL, q_itT, q_itX, DL.rAbs, DL.rMin2, DL.rMax2, DL.rTupOf, DL.rLstOf, DL.rLstOfM, DL.rIsiD, DL.Items, DL.ItemsL, DL.TyM, DL.dFor, DL.dRange1, DL.dRange2, DL.dEnum_q, q_enL, q_enT, q_enX, DL.dZip, DL.dBM, DL.dBM0, DL.TyD, DL.rAppendD, DL.rExtendD, DL.rPopD, DL.seqOf, DL.dDNewT, DL.dDNewK, DL.dLc, DL.dLcM, DL.dComp, DL.dYes, DL.dChain, DL.wipeR, DL.dTurns, DL.dgSubL, DL.startR, List.map_cons, List.map_nil, List.length_cons, List.length_nil, List.cons_append, List.nil_append, List.getElem?_cons_zero, List.getElem?_cons_succ, List.set_cons_zero, List.set_cons_succ, List.reduceReplicate, Nat.reduceAdd, Nat.reduceSub, Nat.zero_add, sz0, sz1, sz2, sz3, sz4, sz5, sz6, sz7, sz8, sz9, sz10, sz11, sz12, exists_eq_left, exists_eq_left', exists_eq_right, exists_and_left, exists_and_right, exists_const, exists_eq, List.cons.injEq, and_true, true_and, if_true, if_false, Bool.true_eq_false, Bool.false_eq_true, Bool.not_true, Bool.not_false, ite_true, ite_false, DL.D.int.injEq, DL.D.ty.injEq, DL.D.str.injEq, DL.D.tup.injEq, DL.D.lst.injEq, DL.D.ptr.injEq, DL.D.bl.injEq, DL.dNever, Option.some.injEq, eq_self, reduceIte, kitB_ii, kitB_ib, reduceCtorEq, and_self, and_assoc, decide_eq_true_eq, decide_true, Bool.not_true])
      subst hK2
      refine seq_i fun K2 hK2 => ?_
      (try simp only [DL.dRet, DL.dAsg, DL.dSeq, DL.dNext, DL.dIfS, DL.dDrop, DL.dName, DL.dVar, DL.dVarF, dC, DL.dCons, DL.dNil, DL.dOp, DL.dUn, DL.dTest, DL.dCB, DL.dTup, DL.dLst, DL.dLstM, DL.dgTup, DL.dgNil, DL.dgCons, DL.dAndV, DL.dOrV, DL.dNotV, DL.dAndT, DL.dOrT, DL.dNotT, DL.dIf, DL.dIsN, DL.dNotN, DL.isNon, DL.dCall, DL.dCallN, DL.dPar, DL.dPar3, DL.dFrz, DL.dSl, DL.dNoPart, DL.dPart, q_ixT, q_ixL, q_ixS, q_ixP, q_ixC, q_int, q_int0, q_addI, q_addS, q_addT, q_addL, q_mulI, q_mulL, q_mulM, q_lenS, q_lenT, q_lenL, q_lenX, q_lenP, q_intI, q_intB, q_eqI, q_eqS, q_eqB, q_neI, q_neS, q_neB, q_slT, q_slL, q_slX, q_slP, q_slS, DL.dIt_q, q_itL, q_itT, q_itX, DL.rAbs, DL.rMin2, DL.rMax2, DL.rTupOf, DL.rLstOf, DL.rLstOfM, DL.rIsiD, DL.Items, DL.ItemsL, DL.TyM, DL.dFor, DL.dRange1, DL.dRange2, DL.dEnum_q, q_enL, q_enT, q_enX, DL.dZip, DL.dBM, DL.dBM0, DL.TyD, DL.rAppendD, DL.rExtendD, DL.rPopD, DL.seqOf, DL.dDNewT, DL.dDNewK, DL.dLc, DL.dLcM, DL.dComp, DL.dYes, DL.dChain, DL.wipeR, DL.dTurns, DL.dgSubL, DL.startR, List.map_cons, List.map_nil, List.length_cons, List.length_nil, List.cons_append, List.nil_append, List.getElem?_cons_zero, List.getElem?_cons_succ, List.set_cons_zero, List.set_cons_succ, List.reduceReplicate, Nat.reduceAdd, Nat.reduceSub, Nat.zero_add, sz0, sz1, sz2, sz3, sz4, sz5, sz6, sz7, sz8, sz9, sz10, sz11, sz12, exists_eq_left, exists_eq_left', exists_eq_right, exists_and_left, exists_and_right, exists_const, exists_eq, List.cons.injEq, and_true, true_and, if_true, if_false, Bool.true_eq_false, Bool.false_eq_true, Bool.not_true, Bool.not_false, ite_true, ite_false, DL.D.int.injEq, DL.D.ty.injEq, DL.D.str.injEq, DL.D.tup.injEq, DL.D.lst.injEq, DL.D.ptr.injEq, DL.D.bl.injEq, DL.dNever, Option.some.injEq, eq_self, reduceIte, kitB_ii, kitB_ib, reduceCtorEq, and_self, and_assoc, decide_eq_true_eq])
      intro q
      subst hK2
      refine seq_i fun K2 hK2 => ?_
      (try simp only [DL.dRet, DL.dAsg, DL.dSeq, DL.dNext, DL.dIfS, DL.dDrop, DL.dName, DL.dVar, DL.dVarF, dC, DL.dCons, DL.dNil, DL.dOp, DL.dUn, DL.dTest, DL.dCB, DL.dTup, DL.dLst, DL.dLstM, DL.dgTup, DL.dgNil, DL.dgCons, DL.dAndV, DL.dOrV, DL.dNotV, DL.dAndT, DL.dOrT, DL.dNotT, DL.dIf, DL.dIsN, DL.dNotN, DL.isNon, DL.dCall, DL.dCallN, DL.dPar, DL.dPar3, DL.dFrz, DL.dSl, DL.dNoPart, DL.dPart, q_ixT, q_ixL, q_ixS, q_ixP, q_ixC, q_int, q_int0, q_addI, q_addS, q_addT, q_addL, q_mulI, q_mulL, q_mulM, q_lenS, q_lenT, q_lenL, q_lenX, q_lenP, q_intI, q_intB, q_eqI, q_eqS, q_eqB, q_neI, q_neS, q_neB, q_slT, q_slL, q_slX, q_slP, q_slS, DL.dIt_q, q_itL, q_itT, q_itX, DL.rAbs, DL.rMin2, DL.rMax2, DL.rTupOf, DL.rLstOf, DL.rLstOfM, DL.rIsiD, DL.Items, DL.ItemsL, DL.TyM, DL.dFor, DL.dRange1, DL.dRange2, DL.dEnum_q, q_enL, q_enT, q_enX, DL.dZip, DL.dBM, DL.dBM0, DL.TyD, DL.rAppendD, DL.rExtendD, DL.rPopD, DL.seqOf, DL.dDNewT, DL.dDNewK, DL.dLc, DL.dLcM, DL.dComp, DL.dYes, DL.dChain, DL.wipeR, DL.dTurns, DL.dgSubL, DL.startR, List.map_cons, List.map_nil, List.length_cons, List.length_nil, List.cons_append, List.nil_append, List.getElem?_cons_zero, List.getElem?_cons_succ, List.set_cons_zero, List.set_cons_succ, List.reduceReplicate, Nat.reduceAdd, Nat.reduceSub, Nat.zero_add, sz0, sz1, sz2, sz3, sz4, sz5, sz6, sz7, sz8, sz9, sz10, sz11, sz12, exists_eq_left, exists_eq_left', exists_eq_right, exists_and_left, exists_and_right, exists_const, exists_eq, List.cons.injEq, and_true, true_and, if_true, if_false, Bool.true_eq_false, Bool.false_eq_true, Bool.not_true, Bool.not_false, ite_true, ite_false, DL.D.int.injEq, DL.D.ty.injEq, DL.D.str.injEq, DL.D.tup.injEq, DL.D.lst.injEq, DL.D.ptr.injEq, DL.D.bl.injEq, DL.dNever, Option.some.injEq, eq_self, reduceIte, kitB_ii, kitB_ib, reduceCtorEq, and_self, and_assoc, decide_eq_true_eq])
      refine dTurns_inv (fun j ρ M' => ∃ d9 d10 d11, ρ = [some (.scr (ns.map D.int)), some (.ptr p), some x, some (.int n), some (.lst (fs.map D.int)), some (.int m), some (.tup (rowsD fs n m)), some (.ptr w), some (.ptr q), d9, d10, d11] ∧
        M' = (q, .lst ((lawF fs n m j).map prD)) :: (w, .dT kvs) :: (A ++ (p, o5) :: B)) ⟨_, _, _, rfl, rfl⟩ ?_ ?_
      · intro j y ρ M' hy hW N2 hN2
        obtain ⟨d9, d10, d11, rfl, rfl⟩ := hW
        have hj : j < fs.length := by
          have := (List.getElem?_eq_some_iff.mp hy).1
          rw [enumD_len, List.length_map] at this
          exact this
        have hfj : 1 ≤ fs.getD j 0 ∧ fs.getD j 0 ≤ 1000000 := hf6 (fs.getD j 0) (by rw [List.getD_eq_getElem?_getD, List.getElem?_eq_getElem hj]; exact List.getElem_mem _)
        have hy2 : y = .tup [.int (j : Nat), .int (fs.getD j 0)] := by
          rw [enumD_get, List.getElem?_map, List.getElem?_eq_getElem hj] at hy
          rw [List.getD_eq_getElem?_getD, List.getElem?_eq_getElem hj]
          exact (Option.some.inj hy).symm
        subst hy2
        have hd := div_small hfj.1 (show (0 : Int) ≤ m by omega)
        (try simp only [DL.dRet, DL.dAsg, DL.dSeq, DL.dNext, DL.dIfS, DL.dDrop, DL.dName, DL.dVar, DL.dVarF, dC, DL.dCons, DL.dNil, DL.dOp, DL.dUn, DL.dTest, DL.dCB, DL.dTup, DL.dLst, DL.dLstM, DL.dgTup, DL.dgNil, DL.dgCons, DL.dAndV, DL.dOrV, DL.dNotV, DL.dAndT, DL.dOrT, DL.dNotT, DL.dIf, DL.dIsN, DL.dNotN, DL.isNon, DL.dCall, DL.dCallN, DL.dPar, DL.dPar3, DL.dFrz, DL.dSl, DL.dNoPart, DL.dPart, q_ixT, q_ixL, q_ixS, q_ixP, q_ixC, q_int, q_int0, q_addI, q_addS, q_addT, q_addL, q_mulI, q_mulL, q_mulM, q_lenS, q_lenT, q_lenL, q_lenX, q_lenP, q_intI, q_intB, q_eqI, q_eqS, q_eqB, q_neI, q_neS, q_neB, q_slT, q_slL, q_slX, q_slP, q_slS, DL.dIt_q, q_itL, q_itT, q_itX, DL.rAbs, DL.rMin2, DL.rMax2, DL.rTupOf, DL.rLstOf, DL.rLstOfM, DL.rIsiD, DL.Items, DL.ItemsL, DL.TyM, DL.dFor, DL.dRange1, DL.dRange2, DL.dEnum_q, q_enL, q_enT, q_enX, DL.dZip, DL.dBM, DL.dBM0, DL.TyD, DL.rAppendD, DL.rExtendD, DL.rPopD, DL.seqOf, DL.dDNewT, DL.dDNewK, DL.dLc, DL.dLcM, DL.dComp, DL.dYes, DL.dChain, DL.wipeR, DL.dTurns, DL.dgSubL, DL.startR, List.map_cons, List.map_nil, List.length_cons, List.length_nil, List.cons_append, List.nil_append, List.getElem?_cons_zero, List.getElem?_cons_succ, List.set_cons_zero, List.set_cons_succ, List.reduceReplicate, Nat.reduceAdd, Nat.reduceSub, Nat.zero_add, sz0, sz1, sz2, sz3, sz4, sz5, sz6, sz7, sz8, sz9, sz10, sz11, sz12, exists_eq_left, exists_eq_left', exists_eq_right, exists_and_left, exists_and_right, exists_const, exists_eq, List.cons.injEq, and_true, true_and, if_true, if_false, Bool.true_eq_false, Bool.false_eq_true, Bool.not_true, Bool.not_false, ite_true, ite_false, DL.D.int.injEq, DL.D.ty.injEq, DL.D.str.injEq, DL.D.tup.injEq, DL.D.lst.injEq, DL.D.ptr.injEq, DL.D.bl.injEq, DL.dNever, Option.some.injEq, eq_self, reduceIte, kitB_ii, kitB_ib, reduceCtorEq, and_self, and_assoc, decide_eq_true_eq])
        refine ⟨⟨_, .head _⟩, ⟨by omega, by omega⟩, by omega, by omega, by omega, by omega, ?_⟩
        refine comp_filter (lawG j) (lawQ fs n m j) (by rw [List.length_nil, rangeD_len]; omega) (fun u hu R N' hR hN' => ?_) ?_
        · obtain ⟨k, hk, rfl⟩ := List.mem_map.mp hu
          rw [List.mem_range] at hk
          (try simp only [DL.dRet, DL.dAsg, DL.dSeq, DL.dNext, DL.dIfS, DL.dDrop, DL.dName, DL.dVar, DL.dVarF, dC, DL.dCons, DL.dNil, DL.dOp, DL.dUn, DL.dTest, DL.dCB, DL.dTup, DL.dLst, DL.dLstM, DL.dgTup, DL.dgNil, DL.dgCons, DL.dAndV, DL.dOrV, DL.dNotV, DL.dAndT, DL.dOrT, DL.dNotT, DL.dIf, DL.dIsN, DL.dNotN, DL.isNon, DL.dCall, DL.dCallN, DL.dPar, DL.dPar3, DL.dFrz, DL.dSl, DL.dNoPart, DL.dPart, q_ixT, q_ixL, q_ixS, q_ixP, q_ixC, q_int, q_int0, q_addI, q_addS, q_addT, q_addL, q_mulI, q_mulL, q_mulM, q_lenS, q_lenT, q_lenL, q_lenX, q_lenP, q_intI, q_intB, q_eqI, q_eqS, q_eqB, q_neI, q_neS, q_neB, q_slT, q_slL, q_slX, q_slP, q_slS, DL.dIt_q, q_itL, q_itT, q_itX, DL.rAbs, DL.rMin2, DL.rMax2, DL.rTupOf, DL.rLstOf, DL.rLstOfM, DL.rIsiD, DL.Items, DL.ItemsL, DL.TyM, DL.dFor, DL.dRange1, DL.dRange2, DL.dEnum_q, q_enL, q_enT, q_enX, DL.dZip, DL.dBM, DL.dBM0, DL.TyD, DL.rAppendD, DL.rExtendD, DL.rPopD, DL.seqOf, DL.dDNewT, DL.dDNewK, DL.dLc, DL.dLcM, DL.dComp, DL.dYes, DL.dChain, DL.wipeR, DL.dTurns, DL.dgSubL, DL.startR, List.map_cons, List.map_nil, List.length_cons, List.length_nil, List.cons_append, List.nil_append, List.getElem?_cons_zero, List.getElem?_cons_succ, List.set_cons_zero, List.set_cons_succ, List.reduceReplicate, Nat.reduceAdd, Nat.reduceSub, Nat.zero_add, sz0, sz1, sz2, sz3, sz4, sz5, sz6, sz7, sz8, sz9, sz10, sz11, sz12, exists_eq_left, exists_eq_left', exists_eq_right, exists_and_left, exists_and_right, exists_const, exists_eq, List.cons.injEq, and_true, true_and, if_true, if_false, Bool.true_eq_false, Bool.false_eq_true, Bool.not_true, Bool.not_false, ite_true, ite_false, DL.D.int.injEq, DL.D.ty.injEq, DL.D.str.injEq, DL.D.tup.injEq, DL.D.lst.injEq, DL.D.ptr.injEq, DL.D.bl.injEq, DL.dNever, Option.some.injEq, eq_self, reduceIte, kitB_ii, kitB_ib, reduceCtorEq, and_self, and_assoc, decide_eq_true_eq, dGet2T])
          refine ⟨⟨_, .tail _ (.head _)⟩, kvs, [.inl (j : Int), .inl (1 + (k : Int))], rfl, .tail _ (.head _), ?_⟩
          have hv : (valD kvs [.inl (j : Int), .inl (1 + (k : Int))]).getD (.int ((m : Int) + 1)) = .int ((whenV fs n m j (1 + (k : Int))).getD (m + 1)) := by
            rw [hw]
            cases whenV fs n m (j : Int) (1 + (k : Int)) <;> rfl
          rw [hv]
          (try simp only [DL.dRet, DL.dAsg, DL.dSeq, DL.dNext, DL.dIfS, DL.dDrop, DL.dName, DL.dVar, DL.dVarF, dC, DL.dCons, DL.dNil, DL.dOp, DL.dUn, DL.dTest, DL.dCB, DL.dTup, DL.dLst, DL.dLstM, DL.dgTup, DL.dgNil, DL.dgCons, DL.dAndV, DL.dOrV, DL.dNotV, DL.dAndT, DL.dOrT, DL.dNotT, DL.dIf, DL.dIsN, DL.dNotN, DL.isNon, DL.dCall, DL.dCallN, DL.dPar, DL.dPar3, DL.dFrz, DL.dSl, DL.dNoPart, DL.dPart, q_ixT, q_ixL, q_ixS, q_ixP, q_ixC, q_int, q_int0, q_addI, q_addS, q_addT, q_addL, q_mulI, q_mulL, q_mulM, q_lenS, q_lenT, q_lenL, q_lenX, q_lenP, q_intI, q_intB, q_eqI, q_eqS, q_eqB, q_neI, q_neS, q_neB, q_slT, q_slL, q_slX, q_slP, q_slS, DL.dIt_q, q_itL, q_itT, q_itX, DL.rAbs, DL.rMin2, DL.rMax2, DL.rTupOf, DL.rLstOf, DL.rLstOfM, DL.rIsiD, DL.Items, DL.ItemsL, DL.TyM, DL.dFor, DL.dRange1, DL.dRange2, DL.dEnum_q, q_enL, q_enT, q_enX, DL.dZip, DL.dBM, DL.dBM0, DL.TyD, DL.rAppendD, DL.rExtendD, DL.rPopD, DL.seqOf, DL.dDNewT, DL.dDNewK, DL.dLc, DL.dLcM, DL.dComp, DL.dYes, DL.dChain, DL.wipeR, DL.dTurns, DL.dgSubL, DL.startR, List.map_cons, List.map_nil, List.length_cons, List.length_nil, List.cons_append, List.nil_append, List.getElem?_cons_zero, List.getElem?_cons_succ, List.set_cons_zero, List.set_cons_succ, List.reduceReplicate, Nat.reduceAdd, Nat.reduceSub, Nat.zero_add, sz0, sz1, sz2, sz3, sz4, sz5, sz6, sz7, sz8, sz9, sz10, sz11, sz12, exists_eq_left, exists_eq_left', exists_eq_right, exists_and_left, exists_and_right, exists_const, exists_eq, List.cons.injEq, and_true, true_and, if_true, if_false, Bool.true_eq_false, Bool.false_eq_true, Bool.not_true, Bool.not_false, ite_true, ite_false, DL.D.int.injEq, DL.D.ty.injEq, DL.D.str.injEq, DL.D.tup.injEq, DL.D.lst.injEq, DL.D.ptr.injEq, DL.D.bl.injEq, DL.dNever, Option.some.injEq, eq_self, reduceIte, kitB_ii, kitB_ib, reduceCtorEq, and_self, and_assoc, decide_eq_true_eq])
          refine ⟨mul_small (.inl ⟨by omega, by omega⟩), ?_⟩
          by_cases hc : fs.getD j 0 * (1 + (k : Int)) < (whenV fs n m (j : Int) (1 + (k : Int))).getD (m + 1)
          · rw [if_pos hc]
            exact hR (decide_eq_true hc)
          · rw [if_neg hc]
            exact hN' (decide_eq_false hc)
        · rw [List.nil_append, law_list]
          have hl1 := lawF_len (h := n) (n := m) (k := j) hf6 (by omega)
          have hl2 := lawP_len (h := n) (n := m) hf6 hj
          have hmj : m * j ≤ 60 * 25 := Nat.mul_le_mul m1 (by omega)
          refine ⟨_, _, rfl, by rw [List.length_map, List.length_map]; omega, _, .here, hN2 _ _ ⟨_, _, _, rfl, ?_⟩⟩
          rw [lawF_succ, List.map_append]
      · intro ρ M' hW
        obtain ⟨d9, d10, d11, rfl, rfl⟩ := hW
        rw [enumD_len, List.length_map]
        subst hK2
        (try simp only [DL.dRet, DL.dAsg, DL.dSeq, DL.dNext, DL.dIfS, DL.dDrop, DL.dName, DL.dVar, DL.dVarF, dC, DL.dCons, DL.dNil, DL.dOp, DL.dUn, DL.dTest, DL.dCB, DL.dTup, DL.dLst, DL.dLstM, DL.dgTup, DL.dgNil, DL.dgCons, DL.dAndV, DL.dOrV, DL.dNotV, DL.dAndT, DL.dOrT, DL.dNotT, DL.dIf, DL.dIsN, DL.dNotN, DL.isNon, DL.dCall, DL.dCallN, DL.dPar, DL.dPar3, DL.dFrz, DL.dSl, DL.dNoPart, DL.dPart, q_ixT, q_ixL, q_ixS, q_ixP, q_ixC, q_int, q_int0, q_addI, q_addS, q_addT, q_addL, q_mulI, q_mulL, q_mulM, q_lenS, q_lenT, q_lenL, q_lenX, q_lenP, q_intI, q_intB, q_eqI, q_eqS, q_eqB, q_neI, q_neS, q_neB, q_slT, q_slL, q_slX, q_slP, q_slS, DL.dIt_q, q_itL, q_itT, q_itX, DL.rAbs, DL.rMin2, DL.rMax2, DL.rTupOf, DL.rLstOf, DL.rLstOfM, DL.rIsiD, DL.Items, DL.ItemsL, DL.TyM, DL.dFor, DL.dRange1, DL.dRange2, DL.dEnum_q, q_enL, q_enT, q_enX, DL.dZip, DL.dBM, DL.dBM0, DL.TyD, DL.rAppendD, DL.rExtendD, DL.rPopD, DL.seqOf, DL.dDNewT, DL.dDNewK, DL.dLc, DL.dLcM, DL.dComp, DL.dYes, DL.dChain, DL.wipeR, DL.dTurns, DL.dgSubL, DL.startR, List.map_cons, List.map_nil, List.length_cons, List.length_nil, List.cons_append, List.nil_append, List.getElem?_cons_zero, List.getElem?_cons_succ, List.set_cons_zero, List.set_cons_succ, List.reduceReplicate, Nat.reduceAdd, Nat.reduceSub, Nat.zero_add, sz0, sz1, sz2, sz3, sz4, sz5, sz6, sz7, sz8, sz9, sz10, sz11, sz12, exists_eq_left, exists_eq_left', exists_eq_right, exists_and_left, exists_and_right, exists_const, exists_eq, List.cons.injEq, and_true, true_and, if_true, if_false, Bool.true_eq_false, Bool.false_eq_true, Bool.not_true, Bool.not_false, ite_true, ite_false, DL.D.int.injEq, DL.D.ty.injEq, DL.D.str.injEq, DL.D.tup.injEq, DL.D.lst.injEq, DL.D.ptr.injEq, DL.D.bl.injEq, DL.dNever, Option.some.injEq, eq_self, reduceIte, kitB_ii, kitB_ib, reduceCtorEq, and_self, and_assoc, decide_eq_true_eq])
        refine ⟨_, fs, n, m, rfl, .inl rfl, hne, hfl, hf6, by omega, by omega, by omega, by omega, ?_⟩
        rw [Int.toNat_natCast, Int.toNat_natCast]
        refine repr_q ⟨_, .inl rfl⟩ (late_nice hf6 (by omega) m1) (late_dp ..) (late_wt hf6 (by omega) m1) ?_
        refine ⟨_, .head _, ?_⟩
        refine repr_q ⟨_, .inl rfl⟩ (late_nice hf6 (by omega) m1) (late_dp ..) (late_wt hf6 (by omega) m1) ?_
        (try simp only [DL.dRet, DL.dAsg, DL.dSeq, DL.dNext, DL.dIfS, DL.dDrop, DL.dName, DL.dVar, DL.dVarF, dC, DL.dCons, DL.dNil, DL.dOp, DL.dUn, DL.dTest, DL.dCB, DL.dTup, DL.dLst, DL.dLstM, DL.dgTup, DL.dgNil, DL.dgCons, DL.dAndV, DL.dOrV, DL.dNotV, DL.dAndT, DL.dOrT, DL.dNotT, DL.dIf, DL.dIsN, DL.dNotN, DL.isNon, DL.dCall, DL.dCallN, DL.dPar, DL.dPar3, DL.dFrz, DL.dSl, DL.dNoPart, DL.dPart, q_ixT, q_ixL, q_ixS, q_ixP, q_ixC, q_int, q_int0, q_addI, q_addS, q_addT, q_addL, q_mulI, q_mulL, q_mulM, q_lenS, q_lenT, q_lenL, q_lenX, q_lenP, q_intI, q_intB, q_eqI, q_eqS, q_eqB, q_neI, q_neS, q_neB, q_slT, q_slL, q_slX, q_slP, q_slS, DL.dIt_q, q_itL, q_itT, q_itX, DL.rAbs, DL.rMin2, DL.rMax2, DL.rTupOf, DL.rLstOf, DL.rLstOfM, DL.rIsiD, DL.Items, DL.ItemsL, DL.TyM, DL.dFor, DL.dRange1, DL.dRange2, DL.dEnum_q, q_enL, q_enT, q_enX, DL.dZip, DL.dBM, DL.dBM0, DL.TyD, DL.rAppendD, DL.rExtendD, DL.rPopD, DL.seqOf, DL.dDNewT, DL.dDNewK, DL.dLc, DL.dLcM, DL.dComp, DL.dYes, DL.dChain, DL.wipeR, DL.dTurns, DL.dgSubL, DL.startR, List.map_cons, List.map_nil, List.length_cons, List.length_nil, List.cons_append, List.nil_append, List.getElem?_cons_zero, List.getElem?_cons_succ, List.set_cons_zero, List.set_cons_succ, List.reduceReplicate, Nat.reduceAdd, Nat.reduceSub, Nat.zero_add, sz0, sz1, sz2, sz3, sz4, sz5, sz6, sz7, sz8, sz9, sz10, sz11, sz12, exists_eq_left, exists_eq_left', exists_eq_right, exists_and_left, exists_and_right, exists_const, exists_eq, List.cons.injEq, and_true, true_and, if_true, if_false, Bool.true_eq_false, Bool.false_eq_true, Bool.not_true, Bool.not_false, ite_true, ite_false, DL.D.int.injEq, DL.D.ty.injEq, DL.D.str.injEq, DL.D.tup.injEq, DL.D.lst.injEq, DL.D.ptr.injEq, DL.D.bl.injEq, DL.dNever, Option.some.injEq, eq_self, reduceIte, kitB_ii, kitB_ib, reduceCtorEq, and_self, and_assoc, decide_eq_true_eq, decide_true, Bool.not_true])
        exact hN _ _ ⟨_, _, _, _, _, _, _, _, _, _, (q, _) :: (w, _) :: A, B, o5, rfl, rfl, hu5.mono (by omega)⟩
    · intro ρ M' hW
      obtain ⟨d2, d3, d4, d5, d6, d7, d8, d9, d10, d11, A, B, o, rfl, rfl, hu⟩ := hW
      subst hK1
      (try simp only [DL.dRet, DL.dAsg, DL.dSeq, DL.dNext, DL.dIfS, DL.dDrop, DL.dName, DL.dVar, DL.dVarF, dC, DL.dCons, DL.dNil, DL.dOp, DL.dUn, DL.dTest, DL.dCB, DL.dTup, DL.dLst, DL.dLstM, DL.dgTup, DL.dgNil, DL.dgCons, DL.dAndV, DL.dOrV, DL.dNotV, DL.dAndT, DL.dOrT, DL.dNotT, DL.dIf, DL.dIsN, DL.dNotN, DL.isNon, DL.dCall, DL.dCallN, DL.dPar, DL.dPar3, DL.dFrz, DL.dSl, DL.dNoPart, DL.dPart, q_ixT, q_ixL, q_ixS, q_ixP, q_ixC, q_int, q_int0, q_addI, q_addS, q_addT, q_addL, q_mulI, q_mulL, q_mulM, q_lenS, q_lenT, q_lenL, q_lenX, q_lenP, q_intI, q_intB, q_eqI, q_eqS, q_eqB, q_neI, q_neS, q_neB, q_slT, q_slL, q_slX, q_slP, q_slS, DL.dIt_q, q_itL, q_itT, q_itX, DL.rAbs, DL.rMin2, DL.rMax2, DL.rTupOf, DL.rLstOf, DL.rLstOfM, DL.rIsiD, DL.Items, DL.ItemsL, DL.TyM, DL.dFor, DL.dRange1, DL.dRange2, DL.dEnum_q, q_enL, q_enT, q_enX, DL.dZip, DL.dBM, DL.dBM0, DL.TyD, DL.rAppendD, DL.rExtendD, DL.rPopD, DL.seqOf, DL.dDNewT, DL.dDNewK, DL.dLc, DL.dLcM, DL.dComp, DL.dYes, DL.dChain, DL.wipeR, DL.dTurns, DL.dgSubL, DL.startR, List.map_cons, List.map_nil, List.length_cons, List.length_nil, List.cons_append, List.nil_append, List.getElem?_cons_zero, List.getElem?_cons_succ, List.set_cons_zero, List.set_cons_succ, List.reduceReplicate, Nat.reduceAdd, Nat.reduceSub, Nat.zero_add, sz0, sz1, sz2, sz3, sz4, sz5, sz6, sz7, sz8, sz9, sz10, sz11, sz12, exists_eq_left, exists_eq_left', exists_eq_right, exists_and_left, exists_and_right, exists_const, exists_eq, List.cons.injEq, and_true, true_and, if_true, if_false, Bool.true_eq_false, Bool.false_eq_true, Bool.not_true, Bool.not_false, ite_true, ite_false, DL.D.int.injEq, DL.D.ty.injEq, DL.D.str.injEq, DL.D.tup.injEq, DL.D.lst.injEq, DL.D.ptr.injEq, DL.D.bl.injEq, DL.dNever, Option.some.injEq, eq_self, reduceIte, kitB_ii, kitB_ib, reduceCtorEq, and_self, and_assoc, decide_eq_true_eq])
      exact rtW_of (h _)
    ⟩
end
theorem all_mk {P : Program} {w : World} {K : PySem.W.Frag} {h : Heap} {mg : Str → Option Value} {fa : Addr} (X : K.In h) (G : h.Ns mainGlobals mg) (hfa : mg "law" = some (.ref fa))
    {f0 : Addr} {od0 an0 : Option Addr} {sl0 : Array (Option Value)} {oc0 kV0 dc0 pm0 cd0 ct0 : Value}
    {f1 : Addr} {od1 an1 : Option Addr} {sl1 : Array (Option Value)} {oc1 kV1 dc1 pm1 cd1 ct1 : Value}
    {f2 : Addr} {od2 an2 : Option Addr} {sl2 : Array (Option Value)} {oc2 kV2 dc2 pm2 cd2 ct2 : Value}
    {f3 : Addr} {od3 an3 : Option Addr} {sl3 : Array (Option Value)} {oc3 kV3 dc3 pm3 cd3 ct3 : Value}
    {f4 : Addr} {od4 an4 : Option Addr} {sl4 : Array (Option Value)} {oc4 kV4 dc4 pm4 cd4 ct4 : Value}
    {f5 : Addr} {od5 an5 : Option Addr} {sl5 : Array (Option Value)} {oc5 kV5 dc5 pm5 cd5 ct5 : Value}
    {f6 : Addr} {od6 an6 : Option Addr} {sl6 : Array (Option Value)} {oc6 kV6 dc6 pm6 cd6 ct6 : Value}
    {f7 : Addr} {od7 an7 : Option Addr} {sl7 : Array (Option Value)} {oc7 kV7 dc7 pm7 cd7 ct7 : Value}
    {f8 : Addr} {od8 an8 : Option Addr} {sl8 : Array (Option Value)} {oc8 kV8 dc8 pm8 cd8 ct8 : Value}
    {f9 : Addr} {od9 an9 : Option Addr} {sl9 : Array (Option Value)} {oc9 kV9 dc9 pm9 cd9 ct9 : Value}
    {f10 : Addr} {od10 an10 : Option Addr} {sl10 : Array (Option Value)} {oc10 kV10 dc10 pm10 cd10 ct10 : Value}
    {f11 : Addr} {od11 an11 : Option Addr} {sl11 : Array (Option Value)} {oc11 kV11 dc11 pm11 cd11 ct11 : Value}
    {f12 : Addr} {od12 an12 : Option Addr} {sl12 : Array (Option Value)} {oc12 kV12 dc12 pm12 cd12 ct12 : Value}
    (a0 : PySem.W.nsIn K mainGlobals "_law_urn" = some (some (.ref f0))) (l0 : K.lookup f0 = some ⟨oc0, od0, .func (PySem.W.fnOf "_law_urn" "_law_urn" (defArgs s_law_urn) (defBody s_law_urn) (defScope s_law_urn) .none kV0 dc0 pm0 an0 cd0 ct0), sl0⟩) (c0 : PySem.W.codeIn K cd0 "_law_urn" = true) (k0 : PySem.W.keepIn K (.ref f0) = true)
    (a1 : PySem.W.nsIn K mainGlobals "_law_dip" = some (some (.ref f1))) (l1 : K.lookup f1 = some ⟨oc1, od1, .func (PySem.W.fnOf "_law_dip" "_law_dip" (defArgs s_law_dip) (defBody s_law_dip) (defScope s_law_dip) .none kV1 dc1 pm1 an1 cd1 ct1), sl1⟩) (c1 : PySem.W.codeIn K cd1 "_law_dip" = true) (k1 : PySem.W.keepIn K (.ref f1) = true)
    (a2 : PySem.W.nsIn K mainGlobals "_law_pick" = some (some (.ref f2))) (l2 : K.lookup f2 = some ⟨oc2, od2, .func (PySem.W.fnOf "_law_pick" "_law_pick" (defArgs s_law_pick) (defBody s_law_pick) (defScope s_law_pick) .none kV2 dc2 pm2 an2 cd2 ct2), sl2⟩) (c2 : PySem.W.codeIn K cd2 "_law_pick" = true) (k2 : PySem.W.keepIn K (.ref f2) = true)
    (a3 : PySem.W.nsIn K mainGlobals "_law_plan" = some (some (.ref f3))) (l3 : K.lookup f3 = some ⟨oc3, od3, .func (PySem.W.fnOf "_law_plan" "_law_plan" (defArgs s_law_plan) (defBody s_law_plan) (defScope s_law_plan) .none kV3 dc3 pm3 an3 cd3 ct3), sl3⟩) (c3 : PySem.W.codeIn K cd3 "_law_plan" = true) (k3 : PySem.W.keepIn K (.ref f3) = true)
    (a4 : PySem.W.nsIn K mainGlobals "_law_factors" = some (some (.ref f4))) (l4 : K.lookup f4 = some ⟨oc4, od4, .func (PySem.W.fnOf "_law_factors" "_law_factors" (defArgs s_law_factors) (defBody s_law_factors) (defScope s_law_factors) .none kV4 dc4 pm4 an4 cd4 ct4), sl4⟩) (c4 : PySem.W.codeIn K cd4 "_law_factors" = true) (k4 : PySem.W.keepIn K (.ref f4) = true)
    (a5 : PySem.W.nsIn K mainGlobals "is_integer" = some (some (.ref f5))) (l5 : K.lookup f5 = some ⟨oc5, od5, .func (PySem.W.fnOf "is_integer" "is_integer" (defArgs s_is_integer) (defBody s_is_integer) (defScope s_is_integer) .none kV5 dc5 pm5 an5 cd5 ct5), sl5⟩) (c5 : PySem.W.codeIn K cd5 "is_integer" = true) (k5 : PySem.W.keepIn K (.ref f5) = true)
    (a6 : PySem.W.nsIn K mainGlobals "is_within" = some (some (.ref f6))) (l6 : K.lookup f6 = some ⟨oc6, od6, .func (PySem.W.fnOf "is_within" "is_within" (defArgs s_is_within) (defBody s_is_within) (defScope s_is_within) .none kV6 dc6 pm6 an6 cd6 ct6), sl6⟩) (c6 : PySem.W.codeIn K cd6 "is_within" = true) (k6 : PySem.W.keepIn K (.ref f6) = true)
    (a7 : PySem.W.nsIn K mainGlobals "need_number" = some (some (.ref f7))) (l7 : K.lookup f7 = some ⟨oc7, od7, .func (PySem.W.fnOf "need_number" "need_number" (defArgs s_need_number) (defBody s_need_number) (defScope s_need_number) .none kV7 dc7 pm7 an7 cd7 ct7), sl7⟩) (c7 : PySem.W.codeIn K cd7 "need_number" = true) (k7 : PySem.W.keepIn K (.ref f7) = true)
    (a8 : PySem.W.nsIn K mainGlobals "need_whole" = some (some (.ref f8))) (l8 : K.lookup f8 = some ⟨oc8, od8, .func (PySem.W.fnOf "need_whole" "need_whole" (defArgs s_need_whole) (defBody s_need_whole) (defScope s_need_whole) .none kV8 dc8 pm8 an8 cd8 ct8), sl8⟩) (c8 : PySem.W.codeIn K cd8 "need_whole" = true) (k8 : PySem.W.keepIn K (.ref f8) = true)
    (a9 : PySem.W.nsIn K mainGlobals "planned" = some (some (.ref f9))) (l9 : K.lookup f9 = some ⟨oc9, od9, .func (PySem.W.fnOf "planned" "planned" (defArgs s_planned) (defBody s_planned) (defScope s_planned) .none kV9 dc9 pm9 an9 cd9 ct9), sl9⟩) (c9 : PySem.W.codeIn K cd9 "planned" = true) (k9 : PySem.W.keepIn K (.ref f9) = true)
    (a10 : PySem.W.nsIn K mainGlobals "hands_plan" = some (some (.ref f10))) (l10 : K.lookup f10 = some ⟨oc10, od10, .func (PySem.W.fnOf "hands_plan" "hands_plan" (defArgs s_hands_plan) (defBody s_hands_plan) (defScope s_hands_plan) .none kV10 dc10 pm10 an10 cd10 ct10), sl10⟩) (c10 : PySem.W.codeIn K cd10 "hands_plan" = true) (k10 : PySem.W.keepIn K (.ref f10) = true)
    (a11 : PySem.W.nsIn K mainGlobals "late_in" = some (some (.ref f11))) (l11 : K.lookup f11 = some ⟨oc11, od11, .func (PySem.W.fnOf "late_in" "late_in" (defArgs s_late_in) (defBody s_late_in) (defScope s_late_in) .none kV11 dc11 pm11 an11 cd11 ct11), sl11⟩) (c11 : PySem.W.codeIn K cd11 "late_in" = true) (k11 : PySem.W.keepIn K (.ref f11) = true)
    (a12 : PySem.W.nsIn K mainGlobals "law" = some (some (.ref f12))) (l12 : K.lookup f12 = some ⟨oc12, od12, .func (PySem.W.fnOf "law" "law" (defArgs s_law) (defBody s_law) (defScope s_law) .none kV12 dc12 pm12 an12 cd12 ct12), sl12⟩) (c12 : PySem.W.codeIn K cd12 "law" = true) (k12 : PySem.W.keepIn K (.ref f12) = true)
    (z0 : PySem.W.nsIn K mainGlobals "abs" = some none)
    (z1 : PySem.W.nsIn K mainGlobals "all" = some none)
    (z2 : PySem.W.nsIn K mainGlobals "bool" = some none)
    (z3 : PySem.W.nsIn K mainGlobals "enumerate" = some none)
    (z4 : PySem.W.nsIn K mainGlobals "int" = some none)
    (z5 : PySem.W.nsIn K mainGlobals "isinstance" = some none)
    (z6 : PySem.W.nsIn K mainGlobals "len" = some none)
    (z7 : PySem.W.nsIn K mainGlobals "list" = some none)
    (z8 : PySem.W.nsIn K mainGlobals "min" = some none)
    (z9 : PySem.W.nsIn K mainGlobals "range" = some none)
    (z10 : PySem.W.nsIn K mainGlobals "repr" = some none)
    (z11 : PySem.W.nsIn K mainGlobals "sorted" = some none)
    (z12 : PySem.W.nsIn K mainGlobals "tuple" = some none)
    {t0 : _} (v0 : PySem.W.nsIn K mainGlobals "MOST_FACTORS" = some (some (.int (40) t0)))
    {t1 : _} (v1 : PySem.W.nsIn K mainGlobals "MOST_HANDS" = some (some (.int (8) t1)))
    {t2 : _} (v2 : PySem.W.nsIn K mainGlobals "MOST_LATE" = some (some (.int (20000) t2)))
    {t3 : _} (v3 : PySem.W.nsIn K mainGlobals "MOST_PART" = some (some (.int (1000000) t3)))
    {t4 : _} (v4 : PySem.W.nsIn K mainGlobals "MOST_TICKS" = some (some (.int (2000) t4)))
    : ∃ fd : FuncData, (∀ (s : Shared) (v : Value), BindsTo s fd ⟨[v], []⟩ [("_law_script", v)]) ∧ ∀ base : Heap, K.In base → base.Ns mainGlobals mg → FnG P w K mg base 7 fa fd ["_law_script"] (toSp K lawSp) := by
  have e := hfa.symm.trans (PySem.W.mg_of X G a12)
  cases e
  have F0 := fun_mk (st := s_law_urn) l0 c0 k0
  have b0 := F0.binds (ps := ["_law_script"]) fun _ _ _ _ _ _ us hl => match us, hl with | [_], _ => rfl
  have F1 := fun_mk (st := s_law_dip) l1 c1 k1
  have b1 := F1.binds (ps := ["_law_urn_here", "_law_many"]) fun _ _ _ _ _ _ us hl => match us, hl with | [_, _], _ => rfl
  have F2 := fun_mk (st := s_law_pick) l2 c2 k2
  have b2 := F2.binds (ps := ["_law_urn_here", "_law_some"]) fun _ _ _ _ _ _ us hl => match us, hl with | [_, _], _ => rfl
  have F3 := fun_mk (st := s_law_plan) l3 c3 k3
  have b3 := F3.binds (ps := ["_law_factors_here", "_law_hands", "_law_ticks"]) fun _ _ _ _ _ _ us hl => match us, hl with | [_, _, _], _ => rfl
  have F4 := fun_mk (st := s_law_factors) l4 c4 k4
  have b4 := F4.binds (ps := ["_law_urn_here", "_law_hands"]) fun _ _ _ _ _ _ us hl => match us, hl with | [_, _], _ => rfl
  have F5 := fun_mk (st := s_is_integer) l5 c5 k5
  have b5 := F5.binds (ps := ["value"]) fun _ _ _ _ _ _ us hl => match us, hl with | [_], _ => rfl
  have F6 := fun_mk (st := s_is_within) l6 c6 k6
  have b6 := F6.binds (ps := ["value", "least", "most"]) fun _ _ _ _ _ _ us hl => match us, hl with | [_, _, _], _ => rfl
  have F7 := fun_mk (st := s_need_number) l7 c7 k7
  have b7 := F7.binds (ps := ["value", "part", "least", "most"]) fun _ _ _ _ _ _ us hl => match us, hl with | [_, _, _, _], _ => rfl
  have F8 := fun_mk (st := s_need_whole) l8 c8 k8
  have b8 := F8.binds (ps := ["value", "hands"]) fun _ _ _ _ _ _ us hl => match us, hl with | [_, _], _ => rfl
  have F9 := fun_mk (st := s_planned) l9 c9 k9
  have b9 := F9.binds (ps := ["lot", "hands", "ticks"]) fun _ _ _ _ _ _ us hl => match us, hl with | [_, _, _], _ => rfl
  have F10 := fun_mk (st := s_hands_plan) l10 c10 k10
  have b10 := F10.binds (ps := ["factors", "hands", "ticks"]) fun _ _ _ _ _ _ us hl => match us, hl with | [_, _, _], _ => rfl
  have F11 := fun_mk (st := s_late_in) l11 c11 k11
  have b11 := F11.binds (ps := ["factors", "hands", "ticks"]) fun _ _ _ _ _ _ us hl => match us, hl with | [_, _, _], _ => rfl
  have F12 := fun_mk (st := s_law) l12 c12 k12
  have kb0 : KBn K _ ["factors", "hands", "ticks"] 0 ["ticks", "hands", "factors"] (fun _ xs => match xs with | [x0, x1, x2] => [x2, x1, x0] | _ => []) (fun _ xs => match xs with | [x0, x1, x2] => [x2, x1, x0] | _ => []) := Fun_kbn F10 (fun _ _ _ _ _ _ ws hl => match ws, hl with | [_, _, _], _ => rfl) (fun {zs ws} hz => match zs, ws, hz with
    | _, _, .nil => .nil
    | _, _, .cons h0 (.nil) => .nil
    | _, _, .cons h0 (.cons h1 (.nil)) => .nil
    | _, _, .cons h0 (.cons h1 (.cons h2 (.nil))) => .cons h2 (.cons h1 (.cons h0 (.nil)))
    | _, _, .cons _ (.cons _ (.cons _ (.cons _ (_)))) => .nil)
  have kb1 : KBn K _ ["factors", "hands", "ticks"] 0 ["ticks", "factors", "hands"] (fun _ xs => match xs with | [x0, x1, x2] => [x1, x2, x0] | _ => []) (fun _ xs => match xs with | [x0, x1, x2] => [x1, x2, x0] | _ => []) := Fun_kbn F11 (fun _ _ _ _ _ _ ws hl => match ws, hl with | [_, _, _], _ => rfl) (fun {zs ws} hz => match zs, ws, hz with
    | _, _, .nil => .nil
    | _, _, .cons h0 (.nil) => .nil
    | _, _, .cons h0 (.cons h1 (.nil)) => .nil
    | _, _, .cons h0 (.cons h1 (.cons h2 (.nil))) => .cons h1 (.cons h2 (.cons h0 (.nil)))
    | _, _, .cons _ (.cons _ (.cons _ (.cons _ (_)))) => .nil)
  exact ⟨PySem.W.fnOf "law" "law" (defArgs s_law) (defBody s_law) (defScope s_law) .none kV12 dc12 pm12 an12 cd12 ct12, fun s v => .of_eq rfl, fun base _ _ => ok_law F12 ⟨f0, _, F0, b0, PySem.W.mg_of X G a0, f1, _, F1, b1, PySem.W.mg_of X G a1, f2, _, F2, b2, PySem.W.mg_of X G a2, f3, _, F3, b3, PySem.W.mg_of X G a3, f4, _, F4, b4, PySem.W.mg_of X G a4, f5, _, F5, b5, PySem.W.mg_of X G a5, f6, _, F6, b6, PySem.W.mg_of X G a6, f7, _, F7, b7, PySem.W.mg_of X G a7, f8, _, F8, b8, PySem.W.mg_of X G a8, f9, _, F9, b9, PySem.W.mg_of X G a9, f10, _, F10, b10, PySem.W.mg_of X G a10, f11, _, F11, b11, PySem.W.mg_of X G a11, kb0, kb1, PySem.W.mg_none_of X G z0, PySem.W.mg_none_of X G z1, PySem.W.mg_none_of X G z2, PySem.W.mg_none_of X G z3, PySem.W.mg_none_of X G z4, PySem.W.mg_none_of X G z5, PySem.W.mg_none_of X G z6, PySem.W.mg_none_of X G z7, PySem.W.mg_none_of X G z8, PySem.W.mg_none_of X G z9, PySem.W.mg_none_of X G z10, PySem.W.mg_none_of X G z11, PySem.W.mg_none_of X G z12, ⟨_, PySem.W.mg_of X G v0⟩, ⟨_, PySem.W.mg_of X G v1⟩, ⟨_, PySem.W.mg_of X G v2⟩, ⟨_, PySem.W.mg_of X G v3⟩, ⟨_, PySem.W.mg_of X G v4⟩⟩⟩
end K63
open PySem PySem.W PyProof.Rows
set_option maxHeartbeats 0 in
theorem PySem.Challenge.cw_duetickers_k63_plans_of_dues_by_own_choi_holds : PySem.Challenge.rw_duetickers_k63_plans_of_dues_by_own_choi.Holds := by
  w_on; o_law; k_head; (case hw => w_witness2)
  k_fill
  refine DL.walk_g (l := PySem.Challenge.rw_duetickers_k63_plans_of_dues_by_own_choi) (k := 7) (x := "_law_script") rfl rfl ⟨rfl, by decide, by decide⟩ (fun w h Y => PySem.W.kIn_of Y) ?F
  case F =>
    intro w mg fa h KX G hmg
    refine' K63.all_mk KX G hmg ?a0 ?l0 ?c0 ?k0 ?a1 ?l1 ?c1 ?k1 ?a2 ?l2 ?c2 ?k2 ?a3 ?l3 ?c3 ?k3 ?a4 ?l4 ?c4 ?k4 ?a5 ?l5 ?c5 ?k5 ?a6 ?l6 ?c6 ?k6 ?a7 ?l7 ?c7 ?k7 ?a8 ?l8 ?c8 ?k8 ?a9 ?l9 ?c9 ?k9 ?a10 ?l10 ?c10 ?k10 ?a11 ?l11 ?c11 ?k11 ?a12 ?l12 ?c12 ?k12 ?z0 ?z1 ?z2 ?z3 ?z4 ?z5 ?z6 ?z7 ?z8 ?z9 ?z10 ?z11 ?z12 ?v0 ?v1 ?v2 ?v3 ?v4
    (case a0 => k_is); (case l0 => k_is); (case c0 => k_is); (case k0 => k_is); (case a1 => k_is); (case l1 => k_is); (case c1 => k_is); (case k1 => k_is); (case a2 => k_is); (case l2 => k_is); (case c2 => k_is); (case k2 => k_is); (case a3 => k_is); (case l3 => k_is); (case c3 => k_is); (case k3 => k_is); (case a4 => k_is); (case l4 => k_is); (case c4 => k_is); (case k4 => k_is); (case a5 => k_is); (case l5 => k_is); (case c5 => k_is); (case k5 => k_is); (case a6 => k_is); (case l6 => k_is); (case c6 => k_is); (case k6 => k_is); (case a7 => k_is); (case l7 => k_is); (case c7 => k_is); (case k7 => k_is); (case a8 => k_is); (case l8 => k_is); (case c8 => k_is); (case k8 => k_is); (case a9 => k_is); (case l9 => k_is); (case c9 => k_is); (case k9 => k_is); (case a10 => k_is); (case l10 => k_is); (case c10 => k_is); (case k10 => k_is); (case a11 => k_is); (case l11 => k_is); (case c11 => k_is); (case k11 => k_is); (case a12 => k_is); (case l12 => k_is); (case c12 => k_is); (case k12 => k_is); (case z0 => k_is); (case z1 => k_is); (case z2 => k_is); (case z3 => k_is); (case z4 => k_is); (case z5 => k_is); (case z6 => k_is); (case z7 => k_is); (case z8 => k_is); (case z9 => k_is); (case z10 => k_is); (case z11 => k_is); (case z12 => k_is); (case v0 => k_is); (case v1 => k_is); (case v2 => k_is); (case v3 => k_is); (case v4 => k_is)
