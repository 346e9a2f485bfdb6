import PyProof.Rows.All
import Wide.All
import OpenK.AllK
import Wide.FinOn
import HandS.ForMost
import HandS.Exc
import HandS.ExcOwn
import HandS.WordsExc
import HandS.Lambda
import HandS.CallSlots
import HandS.IsInst
import HandS.Wide
import HandS.Walk
import HandS.TupAny
import HandS.TupMul
import HandS.Zip
import HandS.Style
import HandS.Flow
import HandS.EndBits
import HandS.RaiseMore
import HandS.SortInts
import KE.DataEq
import HandS.ExcCtx
import HandS.GenYield
import HandS.GenList
import HandS.GenCall
import HandS.Conv
import PyProof.EnumMake
import PyProof.Draws
import HandS.Zip0
import HandS.Sort
import HandS.Star
import HandS.SetFor
import HandS.Strs
import HandS.Deep
import HandS.HotCalls
import HandS.Comp
import HandS.ExcIs
import PyProof.AutoListH
import HandS.EndTab
import PySem.Challenge.RW_growwaits_k13_most_tries_until_a_time
set_option Elab.async false
set_option linter.all false
set_option maxRecDepth 100000
namespace GW
open PySem PySem.Spec L2

/-! ### data -/
/-- the built-in classes that are named -/
inductive Ty where
  | int | bool | str | tuple | list
def Ty.name : Ty → String
  | .int => "int" | .bool => "bool" | .str => "str" | .tuple => "tuple" | .list => "list"
inductive D where
  | non | bl (b : Bool) | int (i : Int) | str (s : Str)
  | tup (xs : List D) | lst (xs : List D)
  | dK (kvs : List (Key × D)) | dT (kvs : List (List Key × D))
  | fn (a : Addr)
  | ty (n : Ty)

mutual
inductive Rp (K : PySem.W.Frag) (F : Hp) : V → D → Prop
  | non : Rp K F .non .non
  | bl (b : Bool) : Rp K F (.bl b) (.bl b)
  | int (i : Int) : Rp K F (.int i) (.int i)
  | str (x : Str) : Rp K F (.str x) (.str x)
  | tup {a : Addr} {vs : List V} {xs : List D} : SqT K F a vs → RpL K F vs xs → Rp K F (.ref a) (.tup xs)
  | lst {a : Addr} {vs : List V} {xs : List D} : SqL K F a vs → RpL K F vs xs → Rp K F (.ref a) (.lst xs)
  | dK {a : Addr} {vs : List (Key × V)} {xs : List (Key × D)} : Rd F a (.dK vs) → RpK K F vs xs → Rp K F (.ref a) (.dK xs)
  | dT {a : Addr} {vs : List (List Key × V)} {xs : List (List Key × D)} : Rd F a (.dT vs) → RpT K F vs xs → Rp K F (.ref a) (.dT xs)
  | fn (a : Addr) : Rp K F (.ref a) (.fn a)
  | ty (n : Ty) : Rp K F (.ty n.name) (.ty n)
inductive RpL (K : PySem.W.Frag) (F : Hp) : List V → List D → Prop
  | nil : RpL K F [] []
  | cons {v : V} {vs : List V} {d : D} {ds : List D} : Rp K F v d → RpL K F vs ds → RpL K F (v :: vs) (d :: ds)
inductive RpK (K : PySem.W.Frag) (F : Hp) : List (Key × V) → List (Key × D) → Prop
  | nil : RpK K F [] []
  | cons {k : Key} {v : V} {vs : List (Key × V)} {d : D} {ds : List (Key × D)} : Rp K F v d → RpK K F vs ds → RpK K F ((k, v) :: vs) ((k, d) :: ds)
inductive RpT (K : PySem.W.Frag) (F : Hp) : List (List Key × V) → List (List Key × D) → Prop
  | nil : RpT K F [] []
  | cons {k : List Key} {v : V} {vs : List (List Key × V)} {d : D} {ds : List (List Key × D)} : Rp K F v d → RpT K F vs ds → RpT K F ((k, v) :: vs) ((k, d) :: ds)
end

/-- what F knows may be read in H -/
def Sub (F H : Hp) : Prop := ∀ a u, Rd F a u → Rd H a u
/-- F' knows all that F knows -/
def Grow (F F' : Hp) : Prop := ∀ b o, F b = some o → F' b = some o
theorem Grow.refl (F : Hp) : Grow F F := fun _ _ h => h
theorem Grow.trans {A B C : Hp} (x : Grow A B) (y : Grow B C) : Grow A C := fun b o h => y b o (x b o h)
theorem Grow.rd {F F' : Hp} (g : Grow F F') {a : Addr} {u : HO} (h : Rd F a u) : Rd F' a u := by
  rcases h with h | ⟨o, h⟩
  · exact .inl (g _ _ h)
  · exact .inr ⟨o, g _ _ h⟩
theorem Sub.seqL {K : PySem.W.Frag} {F H : Hp} (s : ∀ a u, Rd F a u → Rd H a u) {a : Addr} {xs : List V} (h : SqL K F a xs) : SqL K H a xs := by
  rcases h with h | h
  · exact .inl (s _ _ h)
  · exact .inr h
theorem Sub.seqT {K : PySem.W.Frag} {F H : Hp} (s : ∀ a u, Rd F a u → Rd H a u) {a : Addr} {xs : List V} (h : SqT K F a xs) : SqT K H a xs := by
  rcases h with h | h
  · exact .inl (s _ _ h)
  · exact .inr h

section
variable {K : PySem.W.Frag} {F H : Hp}
mutual
theorem Rp.mono (s : ∀ a u, Rd F a u → Rd H a u) : ∀ {v : V} {d : D}, Rp K F v d → Rp K H v d
  | _, _, .non => .non
  | _, _, .bl b => .bl b
  | _, _, .int i => .int i
  | _, _, .str x => .str x
  | _, _, .tup h r => .tup (Sub.seqT s h) (RpL.mono s r)
  | _, _, .lst h r => .lst (Sub.seqL s h) (RpL.mono s r)
  | _, _, .dK h r => .dK (s _ _ h) (RpK.mono s r)
  | _, _, .dT h r => .dT (s _ _ h) (RpT.mono s r)
  | _, _, .fn a => .fn a
  | _, _, .ty n => .ty n
theorem RpL.mono (s : ∀ a u, Rd F a u → Rd H a u) : ∀ {vs : List V} {ds : List D}, RpL K F vs ds → RpL K H vs ds
  | _, _, .nil => .nil
  | _, _, .cons r t => .cons (Rp.mono s r) (RpL.mono s t)
theorem RpK.mono (s : ∀ a u, Rd F a u → Rd H a u) : ∀ {vs : List (Key × V)} {ds : List (Key × D)}, RpK K F vs ds → RpK K H vs ds
  | _, _, .nil => .nil
  | _, _, .cons r t => .cons (Rp.mono s r) (RpK.mono s t)
theorem RpT.mono (s : ∀ a u, Rd F a u → Rd H a u) : ∀ {vs : List (List Key × V)} {ds : List (List Key × D)}, RpT K F vs ds → RpT K H vs ds
  | _, _, .nil => .nil
  | _, _, .cons r t => .cons (Rp.mono s r) (RpT.mono s t)
end
theorem RpL.length : ∀ {vs : List V} {ds : List D}, RpL K F vs ds → vs.length = ds.length
  | _, _, .nil => rfl
  | _, _, .cons _ t => by simp [RpL.length t]
theorem RpL.append : ∀ {vs ws : List V} {ds es : List D}, RpL K F vs ds → RpL K F ws es → RpL K F (vs ++ ws) (ds ++ es)
  | _, _, _, _, .nil, q => q
  | _, _, _, _, .cons r t, q => .cons r (RpL.append t q)
theorem RpL.one {v : V} {d : D} (r : Rp K F v d) : RpL K F [v] [d] := .cons r .nil
theorem RpL.take : ∀ (n : Nat) {vs : List V} {ds : List D}, RpL K F vs ds → RpL K F (vs.take n) (ds.take n)
  | 0, _, _, _ => by simpa using RpL.nil
  | n + 1, _, _, .nil => .nil
  | n + 1, _, _, .cons r t => .cons r (RpL.take n t)
theorem RpL.drop : ∀ (n : Nat) {vs : List V} {ds : List D}, RpL K F vs ds → RpL K F (vs.drop n) (ds.drop n)
  | 0, _, _, r => by simpa using r
  | n + 1, _, _, .nil => .nil
  | n + 1, _, _, .cons r t => RpL.drop n t
theorem RpL.get : ∀ {vs : List V} {ds : List D} {i : Nat} {d : D}, RpL K F vs ds → ds[i]? = some d → ∃ v, vs[i]? = some v ∧ Rp K F v d
  | _, _, _, _, .nil, h => by simp at h
  | _, _, 0, _, .cons r _, h => by simp at h; subst h; exact ⟨_, rfl, r⟩
  | _, _, i + 1, _, .cons _ t, h => by
    obtain ⟨v, e, q⟩ := RpL.get (i := i) t (by simpa using h)
    exact ⟨v, by simpa using e, q⟩
theorem RpL.getV : ∀ {vs : List V} {ds : List D} {i : Nat} {v : V}, RpL K F vs ds → vs[i]? = some v → ∃ d, ds[i]? = some d ∧ Rp K F v d
  | _, _, _, _, .nil, h => by simp at h
  | _, _, 0, _, .cons r _, h => by simp at h; subst h; exact ⟨_, rfl, r⟩
  | _, _, i + 1, _, .cons _ t, h => by
    obtain ⟨v, e, q⟩ := RpL.getV (i := i) t (by simpa using h)
    exact ⟨v, by simpa using e, q⟩
theorem RpL.set {v : V} {d : D} (q : Rp K F v d) : ∀ (i : Nat) {vs : List V} {ds : List D}, RpL K F vs ds → RpL K F (vs.set i v) (ds.set i d)
  | _, _, _, .nil => .nil
  | 0, _, _, .cons _ t => .cons q t
  | i + 1, _, _, .cons r t => .cons r (RpL.set q i t)
theorem RpL.dropLast : ∀ {vs : List V} {ds : List D}, RpL K F vs ds → RpL K F vs.dropLast ds.dropLast := fun {vs ds} r => by
  rw [List.dropLast_eq_take, List.dropLast_eq_take, r.length]
  exact r.take _
theorem RpL.ints : ∀ {vs : List V} {ns : List Int}, RpL K F vs (ns.map D.int) → vs = ns.map V.int
  | _, [], .nil => rfl
  | _, n :: ns, .cons r t => by
    cases r
    rw [RpL.ints t]; rfl
theorem RpL.bls : ∀ {vs : List V} {ns : List Bool}, RpL K F vs (ns.map D.bl) → vs = ns.map V.bl
  | _, [], .nil => rfl
  | _, n :: ns, .cons r t => by
    cases r
    rw [RpL.bls t]; rfl
theorem RpL.of_ints : ∀ (ns : List Int), RpL K F (ns.map V.int) (ns.map D.int)
  | [] => .nil
  | n :: ns => .cons (.int n) (RpL.of_ints ns)
end

/-! ### own things: lists and dicts that one slot alone holds -/
inductive O where
  | lst (xs : List D) | dK (kvs : List (Key × D)) | dT (kvs : List (List Key × D))
def O.toD : O → D
  | .lst xs => .lst xs
  | .dK kvs => .dK kvs
  | .dT kvs => .dT kvs
def OwnAt (K : PySem.W.Frag) (F H : Hp) (a : Addr) : O → Prop
  | .lst xs => ∃ vs, H a = some (.lst vs) ∧ RpL K F vs xs
  | .dK xs => ∃ vs, H a = some (.dK vs) ∧ RpK K F vs xs
  | .dT xs => ∃ vs, H a = some (.dT vs) ∧ RpT K F vs xs
theorem OwnAt.mono {K : PySem.W.Frag} {F H F' H' : Hp} {a : Addr} {o : O} (h : OwnAt K F H a o) (g : Grow F F') (k : ∀ u, H a = some u → H' a = some u) : OwnAt K F' H' a o := by
  cases o with
  | lst xs => obtain ⟨vs, e, r⟩ := h; exact ⟨vs, k _ e, r.mono fun _ _ => g.rd⟩
  | dK xs => obtain ⟨vs, e, r⟩ := h; exact ⟨vs, k _ e, r.mono fun _ _ => g.rd⟩
  | dT xs => obtain ⟨vs, e, r⟩ := h; exact ⟨vs, k _ e, r.mono fun _ _ => g.rd⟩
theorem OwnAt.there {K : PySem.W.Frag} {F H : Hp} {a : Addr} {o : O} (h : OwnAt K F H a o) : ∃ u, H a = some u := by
  cases o with
  | lst xs => obtain ⟨vs, e, r⟩ := h; exact ⟨_, e⟩
  | dK xs => obtain ⟨vs, e, r⟩ := h; exact ⟨_, e⟩
  | dT xs => obtain ⟨vs, e, r⟩ := h; exact ⟨_, e⟩
theorem grow_upd {F : Hp} {a : Addr} {u : HO} (h : F a = none) : Grow F (upd F a u) := fun b o e => by
  rw [upd_ne (ne_of_none e h)]; exact e
/-- frozen: F knows it from now on -/
theorem OwnAt.freeze {K : PySem.W.Frag} {F H : Hp} {a : Addr} {o : O} (h : OwnAt K F H a o) (n : F a = none) : ∃ u, H a = some u ∧ Rp K (upd F a u) (.ref a) o.toD := by
  cases o with
  | lst xs => obtain ⟨vs, e, r⟩ := h; exact ⟨_, e, .lst (.inl (.inl upd_same)) (r.mono fun _ _ => (grow_upd n).rd)⟩
  | dK xs => obtain ⟨vs, e, r⟩ := h; exact ⟨_, e, .dK (.inl upd_same) (r.mono fun _ _ => (grow_upd n).rd)⟩
  | dT xs => obtain ⟨vs, e, r⟩ := h; exact ⟨_, e, .dT (.inl upd_same) (r.mono fun _ _ => (grow_upd n).rd)⟩

/-! ### slots -/
inductive Sl where
  | un | dat (d : D) | own (o : O) | tabd (d : D) (P : Addr)
abbrev Env' := List Sl
/-- the table of code objects at P: all that it tells is known to F -/
def lamQ : Str := "law.<locals>.<lambda>"
def TabF (F H : Hp) (P : Addr) : Prop := ∃ ps : Array Value, H P = some (.tbl ps) ∧ TriplesOk ps.toList ∧ ∀ (pos : Pos) (cv : Value), codeAmong pos ps.toList = some cv → ∃ c, cv = .ref c ∧ F c = some (LamX.CodeO c lamQ)
theorem TabF.mono {F H F' H' : Hp} {P : Addr} (t : TabF F H P) (g : ∀ b o, F b = some o → F' b = some o) (k : ∀ u, H P = some u → H' P = some u) : TabF F' H' P := by
  obtain ⟨ps, h1, h2, h3⟩ := t
  refine ⟨ps, k _ h1, h2, fun pos cv h => ?_⟩
  obtain ⟨c, e1, e2⟩ := h3 pos cv h
  exact ⟨c, e1, g _ _ e2⟩
theorem TabF.there {F H : Hp} {P : Addr} (t : TabF F H P) : ∃ u, H P = some u := let ⟨_, e, _⟩ := t; ⟨_, e⟩
inductive SR (K : PySem.W.Frag) (F H : Hp) : St → List Sl → List Addr → Prop
  | nil : SR K F H [] [] []
  | un {o : Option V} {σ : St} {ev : List Sl} {fp : List Addr} : SR K F H σ ev fp → SR K F H (o :: σ) (.un :: ev) fp
  | dat {v : V} {d : D} {σ : St} {ev : List Sl} {fp : List Addr} : Rp K F v d → SR K F H σ ev fp → SR K F H (some v :: σ) (.dat d :: ev) fp
  | own {a : Addr} {o : O} {σ : St} {ev : List Sl} {fp : List Addr} : OwnAt K F H a o → F a = none → SR K F H σ ev fp → SR K F H (some (.ref a) :: σ) (.own o :: ev) (a :: fp)
  | tabd {v : V} {d : D} {P : Addr} {σ : St} {ev : List Sl} {fp : List Addr} : Rp K F v d → TabF F H P → F P = none → SR K F H σ ev fp → SR K F H (some v :: σ) (.tabd d P :: ev) (P :: fp)
structure DS (K : PySem.W.Frag) (F H : Hp) (σ : St) (ev : List Sl) (fp : List Addr) : Prop where
  sub : Sub F H
  sr : SR K F H σ ev fp
  nd : fp.Nodup

/-- what may change: the things at fp; F grows by new things and by things of fp -/
structure Evo (F H : Hp) (fp : List Addr) (F' H' : Hp) (fp' : List Addr) : Prop where
  keep : ∀ b o, H b = some o → b ∉ fp → H' b = some o
  grow : Grow F F'
  out : ∀ b o, H b = some o → F b = none → b ∉ fp → F' b = none
  fpn : ∀ b ∈ fp', b ∈ fp ∨ H b = none

section
variable {K : PySem.W.Frag} {F H F' H' F1 H1 F2 H2 : Hp} {σ : St} {ev : List Sl} {fp fp' fp1 fp2 : List Addr}
theorem Evo.refl (F H : Hp) (fp : List Addr) : Evo F H fp F H fp := ⟨fun _ _ h _ => h, Grow.refl _, fun _ _ _ h _ => h, fun _ h => .inl h⟩
theorem Evo.trans (x : Evo F H fp F1 H1 fp1) (y : Evo F1 H1 fp1 F2 H2 fp2) : Evo F H fp F2 H2 fp2 where
  keep := fun b o h n => by
    have h1 := x.keep b o h n
    refine y.keep b o h1 fun z => ?_
    rcases x.fpn b z with q | q
    · exact n q
    · rw [h] at q; cases q
  grow := x.grow.trans y.grow
  out := fun b o h f n => by
    have h1 := x.keep b o h n
    refine y.out b o h1 (x.out b o h f n) fun z => ?_
    rcases x.fpn b z with q | q
    · exact n q
    · rw [h] at q; cases q
  fpn := fun b z => by
    rcases y.fpn b z with q | q
    · exact x.fpn b q
    · by_cases hb : b ∈ fp
      · exact .inl hb
      · cases e : H b with
        | none => exact .inr rfl
        | some o => rw [x.keep b o e hb] at q; cases q
theorem Evo.fewer (x : Evo F H fp F' H' fp') (h : ∀ b ∈ fp2, b ∈ fp') : Evo F H fp F' H' fp2 := ⟨x.keep, x.grow, x.out, fun b z => x.fpn b (h b z)⟩
/-- nothing of fp is needed: a smaller footprint at the start -/
theorem Evo.more (x : Evo F H fp F' H' fp') (h : ∀ b ∈ fp, b ∈ fp2) : Evo F H fp2 F' H' fp' := ⟨fun b o e n => x.keep b o e fun z => n (h b z), x.grow, fun b o e f n => x.out b o e f fun z => n (h b z), fun b z => (x.fpn b z).elim (fun q => .inl (h b q)) .inr⟩

theorem SR.len (s : SR K F H σ ev fp) : σ.length = ev.length := by
  induction s with
  | tabd _ _ _ _ ih => simp [ih]
  | nil => rfl
  | un _ ih => simp [ih]
  | dat _ _ ih => simp [ih]
  | own _ _ _ ih => simp [ih]
theorem SR.free (s : SR K F H σ ev fp) : ∀ b ∈ fp, F b = none ∧ ∃ u, H b = some u := by
  induction s with
  | tabd r t n _ ih =>
    intro b hb
    rcases List.mem_cons.mp hb with e | e
    · subst e; exact ⟨n, t.there⟩
    · exact ih b e
  | nil => intro b h; cases h
  | un _ ih => exact ih
  | dat _ _ ih => exact ih
  | own h f _ ih =>
    intro b hb
    rcases List.mem_cons.mp hb with e | e
    · subst e; exact ⟨f, h.there⟩
    · exact ih b e
theorem SR.mono (s : SR K F H σ ev fp) (g : Grow F F') (k : ∀ b ∈ fp, ∀ u, H b = some u → H' b = some u) (n : ∀ b ∈ fp, F' b = none) : SR K F' H' σ ev fp := by
  induction s with
  | tabd r t nn _ ih => exact .tabd (r.mono fun _ _ => g.rd) (t.mono g (k _ List.mem_cons_self)) (n _ List.mem_cons_self) (ih (fun b hb => k b (List.mem_cons_of_mem _ hb)) fun b hb => n b (List.mem_cons_of_mem _ hb))
  | nil => exact .nil
  | un _ ih => exact .un (ih k n)
  | dat r _ ih => exact .dat (r.mono fun _ _ => g.rd) (ih k n)
  | own h f _ ih => exact .own (h.mono g (k _ List.mem_cons_self)) (n _ List.mem_cons_self) (ih (fun b hb => k b (List.mem_cons_of_mem _ hb)) fun b hb => n b (List.mem_cons_of_mem _ hb))
theorem SR.getDat (s : SR K F H σ ev fp) : ∀ {i : Nat} {d : D}, ev[i]? = some (.dat d) → ∃ v, σ[i]? = some (some v) ∧ Rp K F v d := by
  induction s with
  | tabd _ _ _ _ ih =>
    intro i d h
    cases i with
    | zero => simp at h
    | succ i => simpa using ih (by simpa using h)
  | nil => intro i d h; simp at h
  | un _ ih =>
    intro i d h
    cases i with
    | zero => simp at h
    | succ i => simpa using ih (by simpa using h)
  | dat r _ ih =>
    intro i d h
    cases i with
    | zero => simp at h; subst h; exact ⟨_, rfl, r⟩
    | succ i => simpa using ih (by simpa using h)
  | own _ _ _ ih =>
    intro i d h
    cases i with
    | zero => simp at h
    | succ i => simpa using ih (by simpa using h)
theorem SR.getOwn (s : SR K F H σ ev fp) : ∀ {i : Nat} {o : O}, ev[i]? = some (.own o) → ∃ a, σ[i]? = some (some (.ref a)) ∧ OwnAt K F H a o ∧ F a = none ∧ a ∈ fp := by
  induction s with
  | tabd _ _ _ _ ih =>
    intro i d h
    cases i with
    | zero => simp at h
    | succ i =>
      obtain ⟨a, e, x, y, z⟩ := ih (i := i) (by simpa using h)
      exact ⟨a, by simpa using e, x, y, List.mem_cons_of_mem _ z⟩
  | nil => intro i d h; simp at h
  | un _ ih =>
    intro i d h
    cases i with
    | zero => simp at h
    | succ i => simpa using ih (by simpa using h)
  | dat r _ ih =>
    intro i d h
    cases i with
    | zero => simp at h
    | succ i => simpa using ih (by simpa using h)
  | own r f _ ih =>
    intro i d h
    cases i with
    | zero => simp at h; subst h; exact ⟨_, rfl, r, f, List.mem_cons_self⟩
    | succ i =>
      obtain ⟨a, e, x, y, z⟩ := ih (i := i) (by simpa using h)
      exact ⟨a, by simpa using e, x, y, List.mem_cons_of_mem _ z⟩
/-- a slot forgotten -/
theorem SR.forget (s : SR K F H σ ev fp) : ∀ (i : Nat) (o : Option V), ∃ fp', SR K F H (σ.set i o) (ev.set i .un) fp' ∧ fp'.Sublist fp := by
  induction s with
  | tabd r t n h ih =>
    intro i o
    cases i with
    | zero => exact ⟨_, .un h, List.sublist_cons_self _ _⟩
    | succ i => obtain ⟨fp', a, b⟩ := ih i o; exact ⟨_ :: fp', .tabd r t n a, b.cons_cons _⟩
  | nil => intro i o; exact ⟨[], by simpa using SR.nil, List.Sublist.refl _⟩
  | un h ih =>
    intro i o
    cases i with
    | zero => exact ⟨_, .un h, List.Sublist.refl _⟩
    | succ i => obtain ⟨fp', a, b⟩ := ih i o; exact ⟨fp', .un a, b⟩
  | dat r h ih =>
    intro i o
    cases i with
    | zero => exact ⟨_, .un h, List.Sublist.refl _⟩
    | succ i => obtain ⟨fp', a, b⟩ := ih i o; exact ⟨fp', .dat r a, b⟩
  | own r f h ih =>
    intro i o
    cases i with
    | zero => exact ⟨_, .un h, List.sublist_cons_self _ _⟩
    | succ i => obtain ⟨fp', a, b⟩ := ih i o; exact ⟨_ :: fp', .own r f a, b.cons_cons _⟩
/-- data stored in a slot -/
theorem SR.setDat (s : SR K F H σ ev fp) : ∀ (i : Nat) {v : V} {d : D}, Rp K F v d → ∃ fp', SR K F H (σ.set i (some v)) (ev.set i (.dat d)) fp' ∧ fp'.Sublist fp := by
  induction s with
  | tabd q t n h ih =>
    intro i v d r
    cases i with
    | zero => exact ⟨_, .dat r h, List.sublist_cons_self _ _⟩
    | succ i => obtain ⟨fp', a, b⟩ := ih i r; exact ⟨_ :: fp', .tabd q t n a, b.cons_cons _⟩
  | nil => intro i v d r; exact ⟨[], by simpa using SR.nil, List.Sublist.refl _⟩
  | un h ih =>
    intro i v d r
    cases i with
    | zero => exact ⟨_, .dat r h, List.Sublist.refl _⟩
    | succ i => obtain ⟨fp', a, b⟩ := ih i r; exact ⟨fp', .un a, b⟩
  | dat q h ih =>
    intro i v d r
    cases i with
    | zero => exact ⟨_, .dat r h, List.Sublist.refl _⟩
    | succ i => obtain ⟨fp', a, b⟩ := ih i r; exact ⟨fp', .dat q a, b⟩
  | own q f h ih =>
    intro i v d r
    cases i with
    | zero => exact ⟨_, .dat r h, List.sublist_cons_self _ _⟩
    | succ i => obtain ⟨fp', a, b⟩ := ih i r; exact ⟨_ :: fp', .own q f a, b.cons_cons _⟩
/-- an own thing stored in a slot -/
theorem SR.setOwn (s : SR K F H σ ev fp) {a : Addr} {o : O} (ho : OwnAt K F H a o) (hf : F a = none) : ∀ (i : Nat), ∃ fp', SR K F H (σ.set i (some (.ref a))) (ev.set i (.own o)) fp' ∧ (fp.Nodup → a ∉ fp → fp'.Nodup) ∧ ∀ b ∈ fp', b = a ∨ b ∈ fp := by
  induction s with
  | @tabd v' d' a' σ' ev' fp q t nn h ih =>
    intro i
    cases i with
    | zero => exact ⟨_ :: fp, .own ho hf h, fun x y => List.nodup_cons.mpr ⟨fun w => y (List.mem_cons_of_mem _ w), (List.nodup_cons.mp x).2⟩, fun b hb => (List.mem_cons.mp hb).elim .inl fun w => .inr (List.mem_cons_of_mem _ w)⟩
    | succ i =>
      obtain ⟨fp', x, y, z⟩ := ih i
      refine ⟨a' :: fp', .tabd q t nn x, fun n1 n2 => ?_, fun b hb => ?_⟩
      · have n3 := List.nodup_cons.mp n1
        refine List.nodup_cons.mpr ⟨fun w => ?_, y n3.2 fun w => n2 (List.mem_cons_of_mem _ w)⟩
        rcases z _ w with e | e
        · exact n2 (by rw [e]; exact List.mem_cons_self)
        · exact n3.1 e
      · rcases List.mem_cons.mp hb with e | e
        · exact .inr (by rw [e]; exact List.mem_cons_self)
        · exact (z b e).elim .inl fun w => .inr (List.mem_cons_of_mem _ w)
  | nil => intro i; exact ⟨[], by simpa using SR.nil, fun h _ => h, fun b hb => .inr hb⟩
  | @un _ _ _ fp h ih =>
    intro i
    cases i with
    | zero => exact ⟨_ :: fp, .own ho hf h, fun x y => List.nodup_cons.mpr ⟨y, x⟩, fun b hb => List.mem_cons.mp hb⟩
    | succ i => obtain ⟨fp', x, y, z⟩ := ih i; exact ⟨fp', .un x, y, z⟩
  | @dat _ _ _ _ fp q h ih =>
    intro i
    cases i with
    | zero => exact ⟨_ :: fp, .own ho hf h, fun x y => List.nodup_cons.mpr ⟨y, x⟩, fun b hb => List.mem_cons.mp hb⟩
    | succ i => obtain ⟨fp', x, y, z⟩ := ih i; exact ⟨fp', .dat q x, y, z⟩
  | @own a' _ _ _ fp q f h ih =>
    intro i
    cases i with
    | zero => exact ⟨_ :: fp, .own ho hf h, fun x y => List.nodup_cons.mpr ⟨fun w => y (List.mem_cons_of_mem _ w), (List.nodup_cons.mp x).2⟩, fun b hb => (List.mem_cons.mp hb).elim .inl fun w => .inr (List.mem_cons_of_mem _ w)⟩
    | succ i =>
      obtain ⟨fp', x, y, z⟩ := ih i
      refine ⟨a' :: fp', .own q f x, fun n1 n2 => ?_, fun b hb => ?_⟩
      · have n3 := List.nodup_cons.mp n1
        refine List.nodup_cons.mpr ⟨fun w => ?_, y n3.2 fun w => n2 (List.mem_cons_of_mem _ w)⟩
        rcases z _ w with e | e
        · exact n2 (by rw [e]; exact List.mem_cons_self)
        · exact n3.1 e
      · rcases List.mem_cons.mp hb with e | e
        · exact .inr (by rw [e]; exact List.mem_cons_self)
        · exact (z b e).elim .inl fun w => .inr (List.mem_cons_of_mem _ w)
/-- an own thing is changed where it stands -/
theorem SR.write (s : SR K F H σ ev fp) (nd : fp.Nodup) {a : Addr} {u : HO} {o' : O} (ho : OwnAt K F (upd H a u) a o') : ∀ {i : Nat}, σ[i]? = some (some (.ref a)) → (∃ o, ev[i]? = some (.own o)) → SR K F (upd H a u) σ (ev.set i (.own o')) fp := by
  have other : ∀ {σ : St} {ev : List Sl} {fp : List Addr}, SR K F H σ ev fp → a ∉ fp → SR K F (upd H a u) σ ev fp := fun s n => by
    refine s.mono (Grow.refl _) (fun b hb w e => ?_) fun b hb => (s.free b hb).1
    rw [upd_ne (fun z => n (by rw [← z]; exact hb))]; exact e
  induction s with
  | @tabd v' d' a' σ ev fp r t nn h ih =>
    intro i e ⟨o, q⟩
    have nd2 := List.nodup_cons.mp nd
    cases i with
    | zero => simp at q
    | succ i =>
      have e' : σ[i]? = some (some (.ref a)) := by simpa using e
      have q' : ev[i]? = some (.own o) := by simpa using q
      have ne : a' ≠ a := fun z => by
        obtain ⟨a2, e2, _, _, m⟩ := h.getOwn q'
        rw [e'] at e2
        injection e2 with e2; injection e2 with e2; injection e2 with e2
        subst e2
        exact nd2.1 (by rw [z]; exact m)
      exact .tabd r (t.mono (Grow.refl _) fun w z => by rw [upd_ne ne]; exact z) nn (ih nd2.2 e' ⟨o, q'⟩)
  | nil => intro i h; simp at h
  | un h ih =>
    intro i e ⟨o, q⟩
    cases i with
    | zero => simp at q
    | succ i => exact .un (ih nd (by simpa using e) ⟨o, by simpa using q⟩)
  | dat r h ih =>
    intro i e ⟨o, q⟩
    cases i with
    | zero => simp at q
    | succ i => exact .dat r (ih nd (by simpa using e) ⟨o, by simpa using q⟩)
  | @own a' o0 σ ev fp r f h ih =>
    intro i e ⟨o, q⟩
    have nd2 := List.nodup_cons.mp nd
    cases i with
    | zero =>
      simp at e
      subst e
      exact .own ho f (other h nd2.1)
    | succ i =>
      have e' : σ[i]? = some (some (.ref a)) := by simpa using e
      have q' : ev[i]? = some (.own o) := by simpa using q
      have ne : a' ≠ a := fun z => by
        obtain ⟨a2, e2, _, _, m⟩ := h.getOwn q'
        rw [e'] at e2
        injection e2 with e2; injection e2 with e2; injection e2 with e2
        subst e2
        exact nd2.1 (by rw [z]; exact m)
      exact .own (r.mono (Grow.refl _) fun w z => by rw [upd_ne ne]; exact z) f (ih nd2.2 e' ⟨o, q'⟩)
/-- an own thing is frozen where it stands -/
theorem SR.freeze (s : SR K F H σ ev fp) (nd : fp.Nodup) {a : Addr} {u : HO} {o : O} (hu : H a = some u) (ho : Rp K (upd F a u) (.ref a) o.toD) (hf : F a = none) : ∀ {i : Nat}, σ[i]? = some (some (.ref a)) → ev[i]? = some (.own o) →
    ∃ fp', SR K (upd F a u) H σ (ev.set i (.dat o.toD)) fp' ∧ fp'.Sublist fp ∧ a ∉ fp' := by
  have other : ∀ {σ : St} {ev : List Sl} {fp : List Addr}, SR K F H σ ev fp → a ∉ fp → SR K (upd F a u) H σ ev fp := fun s n => by
    refine s.mono (grow_upd hf) (fun b hb w e => e) fun b hb => ?_
    rw [upd_ne (fun z => n (by rw [← z]; exact hb))]; exact (s.free b hb).1
  induction s with
  | @tabd v' d' a' σ ev fp r t nn h ih =>
    intro i e q
    have nd2 := List.nodup_cons.mp nd
    cases i with
    | zero => simp at q
    | succ i =>
      have e' : σ[i]? = some (some (.ref a)) := by simpa using e
      have q' : ev[i]? = some (.own o) := by simpa using q
      have ne : a' ≠ a := fun z => by
        obtain ⟨a2, e2, _, _, m⟩ := h.getOwn q'
        rw [e'] at e2
        injection e2 with e2; injection e2 with e2; injection e2 with e2
        subst e2
        exact nd2.1 (by rw [z]; exact m)
      obtain ⟨fp', x, y, z⟩ := ih nd2.2 e' q'
      refine ⟨a' :: fp', .tabd (r.mono fun _ _ => (grow_upd hf).rd) (t.mono (grow_upd hf) fun _ w => w) (by rw [upd_ne ne]; exact nn) x, y.cons_cons _, fun w => ?_⟩
      rcases List.mem_cons.mp w with k | k
      · exact ne k.symm
      · exact z k
  | nil => intro i h; simp at h
  | un h ih =>
    intro i e q
    cases i with
    | zero => simp at q
    | succ i => obtain ⟨fp', x, y, z⟩ := ih nd (i := i) (by simpa using e) (by simpa using q); exact ⟨fp', .un x, y, z⟩
  | dat r h ih =>
    intro i e q
    cases i with
    | zero => simp at q
    | succ i => obtain ⟨fp', x, y, z⟩ := ih nd (i := i) (by simpa using e) (by simpa using q); exact ⟨fp', .dat (r.mono fun _ _ => (grow_upd hf).rd) x, y, z⟩
  | @own a' o0 σ ev fp r f h ih =>
    intro i e q
    have nd2 := List.nodup_cons.mp nd
    cases i with
    | zero =>
      simp at e q
      subst e q
      exact ⟨fp, .dat ho (other h nd2.1), List.sublist_cons_self _ _, nd2.1⟩
    | succ i =>
      have e' : σ[i]? = some (some (.ref a)) := by simpa using e
      have q' : ev[i]? = some (.own o) := by simpa using q
      have ne : a' ≠ a := fun z => by
        obtain ⟨a2, e2, _, _, m⟩ := h.getOwn q'
        rw [e'] at e2
        injection e2 with e2; injection e2 with e2; injection e2 with e2
        subst e2
        exact nd2.1 (by rw [z]; exact m)
      obtain ⟨fp', x, y, z⟩ := ih nd2.2 e' q'
      refine ⟨a' :: fp', .own (r.mono (grow_upd hf) fun _ w => w) (by rw [upd_ne ne]; exact f) x, y.cons_cons _, fun w => ?_⟩
      rcases List.mem_cons.mp w with k | k
      · exact ne k.symm
      · exact z k
end
end GW

set_option Elab.async false
set_option linter.all false
set_option maxRecDepth 100000
namespace GW
open PySem PySem.Spec L2

/-! ### what an expression gives -/
inductive R where
  | dat (d : D) | tmp (o : O) | bor (i : Nat)
inductive Out (α : Type) where
  | ok (a : α) (ev : List Sl) | exc (k : Nat) | stuck
def Out.bind {α β : Type} (o : Out α) (f : α → List Sl → Out β) : Out β := match o with
  | .ok a ev => f a ev
  | .exc k => .exc k
  | .stuck => .stuck
@[simp] theorem Out.bind_ok {α β : Type} (a : α) (ev : List Sl) (f : α → List Sl → Out β) : (Out.ok a ev).bind f = f a ev := rfl
@[simp] theorem Out.bind_exc {α β : Type} (k : Nat) (f : α → List Sl → Out β) : (Out.exc k : Out α).bind f = .exc k := rfl
@[simp] theorem Out.bind_stuck {α β : Type} (f : α → List Sl → Out β) : (Out.stuck : Out α).bind f = .stuck := rfl
abbrev Ex := List Sl → Out R

inductive RV (K : PySem.W.Frag) (F H : Hp) (σ : L2.St) (ev : List Sl) : V → R → List Addr → Prop
  | dat {v : V} {d : D} : Rp K F v d → RV K F H σ ev v (.dat d) []
  | tmp {a : Addr} {o : O} : OwnAt K F H a o → F a = none → RV K F H σ ev (.ref a) (.tmp o) [a]
  | bor {a : Addr} {i : Nat} {o : O} : σ[i]? = some (some (.ref a)) → ev[i]? = some (.own o) → RV K F H σ ev (.ref a) (.bor i) []

/-- exception classes by number -/
abbrev Cls := Nat → Value
/-- what is shown where an exception goes out from the start H fp -/
def ExcOk (cl : Cls) (E : XK) (H : Hp) (fp : List Addr) (k : Nat) : Prop := ∀ H', (∀ b o, H b = some o → b ∉ fp → H' b = some o) → E (cl k) none H'
theorem ExcOk.shift {cl : Cls} {E : XK} {F0 H0 F H : Hp} {fp0 fp : List Addr} {k : Nat} (x : Evo F0 H0 fp0 F H fp) (m : ExcOk cl E H0 fp0 k) : ExcOk cl E H fp k :=
  fun H' q => m H' fun b o e n => q b o (x.keep b o e n) fun z => (x.fpn b z).elim n fun q => by rw [e] at q; cases q
/-- what must be shown of an outcome, from the start F0 H0 fp0 -/
def MeetE (K : PySem.W.Frag) (cl : Cls) (E : XK) (σ : L2.St) (F0 H0 : Hp) (fp0 : List Addr) (Q : VK) : Out R → Prop
  | .ok r ev => ∀ F H fp v tp, Evo F0 H0 fp0 F H (tp ++ fp) → DS K F H σ ev fp → RV K F H σ ev v r tp → (tp ++ fp).Nodup → Q v H
  | .exc k => ExcOk cl E H0 fp0 k
  | .stuck => False
theorem MeetE.shift {K : PySem.W.Frag} {cl : Cls} {E : XK} {σ : L2.St} {F0 H0 F H : Hp} {fp0 fp : List Addr} {Q : VK} (x : Evo F0 H0 fp0 F H fp) : ∀ {o : Out R}, MeetE K cl E σ F0 H0 fp0 Q o → MeetE K cl E σ F H fp Q o
  | .ok r ev, m => fun F1 H1 fp1 v tp x1 d rv nd => m F1 H1 fp1 v tp (x.trans x1) d rv nd
  | .exc k, m => ExcOk.shift x m
  | .stuck, m => m
/-- e gives f's outcome -/
def DE (X : Cx) (cl : Cls) (E : XK) (e : Expr) (f : Ex) : Prop :=
  ∃ t, PE X e t ∧ ∀ F H σ ev fp Q, DS X.K F H σ ev fp → MeetE X.K cl E σ F H fp Q (f ev) → t σ H Q

/-- a temporary thing is frozen -/
def solidR : R → R
  | .tmp o => .dat o.toD
  | r => r
def solid (f : Ex) : Ex := fun ev => (f ev).bind fun r e1 => .ok (solidR r) e1
/-- the data that an operand shows -/
def lookR (ev : List Sl) : R → Option D
  | .dat d => some d
  | .tmp o => some o.toD
  | .bor i => match ev[i]? with
    | some (.own o) => some o.toD
    | some (.dat d) => some d
    | _ => none
/-- for storing: a borrowed thing is frozen too -/
def stoR (r : R) (e1 : List Sl) : Out D := match r with
  | .dat d => .ok d e1
  | .tmp o => .ok o.toD e1
  | .bor i => match e1[i]? with
    | some (.own o) => .ok o.toD (e1.set i (.dat o.toD))
    | _ => .stuck
def sto (f : Ex) : List Sl → Out D := fun ev => (f ev).bind stoR

/-- a value whose things within are known, the outmost perhaps someone's own -/
def RX (K : PySem.W.Frag) (F H : Hp) (v : V) (d : D) : Prop := Rp K F v d ∨ ∃ a o, v = .ref a ∧ OwnAt K F H a o ∧ d = o.toD

/-- nothing of H changed, F may know more new things -/
structure Ext (F H F' H' : Hp) : Prop where
  keep : ∀ b o, H b = some o → H' b = some o
  grow : Grow F F'
  out : ∀ b o, H b = some o → F b = none → F' b = none
  sub : Sub F' H'
theorem Ext.refl {F H : Hp} (s : Sub F H) : Ext F H F H := ⟨fun _ _ h => h, Grow.refl _, fun _ _ _ h => h, s⟩
theorem Ext.trans {F H F1 H1 F2 H2 : Hp} (x : Ext F H F1 H1) (y : Ext F1 H1 F2 H2) : Ext F H F2 H2 :=
  ⟨fun b o h => y.keep b o (x.keep b o h), x.grow.trans y.grow, fun b o h f => y.out b o (x.keep b o h) (x.out b o h f), y.sub⟩
theorem Ext.evo {F H F' H' : Hp} (x : Ext F H F' H') (fp : List Addr) : Evo F H fp F' H' fp :=
  ⟨fun b o h _ => x.keep b o h, x.grow, fun b o h f _ => x.out b o h f, fun b h => .inl h⟩
theorem Sub.none {F H : Hp} (s : Sub F H) {p : Addr} (n : H p = none) : F p = none := by
  cases e : F p with
  | none => rfl
  | some o =>
    have := s p o (.inl e)
    rcases this with h | ⟨_, h⟩ <;> (rw [n] at h; cases h)
section
variable {K : PySem.W.Frag} {F H F' H' : Hp} {σ : L2.St} {ev : List Sl} {fp : List Addr}
theorem DS.ext (d : DS K F H σ ev fp) (x : Ext F H F' H') : DS K F' H' σ ev fp :=
  ⟨x.sub, d.sr.mono x.grow (fun b _ u h => x.keep b u h) fun b hb => let ⟨f, u, h⟩ := d.sr.free b hb; x.out b u h f, d.nd⟩
theorem RX.mono {v : V} {d : D} (r : RX K F H v d) (g : Grow F F') (k : ∀ b o, H b = some o → H' b = some o) : RX K F' H' v d := by
  rcases r with r | ⟨a, o, e, q, z⟩
  · exact .inl (r.mono fun _ _ => g.rd)
  · exact .inr ⟨a, o, e, q.mono g fun u h => k _ _ h, z⟩
/-- a new thing, known -/
theorem ext_new {p : Addr} {u : HO} (s : Sub F H) (n : H p = none) : Ext F H (upd F p u) (upd H p u) := by
  have nf : F p = none := s.none n
  refine ⟨fun b o h => by rw [upd_ne (ne_of_none h n)]; exact h, grow_upd nf, fun b o h f => by rw [upd_ne (ne_of_none h n)]; exact f, fun b o h => ?_⟩
  by_cases e : b = p
  · subst e
    rcases h with h | ⟨w, h⟩ <;> rw [upd_same] at h <;> cases h
    · exact .inl upd_same
    · exact .inr ⟨_, upd_same⟩
  · have h' : Rd F b o := by
      rcases h with h | ⟨w, h⟩ <;> rw [upd_ne e] at h
      · exact .inl h
      · exact .inr ⟨w, h⟩
    rcases s b o h' with q | ⟨w, q⟩
    · exact .inl (by rw [upd_ne e]; exact q)
    · exact .inr ⟨w, by rw [upd_ne e]; exact q⟩
/-- a new thing, not known (it is someone's own) -/
theorem ext_own {p : Addr} {u : HO} (s : Sub F H) (n : H p = none) : Ext F H F (upd H p u) := by
  have nf : F p = none := s.none n
  refine ⟨fun b o h => by rw [upd_ne (ne_of_none h n)]; exact h, Grow.refl _, fun b o h f => f, fun b o h => ?_⟩
  have e : b ≠ p := fun z => by
    subst z
    rcases h with h | ⟨w, h⟩ <;> rw [nf] at h <;> cases h
  rcases s b o h with q | ⟨w, q⟩
  · exact .inl (by rw [upd_ne e]; exact q)
  · exact .inr ⟨w, by rw [upd_ne e]; exact q⟩
/-- a thing of one's own is known from now on -/
theorem sub_freeze {a : Addr} {u : HO} (s : Sub F H) (h : H a = some u) : Sub (upd F a u) H := fun b o r => by
  by_cases e : b = a
  · subst e
    rcases r with r | ⟨w, r⟩ <;> rw [upd_same] at r <;> cases r
    · exact .inl h
    · exact .inr ⟨_, h⟩
  · refine s b o ?_
    rcases r with r | ⟨w, r⟩ <;> rw [upd_ne e] at r
    · exact .inl r
    · exact .inr ⟨w, r⟩
theorem evo_freeze {F0 H0 : Hp} {fp0 fp1 : List Addr} {a : Addr} {u : HO} (x : Evo F0 H0 fp0 F H fp) (m : a ∈ fp) (f : F a = none) (h : ∀ b ∈ fp1, b ∈ fp) : Evo F0 H0 fp0 (upd F a u) H fp1 := by
  refine ⟨x.keep, x.grow.trans (grow_upd f), fun b o e q n => ?_, fun b hb => x.fpn b (h b hb)⟩
  have ne : b ≠ a := fun z => by
    subst z
    rcases x.fpn b m with w | w
    · exact n w
    · rw [e] at w; cases w
  rw [upd_ne ne]
  exact x.out b o e q n
end

section
variable {X : Cx} {cl : Cls} {E : XK}
/-- a constant -/
def eC (d : D) : Ex := fun ev => .ok (.dat d) ev
theorem de_C {e : Expr} {v : V} {d : D} (p : PE X e (tC v)) (hr : ∀ F, Rp X.K F v d) : DE X cl E e (eC d) :=
  ⟨_, p, fun F H σ ev fp Q d m => m F H fp _ [] (Evo.refl _ _ _) d (.dat (hr F)) d.nd⟩
theorem de_int {i j pos} : DE X cl E (.Constant (.int i) j pos) (eC (.int i)) := de_C pe_int fun _ => .int i
theorem de_bl {b j pos} : DE X cl E (.Constant (.bool b) j pos) (eC (.bl b)) := de_C pe_bl fun _ => .bl b
theorem de_non {j pos} : DE X cl E (.Constant .none j pos) (eC .non) := de_C pe_non fun _ => .non
theorem de_str {x j pos} : DE X cl E (.Constant (.str x) j pos) (eC (.str x)) := de_C pe_str fun _ => .str x
/-- a constant of the module -/
theorem de_glob {x : Str} {v : V} {d : D} {u : Value} {pos : Pos} (hg : Gl X x) (hm : X.mg x = some u) (r : RelV v u) (hr : ∀ F, Rp X.K F v d) (hd : (x == ("__debug__" : Str)) = false := by decide) : DE X cl E (.Name x pos) (eC d) := de_C (pe_glob hg hm r hd) hr
/-- a name of the def -/
def eV (i : Nat) : Ex := fun ev => match ev[i]? with
  | some (.dat d) => .ok (.dat d) ev
  | some (.own _) => .ok (.bor i) ev
  | _ => .stuck
theorem de_var (i : Nat) {x : Str} {pos : Pos} (hN : X.N[i]? = some x := by rfl) (hv : Vis X.env.scope x := by first | exact Or.inl rfl | exact Or.inr (Or.inl rfl) | exact Or.inr (Or.inr rfl)) (hd : (x == ("__debug__" : Str)) = false := by decide)
    (hcd : (x == ("__classdict__" : Str)) = false := by decide) : DE X cl E (.Name x pos) (eV i) := by
  refine ⟨_, pe_var hN hv hd hcd, fun F H σ ev fp Q d m => ?_⟩
  unfold eV at m
  split at m
  · rename_i dd e
    obtain ⟨v, q, r⟩ := d.sr.getDat e
    exact ⟨v, q, m F H fp v [] (Evo.refl _ _ _) d (.dat r) d.nd⟩
  · rename_i o e
    obtain ⟨a, q, r, f, mm⟩ := d.sr.getOwn e
    exact ⟨.ref a, q, m F H fp _ [] (Evo.refl _ _ _) d (.bor q e) d.nd⟩
  · exact m.elim

/-- a reading that means f -/
def Means (X : Cx) (cl : Cls) (E : XK) (t : TE) (f : Ex) : Prop := ∀ F H σ ev fp Q, DS X.K F H σ ev fp → MeetE X.K cl E σ F H fp Q (f ev) → t σ H Q
theorem solid_ok {t : TE} {f : Ex} (h : Means X cl E t f) : Means X cl E t (solid f) := fun F H σ ev fp Q d m => by
  refine h F H σ ev fp Q d ?_
  unfold solid at m
  cases e : f ev with
  | stuck => rw [e] at m; exact m
  | exc k => rw [e] at m; exact m
  | ok r e1 =>
    rw [e] at m
    intro F1 H1 fp1 v tp x1 d1 rv nd
    cases rv with
    | dat r => exact m F1 H1 fp1 v [] x1 d1 (.dat r) nd
    | bor a b => exact m F1 H1 fp1 _ [] x1 d1 (.bor a b) nd
    | tmp o f =>
      obtain ⟨u, hu, rp⟩ := o.freeze f
      have nd2 := List.nodup_cons.mp nd
      refine m _ H1 fp1 _ [] (evo_freeze x1 List.mem_cons_self f fun b hb => List.mem_cons_of_mem _ hb) ⟨sub_freeze d1.sub hu, d1.sr.mono (grow_upd f) (fun b _ u h => h) fun b hb => ?_, d1.nd⟩ (.dat rp) nd2.2
      rw [upd_ne (fun z => nd2.1 (by rw [← z]; exact hb))]
      exact (d1.sr.free b hb).1
theorem de_solid {e : Expr} {f : Ex} (h : DE X cl E e f) : DE X cl E e (solid f) := by
  obtain ⟨t, p, h⟩ := h
  exact ⟨t, p, solid_ok h⟩
/-- what a solid value is -/
theorem solid_rv {K : PySem.W.Frag} {F H : Hp} {σ : L2.St} {ev : List Sl} {v : V} {r : R} {tp : List Addr} (h : RV K F H σ ev v (solidR r) tp) : tp = [] := by
  cases r with
  | dat d => cases h; rfl
  | tmp o => cases h; rfl
  | bor i => cases h; rfl
end

/-! ### operands: solid values in a row -/
/-- operands, one after another: each solid -/
def argsO : List Ex → List Sl → Out (List R)
  | [], ev => .ok [] ev
  | f :: fs, ev => (f ev).bind fun r e1 => (argsO fs e1).bind fun rs e2 => .ok (solidR r :: rs) e2
def lookAll (ev : List Sl) : List R → Option (List D)
  | [] => some []
  | r :: rs => match lookR ev r, lookAll ev rs with
    | some d, some ds => some (d :: ds)
    | _, _ => none
inductive RVs (K : PySem.W.Frag) (F H : Hp) (σ : L2.St) : List V → List R → Prop
  | nil : RVs K F H σ [] []
  | dat {v : V} {d : D} {vs : List V} {rs : List R} : Rp K F v d → RVs K F H σ vs rs → RVs K F H σ (v :: vs) (.dat d :: rs)
  | bor {v : V} {i : Nat} {vs : List V} {rs : List R} : σ[i]? = some (some v) → RVs K F H σ vs rs → RVs K F H σ (v :: vs) (.bor i :: rs)
inductive RXs (K : PySem.W.Frag) (F H : Hp) : List V → List D → Prop
  | nil : RXs K F H [] []
  | cons {v : V} {d : D} {vs : List V} {ds : List D} : RX K F H v d → RXs K F H vs ds → RXs K F H (v :: vs) (d :: ds)
theorem RVs.mono {K : PySem.W.Frag} {F H F' H' : Hp} {σ : L2.St} (g : Grow F F') : ∀ {vs : List V} {rs : List R}, RVs K F H σ vs rs → RVs K F' H' σ vs rs
  | _, _, .nil => .nil
  | _, _, .dat r t => .dat (r.mono fun _ _ => g.rd) (RVs.mono g t)
  | _, _, .bor e t => .bor e (RVs.mono g t)
theorem look_ok {K : PySem.W.Frag} {F H : Hp} {σ : L2.St} {ev : List Sl} {fp : List Addr} (d : DS K F H σ ev fp) {i : Nat} {v : V} {x : D} (e : σ[i]? = some (some v)) (h : lookR ev (.bor i) = some x) : RX K F H v x := by
  simp only [lookR] at h
  split at h
  · rename_i o eo
    injection h with e1; subst e1
    obtain ⟨a, q, w, _, _⟩ := d.sr.getOwn eo
    rw [e] at q; injection q with q; injection q with q
    exact .inr ⟨a, o, q, w, rfl⟩
  · rename_i dd eo
    injection h with e1; subst e1
    obtain ⟨v, q, w⟩ := d.sr.getDat eo
    rw [e] at q; injection q with q; injection q with q
    subst q
    exact .inl w
  · cases h
theorem RVs.look {K : PySem.W.Frag} {F H : Hp} {σ : L2.St} {ev : List Sl} {fp : List Addr} (d : DS K F H σ ev fp) : ∀ {vs : List V} {rs : List R} {ds : List D}, RVs K F H σ vs rs → lookAll ev rs = some ds → RXs K F H vs ds
  | _, _, _, .nil, h => by
    simp only [lookAll, Option.some.injEq] at h; subst h; exact .nil
  | _, _, _, .dat r t, h => by
    simp only [lookAll, lookR] at h
    split at h
    · rename_i a b e1 e2
      injection e1 with e1; subst e1
      injection h with h; subst h
      exact .cons (.inl r) (RVs.look d t e2)
    · cases h
  | _, _, _, .bor (i := i) e t, h => by
    simp only [lookAll] at h
    split at h
    · rename_i a b e1 e2
      injection h with h; subst h
      exact .cons (look_ok d e e1) (RVs.look d t e2)
    · cases h
def MeetA (K : PySem.W.Frag) (cl : Cls) (E : XK) (σ : L2.St) (F0 H0 : Hp) (fp0 : List Addr) (Q : List V → Hp → Prop) : Out (List R) → Prop
  | .ok rs ev => ∀ F H fp vs, Evo F0 H0 fp0 F H fp → DS K F H σ ev fp → RVs K F H σ vs rs → Q vs H
  | .exc k => ExcOk cl E H0 fp0 k
  | .stuck => False
def DA (X : Cx) (cl : Cls) (E : XK) (es : List Expr) (fs : List Ex) : Prop :=
  ∃ t, PA X es t ∧ ∀ F H σ ev fp Q, DS X.K F H σ ev fp → MeetA X.K cl E σ F H fp Q (argsO fs ev) → t σ H Q
section
variable {X : Cx} {cl : Cls} {E : XK}
/-- the step: an operand, then the rest -/
theorem opd_step {t : TE} {f : Ex} (h : Means X cl E t f) {F H : Hp} {σ : L2.St} {ev : List Sl} {fp : List Addr} {Q : VK} (d : DS X.K F H σ ev fp) 
    (ok : ∀ r e1, f ev = .ok r e1 → ∀ F1 H1 fp1 v, Evo F H fp F1 H1 fp1 → DS X.K F1 H1 σ e1 fp1 → (∀ F2 H2 vs rs, Grow F1 F2 → RVs X.K F2 H2 σ vs rs → RVs X.K F2 H2 σ (v :: vs) (solidR r :: rs)) → Q v H1)
    (ex : ∀ k, f ev = .exc k → ExcOk cl E H fp k) (st : f ev ≠ .stuck) : t σ H Q := by
  refine solid_ok h F H σ ev fp Q d ?_
  unfold solid
  cases e : f ev with
  | stuck => exact absurd e st
  | exc k => exact ex k e
  | ok r e1 =>
    intro F1 H1 fp1 v tp x1 d1 rv nd
    have htp := solid_rv rv
    subst htp
    refine ok r e1 e F1 H1 fp1 v x1 d1 fun F2 H2 vs rs g q => ?_
    generalize solidR r = r' at rv
    cases rv with
    | dat r => exact .dat (r.mono fun _ _ => g.rd) q
    | bor a b => exact .bor a q
theorem da_nil : DA X cl E [] [] := ⟨_, pa_nil, fun F H σ ev fp Q d m => m F H fp [] (Evo.refl _ _ _) d .nil⟩
theorem MeetA.shift {K : PySem.W.Frag} {cl : Cls} {E : XK} {σ : L2.St} {F0 H0 F H : Hp} {fp0 fp : List Addr} {Q : List V → Hp → Prop} (x : Evo F0 H0 fp0 F H fp) : ∀ {o : Out (List R)}, MeetA K cl E σ F0 H0 fp0 Q o → MeetA K cl E σ F H fp Q o
  | .ok r ev, m => fun F1 H1 fp1 v x1 d rv => m F1 H1 fp1 v (x.trans x1) d rv
  | .exc k, m => ExcOk.shift x m
  | .stuck, m => m
theorem da_cons {e : Expr} {es : List Expr} {f : Ex} {fs : List Ex} (h : DE X cl E e f) (hs : DA X cl E es fs) (hst : starEach (e :: es) X.env = (false, eval e X.env) :: starEach es X.env := by rfl) : DA X cl E (e :: es) (f :: fs) := by
  obtain ⟨t, p, h⟩ := h
  obtain ⟨ts, ps, hs⟩ := hs
  refine ⟨_, pa_cons p ps hst, fun F H σ ev fp Q d m => ?_⟩
  unfold argsO at m
  refine opd_step (cl := cl) (E := E) h d (fun r e1 e F1 H1 fp1 v x1 d1 mk => ?_) (fun k e => ?_) (fun e => ?_)
  · rw [e] at m
    simp only [Out.bind_ok] at m
    refine hs F1 H1 σ e1 fp1 _ d1 ?_
    cases e2 : argsO fs e1 with
    | stuck => rw [e2] at m; exact m
    | exc k => rw [e2] at m; exact ExcOk.shift x1 m
    | ok rs ev2 =>
      rw [e2] at m
      intro F2 H2 fp2 vs x2 d2 rvs
      exact m F2 H2 fp2 (v :: vs) (x1.trans x2) d2 (mk F2 H2 vs rs x2.grow rvs)
  · rw [e] at m; exact m
  · rw [e] at m; exact m
end

/-! ### operators by values -/
/-- what an operation gives: data, or a new list or dict -/
def GiveOk (X : Cx) (F H : Hp) (Q : VK) : R → Prop
  | .dat d => ∀ F' H' v, Ext F H F' H' → Rp X.K F' v d → Q v H'
  | .tmp o => ∀ F' H' a, Ext F H F' H' → H a = none → OwnAt X.K F' H' a o → F' a = none → Q (.ref a) H'
  | .bor _ => False
theorem GiveOk.meet {X : Cx} {cl : Cls} {E : XK} {F0 H0 F H : Hp} {fp0 fp : List Addr} {σ : L2.St} {ev : List Sl} {Q : VK} {r : R} (x : Evo F0 H0 fp0 F H fp) (d : DS X.K F H σ ev fp) (nb : ∀ i, r ≠ .bor i) (m : MeetE X.K cl E σ F0 H0 fp0 Q (.ok r ev)) : GiveOk X F H Q r := by
  cases r with
  | dat dd => exact fun F' H' v y rp => m F' H' fp v [] (x.trans (y.evo fp)) (d.ext y) (.dat rp) d.nd
  | tmp o =>
    intro F' H' a y n w f
    have na : a ∉ fp := fun z => by
      obtain ⟨_, u, hu⟩ := d.sr.free a z
      rw [n] at hu; cases hu
    refine m F' H' fp _ [a] ⟨fun b o' e z => y.keep b o' (x.keep b o' e z), x.grow.trans y.grow, fun b o' e f' z => y.out b o' (x.keep b o' e z) (x.out b o' e f' z), fun b hb => ?_⟩ (d.ext y) (.tmp w f) (List.nodup_cons.mpr ⟨na, d.nd⟩)
    rcases List.mem_cons.mp hb with q | q
    · subst q
      by_cases hb : b ∈ fp0
      · exact .inl hb
      · cases e : H0 b with
        | none => exact .inr rfl
        | some o' => rw [x.keep b o' e hb] at n; cases n
    · exact x.fpn b q
  | bor i => exact absurd rfl (nb i)
/-- the outcome of an operation on looked-up operands -/
def opOut (g : Option R) (ev : List Sl) : Out R := match g with
  | some (.dat d) => .ok (.dat d) ev
  | some (.tmp o) => .ok (.tmp o) ev
  | _ => .stuck
def Op2 (X : Cx) (r : R2) (g : D → D → Option R) : Prop := ∀ F H x y dx dy Q out, Sub F H → RX X.K F H x dx → RX X.K F H y dy → g dx dy = some out → GiveOk X F H Q out → r x y H Q
def eBin (g : D → D → Option R) (a b : Ex) : Ex := fun ev => (a ev).bind fun ra e1 => (b e1).bind fun rb e2 =>
  match lookR e2 (solidR ra), lookR e2 (solidR rb) with
  | some x, some y => opOut (g x y) e2
  | _, _ => .stuck
section
variable {X : Cx} {cl : Cls} {E : XK}
theorem bin_ok {ta tb : TE} {fa fb : Ex} {r : R2} {g : D → D → Option R} (ha : Means X cl E ta fa) (hb : Means X cl E tb fb) (ho : Op2 X r g) : Means X cl E (tOp r ta tb) (eBin g fa fb) := fun F H σ ev fp Q d m => by
  unfold eBin at m
  refine opd_step (cl := cl) (E := E) ha d (fun ra e1 e F1 H1 fp1 x x1 d1 mk1 => ?_) (fun k e => ?_) (fun e => ?_)
  · rw [e] at m
    simp only [Out.bind_ok] at m
    refine opd_step (cl := cl) (E := E) hb d1 (fun rb e2 e' F2 H2 fp2 y x2 d2 mk2 => ?_) (fun k e' => ?_) (fun e' => ?_)
    · rw [e'] at m
      simp only [Out.bind_ok] at m
      have q := mk1 F2 H2 _ _ x2.grow (mk2 F2 H2 _ _ (Grow.refl _) .nil)
      split at m
      · rename_i dx dy l1 l2
        have lk := q.look d2 (by unfold lookAll; rw [l1]; unfold lookAll; rw [l2]; unfold lookAll; rfl)
        cases lk with
        | cons rx lk =>
        cases lk with
        | cons ry lk =>
        unfold opOut at m
        split at m
        · rename_i dd eg
          exact ho F2 H2 x y dx dy Q _ d2.sub rx ry eg (GiveOk.meet (x1.trans x2) d2 (fun i z => nomatch z) m)
        · rename_i o eg
          exact ho F2 H2 x y dx dy Q _ d2.sub rx ry eg (GiveOk.meet (x1.trans x2) d2 (fun i z => nomatch z) m)
        · exact m.elim
      · exact m.elim
    · rw [e'] at m; exact ExcOk.shift x1 m
    · rw [e'] at m; exact m
  · rw [e] at m; exact m
  · rw [e] at m; exact m
theorem de_op {a b : Expr} {fa fb : Ex} {op : Operator} {pos : Pos} {r : R2} {g : D → D → Option R} (hr : OpR X (binaryOp op) r) (ho : Op2 X r g) (ha : DE X cl E a fa) (hb : DE X cl E b fb) : DE X cl E (.BinOp a op b pos) (eBin g fa fb) := by
  obtain ⟨ta, pa, ha⟩ := ha
  obtain ⟨tb, pb, hb⟩ := hb
  exact ⟨_, pe_op hr pa pb, bin_ok ha hb ho⟩
theorem de_cmp {a b : Expr} {fa fb : Ex} {op : CmpOp} {pos : Pos} {r : R2} {g : D → D → Option R} (hr : OpR X (compareOp op) r) (ho : Op2 X r g) (ha : DE X cl E a fa) (hb : DE X cl E b fb) (hm : behindInMarks op b = false) : DE X cl E (.Compare a [op] [b] pos) (eBin g fa fb) := by
  obtain ⟨ta, pa, ha⟩ := ha
  obtain ⟨tb, pb, hb⟩ := hb
  exact ⟨_, pe_cmpR hr pa pb hm, bin_ok ha hb ho⟩
theorem de_ix {a b : Expr} {fa fb : Ex} {pos : Pos} {r : R2} {g : D → D → Option R} (hr : IxR X r) (ho : Op2 X r g) (ha : DE X cl E a fa) (hb : DE X cl E b fb) (hs : PlainIx b) : DE X cl E (.Subscript a b pos) (eBin g fa fb) := by
  obtain ⟨ta, pa, ha⟩ := ha
  obtain ⟨tb, pb, hb⟩ := hb
  exact ⟨_, pe_ix hr pa pb hs, bin_ok ha hb ho⟩

/-! ### unary operations -/
def Op1 (X : Cx) (r : V → Hp → VK → Prop) (g : D → Option R) : Prop := ∀ F H x dx Q out, Sub F H → RX X.K F H x dx → g dx = some out → GiveOk X F H Q out → r x H Q
def eUn (g : D → Option R) (a : Ex) : Ex := fun ev => (a ev).bind fun ra e1 =>
  match lookR e1 (solidR ra) with
  | some x => opOut (g x) e1
  | _ => .stuck
theorem un_ok {ta : TE} {fa : Ex} {r : V → Hp → VK → Prop} {g : D → Option R} (ha : Means X cl E ta fa) (ho : Op1 X r g) : Means X cl E (tUn r ta) (eUn g fa) := fun F H σ ev fp Q d m => by
  unfold eUn at m
  refine opd_step (cl := cl) (E := E) ha d (fun ra e1 e F1 H1 fp1 x x1 d1 mk1 => ?_) (fun k e => ?_) (fun e => ?_)
  · rw [e] at m
    simp only [Out.bind_ok] at m
    have q := mk1 F1 H1 _ _ (Grow.refl _) .nil
    split at m
    · rename_i dx l1
      have lk := q.look d1 (by unfold lookAll; rw [l1]; unfold lookAll; rfl)
      cases lk with
      | cons rx lk =>
      unfold opOut at m
      split at m
      · rename_i dd eg
        exact ho F1 H1 x dx Q _ d1.sub rx eg (GiveOk.meet x1 d1 (fun i z => nomatch z) m)
      · rename_i o eg
        exact ho F1 H1 x dx Q _ d1.sub rx eg (GiveOk.meet x1 d1 (fun i z => nomatch z) m)
      · exact m.elim
    · exact m.elim
  · rw [e] at m; exact m
  · rw [e] at m; exact m
theorem de_un {a : Expr} {fa : Ex} {op : UnaryOp} {pos : Pos} {r : V → Hp → VK → Prop} {g : D → Option R} (hr : UnR X (unaryOp op) r) (ho : Op1 X r g) (ha : DE X cl E a fa) : DE X cl E (.UnaryOp op a pos) (eUn g fa) := by
  obtain ⟨ta, pa, ha⟩ := ha
  exact ⟨_, pe_un hr pa, un_ok ha ho⟩

/-! ### calls of built-ins -/
def OpN (X : Cx) (r : List V → Hp → VK → Prop) (g : List D → Option R) : Prop := ∀ F H xs dxs Q out, Sub F H → RXs X.K F H xs dxs → g dxs = some out → GiveOk X F H Q out → r xs H Q
def eB (g : List D → Option R) (fs : List Ex) : Ex := fun ev => (argsO fs ev).bind fun rs e1 =>
  match lookAll e1 rs with
  | some xs => opOut (g xs) e1
  | _ => .stuck
theorem args_ok {ta : TA} {fs : List Ex} {r : List V → Hp → VK → Prop} {g : List D → Option R} (ha : ∀ F H σ ev fp Q, DS X.K F H σ ev fp → MeetA X.K cl E σ F H fp Q (argsO fs ev) → ta σ H Q) (ho : OpN X r g) : Means X cl E (tCB r ta) (eB g fs) := fun F H σ ev fp Q d m => by
  unfold eB at m
  refine ha F H σ ev fp _ d ?_
  cases e : argsO fs ev with
  | stuck => rw [e] at m; exact m
  | exc k => rw [e] at m; exact m
  | ok rs e1 =>
    rw [e] at m
    simp only [Out.bind_ok] at m
    intro F1 H1 fp1 vs x1 d1 q
    split at m
    · rename_i xs l1
      have lk := q.look d1 l1
      unfold opOut at m
      split at m
      · rename_i dd eg
        exact ho F1 H1 vs xs Q _ d1.sub lk eg (GiveOk.meet x1 d1 (fun i z => nomatch z) m)
      · rename_i o eg
        exact ho F1 H1 vs xs Q _ d1.sub lk eg (GiveOk.meet x1 d1 (fun i z => nomatch z) m)
      · exact m.elim
    · exact m.elim
theorem de_callB {x : Str} {p pos : Pos} {e : Expr} {es : List Expr} {fs : List Ex} {id : String} {r : List V → Hp → VK → Prop} {g : List D → Option R} (hc : CallR X (.builtin id) r) (ho : OpN X r g) (hg : Gl X x) (hm : X.mg x = none) (hv : bootBuiltins x = some (.builtin id)) (ha : DA X cl E (e :: es) fs)
    (hn : x ≠ "__name__" := by decide) (hdb : (x == ("__debug__" : Str)) = false := by decide) (he : starEach (e :: es) X.env = (false, eval e X.env) :: starEach es X.env := by rfl) (hpl : (backTo pos (starEach es X.env)).any (·.1) = false := by rfl) : DE X cl E (.Call (.Name x p) (e :: es) [] pos) (eB g fs) := by
  obtain ⟨t, pa, ha⟩ := ha
  exact ⟨_, pe_callB hc hg hm hv pa hn hdb he hpl, args_ok ha ho⟩
theorem de_callTy {x : Str} {p pos : Pos} {e : Expr} {es : List Expr} {fs : List Ex} {T : String} {r : List V → Hp → VK → Prop} {g : List D → Option R} (hc : CallR X (.type T) r) (ho : OpN X r g) (hg : Gl X x) (hm : X.mg x = none) (hv : bootBuiltins x = some (.type T)) (ha : DA X cl E (e :: es) fs)
    (hn : x ≠ "__name__" := by decide) (hdb : (x == ("__debug__" : Str)) = false := by decide) (he : starEach (e :: es) X.env = (false, eval e X.env) :: starEach es X.env := by rfl) (hpl : (backTo pos (starEach es X.env)).any (·.1) = false := by rfl) : DE X cl E (.Call (.Name x p) (e :: es) [] pos) (eB g fs) := by
  obtain ⟨t, pa, ha⟩ := ha
  exact ⟨_, pe_callTy hc hg hm hv pa hn hdb he hpl, args_ok ha ho⟩
end
end GW

set_option Elab.async false
set_option linter.all false
set_option maxRecDepth 100000
namespace GW
open PySem PySem.Spec L2

/-- the sizes that are let through -/
abbrev lim : Nat := 1000000
theorem lim_lt {n : Nat} (h : n ≤ lim) : n < sizeLine := by rw [sizeLine_eq]; show n < _; unfold lim at h; omega
theorem lim_le {n : Nat} (h : n ≤ lim) : n ≤ sizeLine := Nat.le_of_lt (lim_lt h)

section
variable {K : PySem.W.Frag} {F H : Hp} {v : V}
theorem RX.int {i : Int} (h : RX K F H v (.int i)) : v = .int i := by
  rcases h with h | ⟨a, o, _, _, e⟩
  · cases h; rfl
  · cases o <;> cases e
theorem RX.bl {i : Bool} (h : RX K F H v (.bl i)) : v = .bl i := by
  rcases h with h | ⟨a, o, _, _, e⟩
  · cases h; rfl
  · cases o <;> cases e
theorem RX.non (h : RX K F H v .non) : v = .non := by
  rcases h with h | ⟨a, o, _, _, e⟩
  · cases h; rfl
  · cases o <;> cases e
theorem RX.str {i : Str} (h : RX K F H v (.str i)) : v = .str i := by
  rcases h with h | ⟨a, o, _, _, e⟩
  · cases h; rfl
  · cases o <;> cases e
theorem RX.ty {i : Ty} (h : RX K F H v (.ty i)) : v = .ty i.name := by
  rcases h with h | ⟨a, o, _, _, e⟩
  · cases h; rfl
  · cases o <;> cases e
theorem RX.fn {i : Addr} (h : RX K F H v (.fn i)) : v = .ref i := by
  rcases h with h | ⟨a, o, _, _, e⟩
  · cases h; rfl
  · cases o <;> cases e
theorem RX.tup {xs : List D} (s : Sub F H) (h : RX K F H v (.tup xs)) : ∃ a vs, v = .ref a ∧ SqT K H a vs ∧ RpL K F vs xs ∧ Rp K F v (.tup xs) := by
  rcases h with h | ⟨a, o, _, _, e⟩
  · have h' := h
    cases h with
    | tup q r => exact ⟨_, _, rfl, Sub.seqT s q, r, h'⟩
  · cases o <;> cases e
theorem RX.lst {xs : List D} (s : Sub F H) (h : RX K F H v (.lst xs)) : ∃ a vs, v = .ref a ∧ SqL K H a vs ∧ RpL K F vs xs := by
  rcases h with h | ⟨a, o, e, q, z⟩
  · cases h with
    | lst q r => exact ⟨_, _, rfl, Sub.seqL s q, r⟩
  · cases o with
    | lst xs =>
      cases z
      obtain ⟨vs, w, r⟩ := q
      exact ⟨a, vs, e, .inl (.inl w), r⟩
    | dK _ => cases z
    | dT _ => cases z
end

/-! ### giving -/
section
variable {X : Cx} {F H : Hp} {Q : VK}
theorem give_val {v : V} {d : D} (h : GiveOk X F H Q (.dat d)) (s : Sub F H) (r : Rp X.K F v d) : Q v H := h F H v (Ext.refl s) r
theorem give_tup {xs : List D} {vs : List V} (h : GiveOk X F H Q (.dat (.tup xs))) (s : Sub F H) (r : RpL X.K F vs xs) : ∀ p, H p = none → Q (.ref p) (upd H p (.tup vs)) := fun p n =>
  h _ _ _ (ext_new s n) (.tup (.inl (.inl upd_same)) (r.mono fun _ _ => (grow_upd (s.none n)).rd))
theorem give_lst {xs : List D} {vs : List V} (h : GiveOk X F H Q (.tmp (.lst xs))) (s : Sub F H) (r : RpL X.K F vs xs) : ∀ p, H p = none → Q (.ref p) (upd H p (.lst vs)) := fun p n =>
  h _ _ _ (ext_own s n) n ⟨vs, upd_same, r⟩ (s.none n)
end

/-! ### + -/
def rCatL (K : PySem.W.Frag) : R2 := fun x y H Q => ∃ l b xs zs, x = .ref l ∧ y = .ref b ∧ SqL K H l xs ∧ SqL K H b zs ∧ xs.length + zs.length ≤ sizeLine ∧ ∀ p, H p = none → Q (.ref p) (upd H p (.lst (xs ++ zs)))
theorem PlainL.obj {h : Heap} {a : Addr} {its : Array Value} (p : PlainL h a its) : ∃ n sl, h.get? a = some { cls := .type "list", dict := none, data := .seq its n, slots := sl } := by
  obtain ⟨⟨c, dd, dt, sl⟩, n, e, h1, h2, h3⟩ := p
  simp only at h1 h2 h3
  subst h1 h2 h3
  exact ⟨n, sl, e⟩
section
variable {X : Cx}
theorem op_catL : OpR X (binaryOp .Add) (rCatL X.K) := by
  intro pins s σ H x y v u Q I rx ry h
  obtain ⟨l, b, xs, zs, rfl, rfl, hH, hB, hz, q⟩ := h
  cases rx
  cases ry
  obtain ⟨its, r, p, z⟩ := I.list hH
  obtain ⟨its2, r2, p2, z2⟩ := I.list hB
  obtain ⟨n, sl, e⟩ := PlainL.obj p
  obtain ⟨n2, sl2, e2⟩ := PlainL.obj p2
  have l1 := r.length
  have l2 := r2.length
  have ea : its.toArray ++ its2.toArray = (its ++ its2).toArray := by simp
  refine concat_meets ⟨_, e, rfl⟩ ⟨_, e2, rfl⟩ PySem.noFill_list_add PySem.seq_list_add PySem.F.slot_list_add PySem.F.entry_list_add (PySem.F.args_list_add_2 _ _) (PyProof.Rows.list_addW l b its.toArray its2.toArray n n2 none none sl sl2 (by rw [List.size_toArray, List.size_toArray]; omega)) ⟨e, e2, ?_⟩
  rw [ea]
  exact ⟨.ref _, _, I.lnew (t' := s.toks) (r.append r2) (by rw [List.length_append]; omega), rfl, q _ I.fresh⟩
def rAddD (K : PySem.W.Frag) : R2 := fun x y H Q => rI0 (fun i j => .int (i + j)) x y H Q ∨ rCatA K x y H Q ∨ rCatL K x y H Q
theorem op_addD : OpR X (binaryOp .Add) (rAddD X.K) := op_add.or (op_catA.or op_catL)
end
def dAdd : D → D → Option R
  | .int i, .int j => some (.dat (.int (i + j)))
  | .tup xs, .tup ys => if xs.length + ys.length ≤ lim then some (.dat (.tup (xs ++ ys))) else none
  | .lst xs, .lst ys => if xs.length + ys.length ≤ lim then some (.tmp (.lst (xs ++ ys))) else none
  | _, _ => none
theorem add_D {X : Cx} : Op2 X (rAddD X.K) dAdd := by
  intro F H x y dx dy Q out s rx ry e g
  unfold dAdd at e
  split at e
  · injection e with e; subst e
    have hx := rx.int
    have hy := ry.int
    subst hx hy
    exact .inl ⟨_, _, rfl, rfl, give_val g s (.int _)⟩
  · split at e
    · rename_i xs ys hl
      injection e with e; subst e
      obtain ⟨a, vs, rfl, h1, r1, p1⟩ := rx.tup s
      obtain ⟨b, ws, rfl, h2, r2, p2⟩ := ry.tup s
      have l1 := r1.length
      have l2 := r2.length
      refine .inr (.inl ⟨a, b, vs, ws, rfl, rfl, h1, h2, lim_le (by omega), fun z => ?_, fun z1 z2 => ?_, fun z1 z2 p n => ?_⟩)
      · subst z
        cases r1
        exact give_val g s p2
      · subst z2
        cases r2
        rw [List.append_nil] at g
        exact give_val g s p1
      · exact give_tup g s (r1.append r2) p n
    · cases e
  · split at e
    · rename_i xs ys hl
      injection e with e; subst e
      obtain ⟨a, vs, rfl, h1, r1⟩ := rx.lst s
      obtain ⟨b, ws, rfl, h2, r2⟩ := ry.lst s
      have l1 := r1.length
      have l2 := r2.length
      exact .inr (.inr ⟨a, b, vs, ws, rfl, rfl, h1, h2, lim_le (by omega), give_lst g s (r1.append r2)⟩)
    · cases e
  · cases e

/-! ### -, *, //, %, ** of ints -/
def dI (g : Int → Int → Option Int) : D → D → Option R
  | .int i, .int j => match g i j with
    | some k => some (.dat (.int k))
    | none => none
  | _, _ => none
theorem int_D {X : Cx} {C : Int → Int → Prop} {f : Int → Int → Int} {g : Int → Int → Option Int} (h : ∀ i j k, g i j = some k → C i j ∧ k = f i j) : Op2 X (rI C fun i j => .int (f i j)) (dI g) := by
  intro F H x y dx dy Q out s rx ry e gv
  unfold dI at e
  split at e
  · rename_i i j
    split at e
    · rename_i k ek
      injection e with e; subst e
      have hx := rx.int
      have hy := ry.int
      subst hx hy
      obtain ⟨c, rfl⟩ := h _ _ _ ek
      exact ⟨_, _, rfl, rfl, c, give_val gv s (.int _)⟩
    · cases e
  · cases e
def iSub (i j : Int) : Option Int := some (i - j)
def iMul (i j : Int) : Option Int := if (-18446744073709551616 < i ∧ i < 18446744073709551616) ∨ (-18446744073709551616 < j ∧ j < 18446744073709551616) then some (i * j) else none
def iDiv (i j : Int) : Option Int := if 0 < j ∧ j < 18446744073709551616 then some (i / j) else none
def iMod (i j : Int) : Option Int := if 0 < j then some (i % j) else none
def iPow (i j : Int) : Option Int := if 0 ≤ j ∧ j ≤ 1000000 ∧ -1000 < i ∧ i < 1000 then some (i ^ j.toNat) else none
section
variable {X : Cx}
theorem sub_D : Op2 X (rI (fun _ _ => True) fun i j => .int (i - j)) (dI iSub) := int_D fun i j k h => ⟨trivial, by unfold iSub at h; injection h with h; exact h.symm⟩
theorem op_subT : OpR X (binaryOp .Sub) (rI (fun _ _ => True) fun i j => .int (i - j)) := opI fun _ _ _ _ _ _ _ _ q => PyProof.Rows.sub_int q
theorem mul_D : Op2 X (rI CMul fun i j => .int (i * j)) (dI iMul) := int_D fun i j k h => by
  unfold iMul at h
  split at h
  · rename_i c
    injection h with h
    exact ⟨c, h.symm⟩
  · cases h
theorem div_D : Op2 X (rI CDivW fun i j => .int (i / j)) (dI iDiv) := int_D fun i j k h => by
  unfold iDiv at h
  split at h
  · rename_i c
    injection h with h
    refine ⟨wide_div c.1 (b := 64) ?_ (by decide) (by decide), h.symm⟩
    have h2 := c.2
    have h1 := c.1
    show j.natAbs < 18446744073709551616
    omega
  · cases h
theorem mod_D : Op2 X (rI (fun _ j => 0 < j) fun i j => .int (i % j)) (dI iMod) := int_D fun i j k h => by
  unfold iMod at h
  split at h
  · rename_i c
    injection h with h
    exact ⟨c, h.symm⟩
  · cases h
theorem pow_D : Op2 X (rI CPow fun i j => .int (i ^ j.toNat)) (dI iPow) := int_D fun i j k h => by
  unfold iPow at h
  split at h
  · rename_i c
    injection h with h
    refine ⟨⟨c.1, c.2.1, ?_⟩, h.symm⟩
    have h1 := c.2.2.1
    have h2 := c.2.2.2
    show i.natAbs < 18446744073709551616
    omega
  · cases h
end

/-! ### comparisons of ints -/
def dB (g : Int → Int → Bool) : D → D → Option R
  | .int i, .int j => some (.dat (.bl (g i j)))
  | _, _ => none
theorem bool_D {X : Cx} {g : Int → Int → Bool} : Op2 X (rI0 fun i j => .bl (g i j)) (dB g) := by
  intro F H x y dx dy Q out s rx ry e gv
  unfold dB at e
  split at e
  · injection e with e; subst e
    have hx := rx.int
    have hy := ry.int
    subst hx hy
    exact ⟨_, _, rfl, rfl, give_val gv s (.bl _)⟩
  · cases e
abbrev dLt := dB fun i j => decide (i < j)
abbrev dLe := dB fun i j => decide (i ≤ j)
abbrev dGt := dB fun i j => decide (j < i)
abbrev dGe := dB fun i j => decide (j ≤ i)

/-! ### == of data -/
mutual
def toPy : D → PyData
  | .non => .none
  | .bl b => .bool b
  | .int i => .int i
  | .str s => .str s
  | .tup xs => .tuple (toPys xs)
  | .lst xs => .list (toPys xs)
  | _ => .dict []
def toPys : List D → List PyData
  | [] => []
  | x :: xs => toPy x :: toPys xs
end
/-- no dict within, at most n deep -/
def okD : Nat → D → Bool
  | _, .non => true
  | _, .bl _ => true
  | _, .int _ => true
  | _, .str _ => true
  | n + 1, .tup xs => xs.all (okD n)
  | n + 1, .lst xs => xs.all (okD n)
  | _, _ => false
mutual
def eqD : D → D → Bool
  | .non, .non => true
  | .bl a, .bl b => a == b
  | .bl a, .int j => (if a then 1 else 0) == j
  | .int i, .bl b => i == (if b then 1 else 0)
  | .int i, .int j => i == j
  | .str x, .str y => x == y
  | .lst xs, .lst ys => eqDs xs ys
  | .tup xs, .tup ys => eqDs xs ys
  | _, _ => false
def eqDs : List D → List D → Bool
  | [], [] => true
  | x :: xs, y :: ys => eqD x y && eqDs xs ys
  | _, _ => false
end
mutual
theorem eqD_py : ∀ (n m : Nat) (a b : D), okD n a = true → okD m b = true → PyData.eqv (toPy a) (toPy b) = eqD a b
  | n, m, a, b, ha, hb => by
    cases a with
    | non => cases b <;> first | rfl | (simp only [toPy, PyData.eqv, eqD]) | (simp [okD] at hb)
    | bl x => cases b <;> first | rfl | (simp only [toPy, PyData.eqv, eqD]) | (simp [okD] at hb)
    | int x => cases b <;> first | rfl | (simp only [toPy, PyData.eqv, eqD]) | (simp [okD] at hb)
    | str x => cases b <;> first | rfl | (simp only [toPy, PyData.eqv, eqD]) | (simp [okD] at hb)
    | lst xs =>
      cases b with
      | lst ys =>
        cases n with
        | zero => simp [okD] at ha
        | succ n =>
        cases m with
        | zero => simp [okD] at hb
        | succ m =>
        simp only [toPy, PyData.eqv, eqD]
        exact eqDs_py n m xs ys (by simpa [okD] using ha) (by simpa [okD] using hb)
      | _ => first | rfl | (simp only [toPy, PyData.eqv, eqD]) | (simp [okD] at hb)
    | tup xs =>
      cases b with
      | tup ys =>
        cases n with
        | zero => simp [okD] at ha
        | succ n =>
        cases m with
        | zero => simp [okD] at hb
        | succ m =>
        simp only [toPy, PyData.eqv, eqD]
        exact eqDs_py n m xs ys (by simpa [okD] using ha) (by simpa [okD] using hb)
      | _ => first | rfl | (simp only [toPy, PyData.eqv, eqD]) | (simp [okD] at hb)
    | dK x => simp [okD] at ha
    | dT x => simp [okD] at ha
    | fn x => simp [okD] at ha
    | ty x => simp [okD] at ha
  termination_by _ _ a _ _ _ => sizeOf a
theorem eqDs_py : ∀ (n m : Nat) (a b : List D), (∀ x ∈ a, okD n x = true) → (∀ x ∈ b, okD m x = true) → PyData.eqvAll (toPys a) (toPys b) = eqDs a b
  | n, m, [], [], _, _ => by simp only [toPys, PyData.eqvAll, eqDs]
  | n, m, [], _ :: _, _, _ => by simp only [toPys, PyData.eqvAll, eqDs]
  | n, m, _ :: _, [], _, _ => by simp only [toPys, PyData.eqvAll, eqDs]
  | n, m, x :: xs, y :: ys, ha, hb => by
    simp only [toPys, PyData.eqvAll, eqDs]
    rw [eqD_py n m x y (ha _ List.mem_cons_self) (hb _ List.mem_cons_self), eqDs_py n m xs ys (fun z h => ha z (List.mem_cons_of_mem _ h)) fun z h => hb z (List.mem_cons_of_mem _ h)]
  termination_by _ _ a _ _ _ => sizeOf a
end
mutual
theorem Rp.dp {K : PySem.W.Frag} {F H : Hp} (s : Sub F H) : ∀ (n : Nat) (d : D) (v : V), Rp K F v d → okD n d = true → Dp K H v (toPy d)
  | n, .non, _, h, _ => by cases h; simp only [toPy]; exact .non
  | n, .bl b, _, h, _ => by cases h; simp only [toPy]; exact .bl b
  | n, .int b, _, h, _ => by cases h; simp only [toPy]; exact .int b
  | n, .str b, _, h, _ => by cases h; simp only [toPy]; exact .str b
  | n + 1, .tup xs, _, h, o => by
    cases h with
    | tup q r => simp only [toPy]; exact .tup (Sub.seqT s q) (RpL.dp s n xs _ r (by simpa [okD] using o))
  | n + 1, .lst xs, _, h, o => by
    cases h with
    | lst q r => simp only [toPy]; exact .lst (Sub.seqL s q) (RpL.dp s n xs _ r (by simpa [okD] using o))
  | 0, .tup xs, _, h, o => by simp [okD] at o
  | 0, .lst xs, _, h, o => by simp [okD] at o
  | n, .dK _, _, _, o => by simp [okD] at o
  | n, .dT _, _, _, o => by simp [okD] at o
  | n, .fn _, _, _, o => by simp [okD] at o
  | n, .ty _, _, _, o => by simp [okD] at o
  termination_by _ d _ _ _ => sizeOf d
theorem RpL.dp {K : PySem.W.Frag} {F H : Hp} (s : Sub F H) : ∀ (n : Nat) (d : List D) (v : List V), RpL K F v d → (∀ x ∈ d, okD n x = true) → DpAll K H v (toPys d)
  | n, [], _, h, _ => by cases h; simp only [toPys]; exact .nil
  | n, x :: xs, _, h, o => by
    cases h with
    | cons r t => simp only [toPys]; exact .cons (Rp.dp s n x _ r (o _ List.mem_cons_self)) (RpL.dp s n xs _ t fun z h => o z (List.mem_cons_of_mem _ h))
  termination_by _ d _ _ _ => sizeOf d
end
theorem RX.dp {K : PySem.W.Frag} {F H : Hp} (s : Sub F H) {n : Nat} {d : D} {v : V} (h : RX K F H v d) (o : okD n d = true) : Dp K H v (toPy d) := by
  rcases h with h | ⟨a, w, e, q, z⟩
  · exact h.dp s n d v o
  · subst e
    cases w with
    | lst xs =>
      subst z
      obtain ⟨vs, hv, r⟩ := q
      cases n with
      | zero => simp [O.toD, okD] at o
      | succ n =>
        simp only [O.toD, toPy]
        exact .lst (.inl (.inl hv)) (RpL.dp s n xs vs r (by simpa [O.toD, okD] using o))
    | dK _ => subst z; simp [O.toD, okD] at o
    | dT _ => subst z; simp [O.toD, okD] at o
theorem plain_of : ∀ (n : Nat) (d : D), okD n d = true → (toPy d).plain = true ∧ (toPy d).depth ≤ n := by
  have hl : ∀ (n : Nat), (∀ d : D, okD n d = true → (toPy d).plain = true ∧ (toPy d).depth ≤ n) → ∀ xs : List D, (∀ x ∈ xs, okD n x = true) → PyData.plainAll (toPys xs) = true ∧ PyData.depthAll (toPys xs) ≤ n := by
    intro n ih xs
    induction xs with
    | nil => intro _; simp only [toPys, PyData.plainAll, PyData.depthAll]; exact ⟨trivial, Nat.zero_le _⟩
    | cons x xs ihx =>
      intro h
      obtain ⟨a, b⟩ := ih x (h _ List.mem_cons_self)
      obtain ⟨c, d⟩ := ihx fun z hz => h z (List.mem_cons_of_mem _ hz)
      simp only [toPys, PyData.plainAll, PyData.depthAll, a, c, Bool.and_self, true_and]
      exact Nat.max_le.mpr ⟨b, d⟩
  intro n
  induction n with
  | zero =>
    intro d h
    cases d <;> first | (simp only [toPy, PyData.plain, PyData.depth]; exact ⟨trivial, Nat.zero_le _⟩) | (simp [okD] at h)
  | succ n ih =>
    intro d h
    cases d with
    | tup xs =>
      obtain ⟨a, b⟩ := hl n ih xs (by simpa [okD] using h)
      simp only [toPy, PyData.plain, PyData.depth]
      exact ⟨a, Nat.succ_le_succ b⟩
    | lst xs =>
      obtain ⟨a, b⟩ := hl n ih xs (by simpa [okD] using h)
      simp only [toPy, PyData.plain, PyData.depth]
      exact ⟨a, Nat.succ_le_succ b⟩
    | _ => first | (simp only [toPy, PyData.plain, PyData.depth]; exact ⟨trivial, Nat.zero_le _⟩) | (simp [okD] at h)
def rEqP (K : PySem.W.Frag) : R2 := fun x y H Q => ∃ d e, Dp K H x d ∧ Dp K H y e ∧ d.plain = true ∧ e.plain = true ∧ d.depth ≤ 32 ∧ Q (.bl (PyData.eqv d e)) H
def rNeP (K : PySem.W.Frag) : R2 := fun x y H Q => ∃ d e, Dp K H x d ∧ Dp K H y e ∧ d.plain = true ∧ e.plain = true ∧ d.depth ≤ 32 ∧ Q (.bl (!PyData.eqv d e)) H
section
variable {X : Cx}
theorem op_eqP (hu : X.A.units + 64 < cLine) : OpR X (compareOp .Eq) (rEqP X.K) := by
  intro pins s σ H x y v u Q I rx ry h
  obtain ⟨d, e, hd, he, sd, se, dp, q⟩ := h
  obtain ⟨as, r1⟩ := Dp.reads I d x v hd rx
  obtain ⟨bs, r2⟩ := Dp.reads I e y u he ry
  exact SeqAt.eq_plain r1 r2 sd se (Nat.lt_of_le_of_lt (Nat.add_le_add_left (Nat.le_trans (Nat.min_le_left _ _) (Nat.le_trans dp (by decide))) _) hu) ⟨.bl _, H, I, rfl, q⟩
theorem op_neP (hu : X.A.units + 64 < cLine) : OpR X (compareOp .NotEq) (rNeP X.K) := by
  intro pins s σ H x y v u Q I rx ry h
  obtain ⟨d, e, hd, he, sd, se, dp, q⟩ := h
  obtain ⟨as, r1⟩ := Dp.reads I d x v hd rx
  obtain ⟨bs, r2⟩ := Dp.reads I e y u he ry
  exact SeqAt.ne_plain r1 r2 sd se (Nat.lt_of_le_of_lt (Nat.add_le_add_left (Nat.le_trans (Nat.min_le_left _ _) (Nat.le_trans dp (by decide))) _) hu) ⟨.bl _, H, I, rfl, q⟩
def dEq (x y : D) : Option R := if okD 16 x = true ∧ okD 16 y = true then some (.dat (.bl (eqD x y))) else none
def dNe (x y : D) : Option R := if okD 16 x = true ∧ okD 16 y = true then some (.dat (.bl (!eqD x y))) else none
theorem eq_D : Op2 X (rEqP X.K) dEq := by
  intro F H x y dx dy Q out s rx ry e g
  unfold dEq at e
  split at e
  · rename_i h
    injection e with e; subst e
    obtain ⟨a, b⟩ := plain_of _ _ h.1
    obtain ⟨c, d⟩ := plain_of _ _ h.2
    refine ⟨_, _, rx.dp s h.1, ry.dp s h.2, a, c, by omega, ?_⟩
    rw [eqD_py _ _ _ _ h.1 h.2]
    exact give_val g s (.bl _)
  · cases e
theorem ne_D : Op2 X (rNeP X.K) dNe := by
  intro F H x y dx dy Q out s rx ry e g
  unfold dNe at e
  split at e
  · rename_i h
    injection e with e; subst e
    obtain ⟨a, b⟩ := plain_of _ _ h.1
    obtain ⟨c, d⟩ := plain_of _ _ h.2
    refine ⟨_, _, rx.dp s h.1, ry.dp s h.2, a, c, by omega, ?_⟩
    rw [eqD_py _ _ _ _ h.1 h.2]
    exact give_val g s (.bl _)
  · cases e
end
end GW

set_option Elab.async false
set_option linter.all false
set_option maxRecDepth 100000
namespace GW
open PySem PySem.Spec L2

/-! ### tests -/
def MeetT (K : PySem.W.Frag) (cl : Cls) (E : XK) (σ : L2.St) (F0 H0 : Hp) (fp0 : List Addr) (Q : Bool → Hp → Prop) : Out Bool → Prop
  | .ok b ev => ∀ F H fp, Evo F0 H0 fp0 F H fp → DS K F H σ ev fp → Q b H
  | .exc k => ExcOk cl E H0 fp0 k
  | .stuck => False
theorem MeetT.shift {K : PySem.W.Frag} {cl : Cls} {E : XK} {σ : L2.St} {F0 H0 F H : Hp} {fp0 fp : List Addr} {Q : Bool → Hp → Prop} (x : Evo F0 H0 fp0 F H fp) : ∀ {o : Out Bool}, MeetT K cl E σ F0 H0 fp0 Q o → MeetT K cl E σ F H fp Q o
  | .ok r ev, m => fun F1 H1 fp1 x1 d => m F1 H1 fp1 (x.trans x1) d
  | .exc k, m => ExcOk.shift x m
  | .stuck, m => m
abbrev Tx := List Sl → Out Bool
def MeansT (X : Cx) (cl : Cls) (E : XK) (t : TT) (f : Tx) : Prop := ∀ F H σ ev fp Q, DS X.K F H σ ev fp → MeetT X.K cl E σ F H fp Q (f ev) → t σ H Q
def DT (X : Cx) (cl : Cls) (E : XK) (e : Expr) (f : Tx) : Prop := ∃ t, PT X e t ∧ MeansT X cl E t f
def DW (X : Cx) (cl : Cls) (E : XK) (e : Expr) (f : Tx) : Prop := ∃ t, PW X e t ∧ MeansT X cl E t f
/-- a bool as a test -/
def toB (f : Ex) : Tx := fun ev => (f ev).bind fun r e1 => match r with
  | .dat (.bl b) => .ok b e1
  | _ => .stuck
def tAnd (fa fb : Tx) : Tx := fun ev => (fa ev).bind fun b e1 => if b = true then fb e1 else .ok false e1
def tOr (fa fb : Tx) : Tx := fun ev => (fa ev).bind fun b e1 => if b = true then .ok true e1 else fb e1
def tNot (fa : Tx) : Tx := fun ev => (fa ev).bind fun b e1 => .ok (!b) e1
section
variable {X : Cx} {cl : Cls} {E : XK}
theorem toB_ok {t : TE} {f : Ex} (h : Means X cl E t f) : MeansT X cl E (tTest t) (toB f) := fun F H σ ev fp Q d m => by
  refine h F H σ ev fp _ d ?_
  unfold toB at m
  cases e : f ev with
  | stuck => rw [e] at m; exact m
  | exc k => rw [e] at m; exact m
  | ok r e1 =>
    rw [e] at m
    simp only [Out.bind_ok] at m
    intro F1 H1 fp1 v tp x1 d1 rv nd
    split at m
    · rename_i b
      cases rv with
      | dat r =>
        cases r
        exact ⟨b, rfl, m F1 H1 fp1 x1 d1⟩
    · exact m.elim
theorem dt_val {e : Expr} {f : Ex} (h : DE X cl E e f) (he : ∀ whole, isTrue e X.env whole = (do let v ← whole; standAt e.pos; holding [v] (truthy v)) := by intro _; rfl) : DT X cl E e (toB f) := by
  obtain ⟨t, p, h⟩ := h
  exact ⟨_, pt_val p he, toB_ok h⟩
theorem dt_cmp {a b : Expr} {fa fb : Ex} {op : CmpOp} {pos : Pos} {r : R2} {g : D → D → Option R} (hr : OpR X (compareOp op) r) (ho : Op2 X r g) (ha : DE X cl E a fa) (hb : DE X cl E b fb) (hm : behindInMarks op b = false) : DT X cl E (.Compare a [op] [b] pos) (toB (eBin g fa fb)) := by
  obtain ⟨ta, pa, ha⟩ := ha
  obtain ⟨tb, pb, hb⟩ := hb
  exact ⟨_, pt_cmpR hr pa pb hm, toB_ok (bin_ok ha hb ho)⟩
theorem DW.dt {e : Expr} {f : Tx} (h : DW X cl E e f) : DT X cl E e f := let ⟨t, p, h⟩ := h; ⟨t, p.pt, h⟩
theorem tand_ok {ta tb : TT} {fa fb : Tx} (ha : MeansT X cl E ta fa) (hb : MeansT X cl E tb fb) : MeansT X cl E (L2.tAnd ta tb) (tAnd fa fb) := fun F H σ ev fp Q d m => by
  refine ha F H σ ev fp _ d ?_
  unfold tAnd at m
  cases e : fa ev with
  | stuck => rw [e] at m; exact m
  | exc k => rw [e] at m; exact m
  | ok b e1 =>
    rw [e] at m
    simp only [Out.bind_ok] at m
    intro F1 H1 fp1 x1 d1
    cases b with
    | true =>
      simp only [if_true] at m ⊢
      exact hb F1 H1 σ e1 fp1 Q d1 (MeetT.shift x1 m)
    | false =>
      simp only [Bool.false_eq_true, if_false] at m ⊢
      exact m F1 H1 fp1 x1 d1
theorem tor_ok {ta tb : TT} {fa fb : Tx} (ha : MeansT X cl E ta fa) (hb : MeansT X cl E tb fb) : MeansT X cl E (L2.tOr ta tb) (tOr fa fb) := fun F H σ ev fp Q d m => by
  refine ha F H σ ev fp _ d ?_
  unfold tOr at m
  cases e : fa ev with
  | stuck => rw [e] at m; exact m
  | exc k => rw [e] at m; exact m
  | ok b e1 =>
    rw [e] at m
    simp only [Out.bind_ok] at m
    intro F1 H1 fp1 x1 d1
    cases b with
    | true =>
      simp only [if_true] at m ⊢
      exact m F1 H1 fp1 x1 d1
    | false =>
      simp only [Bool.false_eq_true, if_false] at m ⊢
      exact hb F1 H1 σ e1 fp1 Q d1 (MeetT.shift x1 m)
theorem dw_and1 {a : Expr} {fa : Tx} {pos : Pos} (ha : DT X cl E a fa) : DW X cl E (.BoolOp .And [a] pos) fa := let ⟨t, p, h⟩ := ha; ⟨t, pw_and1 p, h⟩
theorem dw_or1 {a : Expr} {fa : Tx} {pos : Pos} (ha : DT X cl E a fa) : DW X cl E (.BoolOp .Or [a] pos) fa := let ⟨t, p, h⟩ := ha; ⟨t, pw_or1 p, h⟩
theorem dw_and {a b : Expr} {rest : List Expr} {fa fb : Tx} {pos : Pos} (ha : DT X cl E a fa) (hb : DW X cl E (.BoolOp .And (b :: rest) pos) fb) : DW X cl E (.BoolOp .And (a :: b :: rest) pos) (tAnd fa fb) := by
  obtain ⟨ta, pa, ha⟩ := ha
  obtain ⟨tb, pb, hb⟩ := hb
  exact ⟨_, pw_and pa pb, tand_ok ha hb⟩
theorem dw_or {a b : Expr} {rest : List Expr} {fa fb : Tx} {pos : Pos} (ha : DT X cl E a fa) (hb : DW X cl E (.BoolOp .Or (b :: rest) pos) fb) : DW X cl E (.BoolOp .Or (a :: b :: rest) pos) (tOr fa fb) := by
  obtain ⟨ta, pa, ha⟩ := ha
  obtain ⟨tb, pb, hb⟩ := hb
  exact ⟨_, pw_or pa pb, tor_ok ha hb⟩
theorem dt_not {a : Expr} {fa : Tx} {pos : Pos} (ha : DT X cl E a fa) : DT X cl E (.UnaryOp .Not a pos) (tNot fa) := by
  obtain ⟨ta, pa, ha⟩ := ha
  refine ⟨_, pt_not pa, fun F H σ ev fp Q d m => ha F H σ ev fp _ d ?_⟩
  unfold tNot at m
  cases e : fa ev with
  | stuck => rw [e] at m; exact m
  | exc k => rw [e] at m; exact m
  | ok b e1 =>
    rw [e] at m
    exact m
/-! values of and, or, not -/
def eAnd (fa fb : Ex) : Ex := fun ev => (toB fa ev).bind fun b e1 => if b = true then fb e1 else .ok (.dat (.bl false)) e1
def eOr (fa fb : Ex) : Ex := fun ev => (toB fa ev).bind fun b e1 => if b = true then .ok (.dat (.bl true)) e1 else fb e1
def eNot (fa : Ex) : Ex := fun ev => (toB fa ev).bind fun b e1 => .ok (.dat (.bl (!b))) e1
theorem de_one {op} {a : Expr} {f : Ex} {pos : Pos} (h : DE X cl E a f) : DE X cl E (.BoolOp op [a] pos) f := let ⟨t, p, h⟩ := h; ⟨t, pe_one p, h⟩
theorem de_and {a b : Expr} {rest : List Expr} {fa fb : Ex} {pos : Pos} (ha : DE X cl E a fa) (hb : DE X cl E (.BoolOp .And (b :: rest) pos) fb) : DE X cl E (.BoolOp .And (a :: b :: rest) pos) (eAnd fa fb) := by
  obtain ⟨ta, pa, ha⟩ := ha
  obtain ⟨tb, pb, hb⟩ := hb
  refine ⟨_, pe_and pa pb, fun F H σ ev fp Q d m => ?_⟩
  refine toB_ok ha F H σ ev fp (fun c H1 => if c = true then tb σ H1 Q else Q (.bl false) H1) d ?_
  unfold eAnd at m
  cases e : toB fa ev with
  | stuck => rw [e] at m; exact m
  | exc k => rw [e] at m; exact m
  | ok b e1 =>
    rw [e] at m
    simp only [Out.bind_ok] at m
    intro F1 H1 fp1 x1 d1
    cases b with
    | true =>
      simp only [if_true] at m ⊢
      exact hb F1 H1 σ e1 fp1 Q d1 (MeetE.shift x1 m)
    | false =>
      simp only [Bool.false_eq_true, if_false] at m ⊢
      exact m F1 H1 fp1 _ [] x1 d1 (.dat (.bl _)) d1.nd
theorem de_or {a b : Expr} {rest : List Expr} {fa fb : Ex} {pos : Pos} (ha : DE X cl E a fa) (hb : DE X cl E (.BoolOp .Or (b :: rest) pos) fb) : DE X cl E (.BoolOp .Or (a :: b :: rest) pos) (eOr fa fb) := by
  obtain ⟨ta, pa, ha⟩ := ha
  obtain ⟨tb, pb, hb⟩ := hb
  refine ⟨_, pe_or pa pb, fun F H σ ev fp Q d m => ?_⟩
  refine toB_ok ha F H σ ev fp (fun c H1 => if c = true then Q (.bl true) H1 else tb σ H1 Q) d ?_
  unfold eOr at m
  cases e : toB fa ev with
  | stuck => rw [e] at m; exact m
  | exc k => rw [e] at m; exact m
  | ok b e1 =>
    rw [e] at m
    simp only [Out.bind_ok] at m
    intro F1 H1 fp1 x1 d1
    cases b with
    | true =>
      simp only [if_true] at m ⊢
      exact m F1 H1 fp1 _ [] x1 d1 (.dat (.bl _)) d1.nd
    | false =>
      simp only [Bool.false_eq_true, if_false] at m ⊢
      exact hb F1 H1 σ e1 fp1 Q d1 (MeetE.shift x1 m)
theorem de_not {a : Expr} {fa : Ex} {pos : Pos} (ha : DE X cl E a fa) : DE X cl E (.UnaryOp .Not a pos) (eNot fa) := by
  obtain ⟨ta, pa, ha⟩ := ha
  refine ⟨_, pe_not pa, fun F H σ ev fp Q d m => ?_⟩
  refine toB_ok ha F H σ ev fp (fun c H1 => Q (.bl (!c)) H1) d ?_
  unfold eNot at m
  cases e : toB fa ev with
  | stuck => rw [e] at m; exact m
  | exc k => rw [e] at m; exact m
  | ok b e1 =>
    rw [e] at m
    simp only [Out.bind_ok] at m
    intro F1 H1 fp1 x1 d1
    exact m F1 H1 fp1 _ [] x1 d1 (.dat (.bl _)) d1.nd
/-- a if t else b -/
def eIf (c : Tx) (fa fb : Ex) : Ex := fun ev => (c ev).bind fun b e1 => if b = true then fa e1 else fb e1
theorem de_if {c a b : Expr} {fc : Tx} {fa fb : Ex} {pos : Pos} (hc : DT X cl E c fc) (ha : DE X cl E a fa) (hb : DE X cl E b fb) : DE X cl E (.IfExp c a b pos) (eIf fc fa fb) := by
  obtain ⟨tc, pc, hc⟩ := hc
  obtain ⟨ta, pa, ha⟩ := ha
  obtain ⟨tb, pb, hb⟩ := hb
  refine ⟨_, pe_ifExp pc pa pb, fun F H σ ev fp Q d m => hc F H σ ev fp _ d ?_⟩
  unfold eIf at m
  cases e : fc ev with
  | stuck => rw [e] at m; exact m
  | exc k => rw [e] at m; exact m
  | ok b e1 =>
    rw [e] at m
    simp only [Out.bind_ok] at m
    intro F1 H1 fp1 x1 d1
    cases b with
    | true =>
      simp only [if_true] at m ⊢
      exact ha F1 H1 σ e1 fp1 Q d1 (MeetE.shift x1 m)
    | false =>
      simp only [Bool.false_eq_true, if_false] at m ⊢
      exact hb F1 H1 σ e1 fp1 Q d1 (MeetE.shift x1 m)
/-! a op b op' c of ints -/
def eChain (g g' : Int → Int → Bool) (fa fb fc : Ex) : Ex := fun ev => (fa ev).bind fun ra e1 => (fb e1).bind fun rb e2 =>
  match ra, rb with
  | .dat (.int i), .dat (.int j) => if g i j = true then (fc e2).bind fun rc e3 => (match rc with
      | .dat (.int k) => .ok (.dat (.bl (g' j k))) e3
      | _ => .stuck) else .ok (.dat (.bl false)) e2
  | _, _ => .stuck
theorem chain_ok {ta tb tc : TE} {fa fb fc : Ex} {g g' : Int → Int → Bool} (ha : Means X cl E ta fa) (hb : Means X cl E tb fb) (hc : Means X cl E tc fc) : Means X cl E (tChain (rI0 fun i j => .bl (g i j)) (rI0 fun i j => .bl (g' i j)) ta tb tc) (eChain g g' fa fb fc) := fun F H σ ev fp Q d m => by
  unfold eChain at m
  refine ha F H σ ev fp _ d ?_
  cases e : fa ev with
  | stuck => rw [e] at m; exact m
  | exc k => rw [e] at m; exact m
  | ok ra e1 =>
  rw [e] at m
  simp only [Out.bind_ok] at m
  intro F1 H1 fp1 v1 tp1 x1 d1 rv1 nd1
  have m1 := m
  cases rv1 with
  | bor _ _ =>
    refine hb F1 H1 σ e1 _ _ d1 ?_
    cases e' : fb e1 with
    | stuck => rw [e'] at m; exact m
    | exc k => rw [e'] at m; exact ExcOk.shift x1 m
    | ok rb e2 => rw [e'] at m; exact m.elim
  | tmp o f =>
    refine hb F1 H1 σ e1 fp1 _ d1 ?_
    have x1' := x1.fewer (fp2 := fp1) fun b h => List.mem_append_right _ h
    cases e' : fb e1 with
    | stuck => rw [e'] at m; exact m
    | exc k => rw [e'] at m; exact ExcOk.shift x1' m
    | ok rb e2 => rw [e'] at m; exact m.elim
  | @dat _ dv r1 =>
  refine hb F1 H1 σ e1 _ _ d1 ?_
  cases e' : fb e1 with
  | stuck => rw [e'] at m; exact m
  | exc k => rw [e'] at m; exact ExcOk.shift x1 m
  | ok rb e2 =>
  rw [e'] at m
  simp only [Out.bind_ok] at m
  intro F2 H2 fp2 v2 tp2 x2 d2 rv2 nd2
  split at m
  · rename_i i j hi
    injection hi with hi
    subst hi
    cases r1
    cases rv2 with
    | dat r2 =>
    cases r2
    refine ⟨i, j, rfl, rfl, g i j, rfl, ?_⟩
    cases hg : g i j with
    | true =>
      rw [hg] at m
      simp only [if_true] at m ⊢
      refine hc F2 H2 σ e2 _ _ d2 ?_
      cases e'' : fc e2 with
      | stuck => rw [e''] at m; exact m
      | exc k => rw [e''] at m; exact ExcOk.shift (x1.trans x2) m
      | ok rc e3 =>
      rw [e''] at m
      simp only [Out.bind_ok] at m
      intro F3 H3 fp3 v3 tp3 x3 d3 rv3 nd3
      split at m
      · rename_i k
        cases rv3 with
        | dat r3 =>
        cases r3
        exact ⟨j, k, rfl, rfl, m F3 H3 fp3 _ [] ((x1.trans x2).trans x3) d3 (.dat (.bl _)) d3.nd⟩
      · exact m.elim
    | false =>
      rw [hg] at m
      simp only [Bool.false_eq_true, if_false] at m ⊢
      exact m F2 H2 _ _ [] (x1.trans x2) d2 (.dat (.bl _)) d2.nd
  · exact m.elim
theorem de_chain {a b c : Expr} {fa fb fc : Ex} {op op' : CmpOp} {pos : Pos} {g g' : Int → Int → Bool} (h1 : OpR X (compareOp op) (rI0 fun i j => .bl (g i j))) (h2 : OpR X (compareOp op') (rI0 fun i j => .bl (g' i j))) (ha : DE X cl E a fa) (hb : DE X cl E b fb) (hc : DE X cl E c fc)
    (hm : lastMarks [op, op'] [b, c] = false := by with_unfolding_all rfl) : DE X cl E (.Compare a [op, op'] [b, c] pos) (eChain g g' fa fb fc) := by
  obtain ⟨ta, pa, ha⟩ := ha
  obtain ⟨tb, pb, hb⟩ := hb
  obtain ⟨tc, pc, hc⟩ := hc
  exact ⟨_, pe_chain h1 h2 pa pb pc hm, chain_ok ha hb hc⟩
theorem dt_chain {a b c : Expr} {fa fb fc : Ex} {op op' : CmpOp} {pos : Pos} {g g' : Int → Int → Bool} (h1 : OpR X (compareOp op) (rI0 fun i j => .bl (g i j))) (h2 : OpR X (compareOp op') (rI0 fun i j => .bl (g' i j))) (ha : DE X cl E a fa) (hb : DE X cl E b fb) (hc : DE X cl E c fc)
    (hm : lastMarks [op, op'] [b, c] = false := by with_unfolding_all rfl) : DT X cl E (.Compare a [op, op'] [b, c] pos) (toB (eChain g g' fa fb fc)) := by
  obtain ⟨ta, pa, ha⟩ := ha
  obtain ⟨tb, pb, hb⟩ := hb
  obtain ⟨tc, pc, hc⟩ := hc
  exact ⟨_, pt_chain h1 h2 pa pb pc hm, toB_ok (chain_ok ha hb hc)⟩
end

/-! ### things that are stored: all frozen -/
def argsS : List Ex → List Sl → Out (List D)
  | [], ev => .ok [] ev
  | f :: fs, ev => (f ev).bind fun r e0 => (stoR r e0).bind fun d e1 => (argsS fs e1).bind fun ds e2 => .ok (d :: ds) e2
def MeetD (K : PySem.W.Frag) (cl : Cls) (E : XK) (σ : L2.St) (F0 H0 : Hp) (fp0 : List Addr) (Q : List V → Hp → Prop) : Out (List D) → Prop
  | .ok ds ev => ∀ F H fp vs, Evo F0 H0 fp0 F H fp → DS K F H σ ev fp → RpL K F vs ds → Q vs H
  | .exc k => ExcOk cl E H0 fp0 k
  | .stuck => False
def DAs (X : Cx) (cl : Cls) (E : XK) (es : List Expr) (fs : List Ex) : Prop :=
  ∃ t, PA X es t ∧ ∀ F H σ ev fp Q, DS X.K F H σ ev fp → MeetD X.K cl E σ F H fp Q (argsS fs ev) → t σ H Q
section
variable {X : Cx} {cl : Cls} {E : XK}
/-- what stoR does -/
theorem sto_rv {K : PySem.W.Frag} {F0 H0 F1 H1 : Hp} {fp0 fp1 : List Addr} {σ : L2.St} {e0 e1 : List Sl} {v : V} {r : R} {tp : List Addr} {dd : D} (x1 : Evo F0 H0 fp0 F1 H1 (tp ++ fp1)) (d1 : DS K F1 H1 σ e0 fp1) (rv : RV K F1 H1 σ e0 v r tp) (nd : (tp ++ fp1).Nodup)
    (es : stoR r e0 = .ok dd e1) : ∃ F2 fp2, Evo F0 H0 fp0 F2 H1 fp2 ∧ DS K F2 H1 σ e1 fp2 ∧ Rp K F2 v dd := by
  cases rv with
  | dat r =>
    simp only [stoR] at es
    cases es
    exact ⟨F1, fp1, x1, d1, r⟩
  | tmp o f =>
    simp only [stoR] at es
    cases es
    obtain ⟨u, hu, rp⟩ := o.freeze f
    have nd2 := List.nodup_cons.mp nd
    refine ⟨_, fp1, evo_freeze x1 List.mem_cons_self f fun b hb => List.mem_cons_of_mem _ hb, ⟨sub_freeze d1.sub hu, d1.sr.mono (grow_upd f) (fun b _ u h => h) fun b hb => ?_, d1.nd⟩, rp⟩
    rw [upd_ne (fun z => nd2.1 (by rw [← z]; exact hb))]
    exact (d1.sr.free b hb).1
  | bor q e =>
    simp only [stoR] at es
    split at es
    · rename_i o eo
      cases es
      obtain ⟨a, q', w, f, m⟩ := d1.sr.getOwn eo
      rw [q] at q'
      injection q' with q'; injection q' with q'; injection q' with q'
      subst q'
      obtain ⟨u, hu, rp⟩ := w.freeze f
      obtain ⟨fp2, s2, sl, na⟩ := d1.sr.freeze d1.nd hu rp f q eo
      exact ⟨_, fp2, evo_freeze x1 m f fun b hb => sl.subset hb, ⟨sub_freeze d1.sub hu, s2, d1.nd.sublist sl⟩, rp⟩
    · cases es
theorem sto_step {t : TE} {f : Ex} (h : Means X cl E t f) {F H : Hp} {σ : L2.St} {ev : List Sl} {fp : List Addr} {Q : VK} (d : DS X.K F H σ ev fp)
    (ok : ∀ r e0 dd e1, f ev = .ok r e0 → stoR r e0 = .ok dd e1 → ∀ F1 H1 fp1 v, Evo F H fp F1 H1 fp1 → DS X.K F1 H1 σ e1 fp1 → Rp X.K F1 v dd → Q v H1)
    (ex : ∀ k, f ev = .exc k → ExcOk cl E H fp k) (st : f ev ≠ .stuck) (st2 : ∀ r e0, f ev = .ok r e0 → ∃ dd e1, stoR r e0 = .ok dd e1) : t σ H Q := by
  refine h F H σ ev fp Q d ?_
  cases e : f ev with
  | stuck => exact absurd e st
  | exc k => exact ex k e
  | ok r e0 =>
    obtain ⟨dd, e1, es⟩ := st2 r e0 e
    intro F1 H1 fp1 v tp x1 d1 rv nd
    obtain ⟨F2, fp2, y1, y2, y3⟩ := sto_rv x1 d1 rv nd es
    exact ok r e0 dd e1 e es F2 H1 fp2 v y1 y2 y3
theorem stoR_exc {r : R} {e0 : List Sl} {k : Nat} : stoR r e0 ≠ .exc k := by
  intro h
  cases r with
  | dat d => cases h
  | tmp o => cases h
  | bor i =>
    simp only [stoR] at h
    split at h <;> cases h
theorem das_nil : DAs X cl E [] [] := ⟨_, pa_nil, fun F H σ ev fp Q d m => m F H fp [] (Evo.refl _ _ _) d .nil⟩
theorem das_cons {e : Expr} {es : List Expr} {f : Ex} {fs : List Ex} (h : DE X cl E e f) (hs : DAs X cl E es fs) (hst : starEach (e :: es) X.env = (false, eval e X.env) :: starEach es X.env := by rfl) : DAs X cl E (e :: es) (f :: fs) := by
  obtain ⟨t, p, h⟩ := h
  obtain ⟨ts, ps, hs⟩ := hs
  refine ⟨_, pa_cons p ps hst, fun F H σ ev fp Q d m => ?_⟩
  unfold argsS at m
  refine sto_step (cl := cl) (E := E) h d (fun r e0 dd e1 e es F1 H1 fp1 v x1 d1 rp => ?_) (fun k e => ?_) (fun e => ?_) (fun r e0 e => ?_)
  · rw [e] at m
    simp only [Out.bind_ok] at m
    rw [es] at m
    simp only [Out.bind_ok] at m
    refine hs F1 H1 σ e1 fp1 _ d1 ?_
    cases e2 : argsS fs e1 with
    | stuck => rw [e2] at m; exact m
    | exc k => rw [e2] at m; exact ExcOk.shift x1 m
    | ok rs ev2 =>
      rw [e2] at m
      intro F2 H2 fp2 vs x2 d2 rvs
      exact m F2 H2 fp2 (v :: vs) (x1.trans x2) d2 (.cons (rp.mono fun _ _ => x2.grow.rd) rvs)
  · rw [e] at m; exact m
  · rw [e] at m; exact m
  · rw [e] at m
    simp only [Out.bind_ok] at m
    cases es : stoR r e0 with
    | stuck => rw [es] at m; exact m.elim
    | exc k => exact absurd es stoR_exc
    | ok dd e1 => exact ⟨dd, e1, rfl⟩
/-! ### displays -/
def eTup (fs : List Ex) : Ex := fun ev => (argsS fs ev).bind fun ds e1 => if ds.length ≤ lim then .ok (.dat (.tup ds)) e1 else .stuck
def eLst (fs : List Ex) : Ex := fun ev => (argsS fs ev).bind fun ds e1 => if ds.length ≤ lim then .ok (.tmp (.lst ds)) e1 else .stuck
theorem de_tup {es : List Expr} {fs : List Ex} {pos : Pos} {x1} (h : DAs X cl E es fs) : DE X cl E (.Tuple es x1 pos) (eTup fs) := by
  obtain ⟨t, p, h⟩ := h
  refine ⟨_, pe_tup p, fun F H σ ev fp Q d m => h F H σ ev fp _ d ?_⟩
  unfold eTup at m
  cases e : argsS fs ev with
  | stuck => rw [e] at m; exact m
  | exc k => rw [e] at m; exact m
  | ok ds e1 =>
    rw [e] at m
    simp only [Out.bind_ok] at m
    intro F1 H1 fp1 vs x1 d1 rs
    split at m
    · rename_i hl
      exact ⟨lim_le (by rw [rs.length]; exact hl), give_tup (GiveOk.meet x1 d1 (fun i z => nomatch z) m) d1.sub rs⟩
    · exact m.elim
theorem de_lst {es : List Expr} {fs : List Ex} {pos : Pos} (h : DAs X cl E es fs) : DE X cl E (.List es pos) (eLst fs) := by
  obtain ⟨t, p, h⟩ := h
  refine ⟨_, pe_lst p, fun F H σ ev fp Q d m => h F H σ ev fp _ d ?_⟩
  unfold eLst at m
  cases e : argsS fs ev with
  | stuck => rw [e] at m; exact m
  | exc k => rw [e] at m; exact m
  | ok ds e1 =>
    rw [e] at m
    simp only [Out.bind_ok] at m
    intro F1 H1 fp1 vs x1 d1 rs
    split at m
    · rename_i hl
      exact ⟨lim_le (by rw [rs.length]; exact hl), give_lst (GiveOk.meet x1 d1 (fun i z => nomatch z) m) d1.sub rs⟩
    · exact m.elim
end

/-! ### items -/
theorem ixN_of {n : Nat} {i : Int} {j : Nat} (h : ixN n i = some j) : j < n := (ixN_seq h).2.1
theorem atI_rp {K : PySem.W.Frag} {F : Hp} {vs : List V} {xs : List D} {i : Int} {d : D} (r : RpL K F vs xs) (h : atI xs i = some d) : ∃ v, atI vs i = some v ∧ Rp K F v d := by
  unfold atI at h ⊢
  rw [r.length]
  cases e : ixN xs.length i with
  | none => rw [e] at h; cases h
  | some j =>
    rw [e] at h
    exact r.get (i := j) h
def rIxD (K : PySem.W.Frag) : R2 := fun x y H Q => rIxL K x y H Q ∨ rIxT K x y H Q
theorem ix_D {X : Cx} : IxR X (rIxD X.K) := ix_list.or ix_tup
def dIx : D → D → Option R
  | .lst xs, .int i => (atI xs i).map R.dat
  | .tup xs, .int i => (atI xs i).map R.dat
  | _, _ => none
theorem ix_Dok {X : Cx} : Op2 X (rIxD X.K) dIx := by
  intro F H x y dx dy Q out s rx ry e g
  unfold dIx at e
  split at e
  · rename_i xs i
    cases q : atI xs i with
    | none => rw [q] at e; cases e
    | some d =>
      rw [q] at e
      cases e
      obtain ⟨a, vs, rfl, h1, r1⟩ := rx.lst s
      have hy := ry.int
      subst hy
      obtain ⟨v, e1, rp⟩ := atI_rp r1 q
      exact .inl ⟨a, vs, i, v, rfl, rfl, h1, e1, give_val g s rp⟩
  · rename_i xs i
    cases q : atI xs i with
    | none => rw [q] at e; cases e
    | some d =>
      rw [q] at e
      cases e
      obtain ⟨a, vs, rfl, h1, r1, _⟩ := rx.tup s
      have hy := ry.int
      subst hy
      obtain ⟨v, e1, rp⟩ := atI_rp r1 q
      exact .inr ⟨a, vs, i, v, rfl, rfl, h1, e1, give_val g s rp⟩
  · cases e

/-! ### slices -/
def cutD (xs : List D) (lo hi : Option Int) : List D := (xs.drop (HT.sIx xs.length 0 lo)).take (HT.sIx xs.length xs.length hi - HT.sIx xs.length 0 lo)
theorem cut_rp {K : PySem.W.Frag} {F : Hp} {vs : List V} {xs : List D} (r : RpL K F vs xs) (lo hi : Option Int) : RpL K F (cutV vs lo hi) (cutD xs lo hi) := by
  unfold cutV cutD
  rw [r.length]
  exact (r.drop _).take _
/-- a part of a slice -/
abbrev Px := List Sl → Out (Option Int)
def pNo : Px := fun ev => .ok none ev
def pInt (f : Ex) : Px := fun ev => (f ev).bind fun r e1 => match r with
  | .dat (.int i) => .ok (some i) e1
  | _ => .stuck
def MeetP (K : PySem.W.Frag) (cl : Cls) (E : XK) (σ : L2.St) (F0 H0 : Hp) (fp0 : List Addr) (Q : Option Int → Hp → Prop) : Out (Option Int) → Prop
  | .ok b ev => ∀ F H fp, Evo F0 H0 fp0 F H fp → DS K F H σ ev fp → Q b H
  | .exc k => ExcOk cl E H0 fp0 k
  | .stuck => False
def DP (X : Cx) (cl : Cls) (E : XK) (e : Option Expr) (f : Px) : Prop := ∃ t, PO X e t ∧ ∀ F H σ ev fp Q, DS X.K F H σ ev fp → MeetP X.K cl E σ F H fp Q (f ev) → t σ H Q
def gSl (lo hi : Option Int) : D → Option R
  | .lst xs => some (.tmp (.lst (cutD xs lo hi)))
  | .tup xs => some (.dat (.tup (cutD xs lo hi)))
  | _ => none
def eSl (f : Ex) (lo hi : Px) : Ex := fun ev => (f ev).bind fun r e1 => (lo e1).bind fun a e2 => (hi e2).bind fun b e3 =>
  match lookR e3 (solidR r) with
  | some x => opOut (gSl a b x) e3
  | none => .stuck
def rSlD (K : PySem.W.Frag) : V → Option Int → Option Int → Hp → VK → Prop := fun x lo hi H Q => rSlL K x lo hi H Q ∨ rSlA K x lo hi H Q
section
variable {X : Cx} {cl : Cls} {E : XK}
theorem dp_no : DP X cl E none pNo := ⟨_, po_none, fun F H σ ev fp Q d m => m F H fp (Evo.refl _ _ _) d⟩
theorem dp_int {e : Expr} {f : Ex} (h : DE X cl E e f) : DP X cl E (some e) (pInt f) := by
  obtain ⟨t, p, h⟩ := h
  refine ⟨_, po_some p, fun F H σ ev fp Q d m => h F H σ ev fp _ d ?_⟩
  unfold pInt at m
  cases e : f ev with
  | stuck => rw [e] at m; exact m
  | exc k => rw [e] at m; exact m
  | ok r e1 =>
    rw [e] at m
    simp only [Out.bind_ok] at m
    intro F1 H1 fp1 v tp x1 d1 rv nd
    split at m
    · cases rv with
      | dat r => cases r; exact ⟨_, rfl, m F1 H1 fp1 x1 d1⟩
    · exact m.elim
theorem sl_D : SlR X (rSlD X.K) := sl_list.or sl_tupA
theorem sl_give {F H : Hp} {Q : VK} {x : V} {dx : D} {lo hi : Option Int} {out : R} (s : Sub F H) (rx : RX X.K F H x dx) (e : gSl lo hi dx = some out) (g : GiveOk X F H Q out) : rSlD X.K x lo hi H Q := by
  unfold gSl at e
  split at e
  · cases e
    obtain ⟨a, vs, rfl, h1, r1⟩ := rx.lst s
    exact .inl ⟨a, vs, rfl, h1, give_lst g s (cut_rp r1 lo hi)⟩
  · rename_i xs
    cases e
    obtain ⟨a, vs, rfl, h1, r1, p1⟩ := rx.tup s
    have hl := r1.length
    refine .inr ⟨a, vs, rfl, h1, fun hw => ?_, fun hw => give_tup g s (cut_rp r1 lo hi)⟩
    have e : cutD xs lo hi = xs := by
      unfold cutD
      rw [← hl, hw.1, hw.2]
      simp [hl]
    rw [e] at g
    exact give_val g s p1
  · cases e
theorem de_slice {e : Expr} {f : Ex} {lo hi : Option Expr} {pl ph : Px} {p2 pos : Pos} (h : DE X cl E e f) (hl : DP X cl E lo pl) (hh : DP X cl E hi ph) : DE X cl E (.Subscript e (.Slice lo hi none p2) pos) (eSl f pl ph) := by
  obtain ⟨t, p, h⟩ := h
  obtain ⟨tl, pol, hl⟩ := hl
  obtain ⟨th, poh, hh⟩ := hh
  refine ⟨_, pe_slice sl_D p pol poh, fun F H σ ev fp Q d m => ?_⟩
  unfold eSl at m
  refine opd_step (cl := cl) (E := E) h d (fun ra e1 e F1 H1 fp1 x x1 d1 mk1 => ?_) (fun k e => ?_) (fun e => ?_)
  · rw [e] at m
    simp only [Out.bind_ok] at m
    refine hl F1 H1 σ e1 fp1 _ d1 ?_
    cases e2 : pl e1 with
    | stuck => rw [e2] at m; exact m
    | exc k => rw [e2] at m; exact ExcOk.shift x1 m
    | ok a ev2 =>
    rw [e2] at m
    simp only [Out.bind_ok] at m
    intro F2 H2 fp2 x2 d2
    refine hh F2 H2 σ ev2 fp2 _ d2 ?_
    cases e3 : ph ev2 with
    | stuck => rw [e3] at m; exact m
    | exc k => rw [e3] at m; exact ExcOk.shift (x1.trans x2) m
    | ok b ev3 =>
    rw [e3] at m
    simp only [Out.bind_ok] at m
    intro F3 H3 fp3 x3 d3
    have q := mk1 F3 H3 _ _ (x2.grow.trans x3.grow) .nil
    split at m
    · rename_i dx l1
      have lk := q.look d3 (by unfold lookAll; rw [l1]; unfold lookAll; rfl)
      cases lk with
      | cons rx lk =>
      unfold opOut at m
      split at m
      · rename_i dd eg
        exact sl_give d3.sub rx eg (GiveOk.meet ((x1.trans x2).trans x3) d3 (fun i z => nomatch z) m)
      · rename_i o eg
        exact sl_give d3.sub rx eg (GiveOk.meet ((x1.trans x2).trans x3) d3 (fun i z => nomatch z) m)
      · exact m.elim
    · exact m.elim
  · rw [e] at m; exact m
  · rw [e] at m; exact m
end
end GW

set_option Elab.async false
set_option linter.all false
set_option maxRecDepth 100000
namespace GW
open PySem PySem.Spec L2

/-! ### is -/
def isNon : D → Bool
  | .non => true
  | _ => false
theorem RX.isNon {K : PySem.W.Frag} {F H : Hp} {v : V} {d : D} (h : RX K F H v d) : decide (v = .non) = GW.isNon d := by
  rcases h with h | ⟨a, o, e, _, z⟩
  · cases h <;> rfl
  · subst e z
    cases o <;> rfl
def rIsN : R2 := fun x y H Q => y = .non ∧ Q (.bl (decide (x = .non))) H
def rNotN : R2 := fun x y H Q => y = .non ∧ Q (.bl (!decide (x = .non))) H
def dIsN : D → D → Option R
  | x, .non => some (.dat (.bl (isNon x)))
  | _, _ => none
def dNotN : D → D → Option R
  | x, .non => some (.dat (.bl (!isNon x)))
  | _, _ => none
def dIsB : D → D → Option R
  | .bl a, .bl b => some (.dat (.bl (a == b)))
  | _, _ => none
def dNotB : D → D → Option R
  | .bl a, .bl b => some (.dat (.bl (!(a == b))))
  | _, _ => none
section
variable {X : Cx}
theorem isN_D : Op2 X rIsN dIsN := by
  intro F H x y dx dy Q out s rx ry e g
  unfold dIsN at e
  split at e
  · cases e
    refine ⟨ry.non, ?_⟩
    rw [rx.isNon]
    exact give_val g s (.bl _)
  · cases e
theorem notN_D : Op2 X rNotN dNotN := by
  intro F H x y dx dy Q out s rx ry e g
  unfold dNotN at e
  split at e
  · cases e
    refine ⟨ry.non, ?_⟩
    rw [rx.isNon]
    exact give_val g s (.bl _)
  · cases e
theorem dec_beq {a b : Bool} : decide (a = b) = (a == b) := by cases a <;> cases b <;> rfl
theorem isB_D : Op2 X rIsB dIsB := by
  intro F H x y dx dy Q out s rx ry e g
  unfold dIsB at e
  split at e
  · cases e
    refine ⟨_, _, rx.bl, ry.bl, ?_⟩
    rw [dec_beq]
    exact give_val g s (.bl _)
  · cases e
theorem notB_D : Op2 X rNotB dNotB := by
  intro F H x y dx dy Q out s rx ry e g
  unfold dNotB at e
  split at e
  · cases e
    refine ⟨_, _, rx.bl, ry.bl, ?_⟩
    rw [dec_beq]
    exact give_val g s (.bl _)
  · cases e
end

/-! ### len -/
def gLen : List D → Option R
  | [.lst xs] => some (.dat (.int xs.length))
  | [.tup xs] => some (.dat (.int xs.length))
  | _ => none
def rLenD (K : PySem.W.Frag) : List V → Hp → VK → Prop := fun xs H Q => ∃ p ys, xs = [.ref p] ∧ (SqL K H p ys ∨ SqT K H p ys) ∧ Q (.int ys.length) H
theorem RXs.one {K : PySem.W.Frag} {F H : Hp} {xs : List V} {d : D} (h : RXs K F H xs [d]) : ∃ v, xs = [v] ∧ RX K F H v d := by
  cases h with
  | cons r t => cases t; exact ⟨_, rfl, r⟩
theorem RXs.two {K : PySem.W.Frag} {F H : Hp} {xs : List V} {d e : D} (h : RXs K F H xs [d, e]) : ∃ v w, xs = [v, w] ∧ RX K F H v d ∧ RX K F H w e := by
  cases h with
  | cons r t =>
    obtain ⟨w, rfl, q⟩ := RXs.one t
    exact ⟨_, _, rfl, r, q⟩
section
variable {X : Cx}
theorem len_D : OpN X (rLenD X.K) gLen := by
  intro F H xs dxs Q out s rx e g
  unfold gLen at e
  split at e
  · cases e
    obtain ⟨v, rfl, r⟩ := rx.one
    obtain ⟨a, vs, rfl, h1, r1⟩ := r.lst s
    refine ⟨a, vs, rfl, .inl h1, ?_⟩
    rw [r1.length]
    exact give_val g s (.int _)
  · cases e
    obtain ⟨v, rfl, r⟩ := rx.one
    obtain ⟨a, vs, rfl, h1, r1, _⟩ := r.tup s
    refine ⟨a, vs, rfl, .inr h1, ?_⟩
    rw [r1.length]
    exact give_val g s (.int _)
  · cases e

/-! ### min, max of two ints; int(..) -/
def gMin2 : List D → Option R
  | [.int i, .int j] => some (.dat (.int (if j < i then j else i)))
  | _ => none
def gMax2 : List D → Option R
  | [.int i, .int j] => some (.dat (.int (if j > i then j else i)))
  | _ => none
def gInt : List D → Option R
  | [.int i] => some (.dat (.int i))
  | [.bl b] => some (.dat (.int (if b then 1 else 0)))
  | _ => none
theorem min2_D : OpN X (fun xs H Q => ∃ i j, xs = [.int i, .int j] ∧ Q (.int (if j < i then j else i)) H) gMin2 := by
  intro F H xs dxs Q out s rx e g
  unfold gMin2 at e
  split at e
  · cases e
    obtain ⟨v, w, rfl, r, r'⟩ := rx.two
    exact ⟨_, _, by rw [r.int, r'.int], give_val g s (.int _)⟩
  · cases e
theorem max2_D : OpN X (fun xs H Q => ∃ i j, xs = [.int i, .int j] ∧ Q (.int (if j > i then j else i)) H) gMax2 := by
  intro F H xs dxs Q out s rx e g
  unfold gMax2 at e
  split at e
  · cases e
    obtain ⟨v, w, rfl, r, r'⟩ := rx.two
    exact ⟨_, _, by rw [r.int, r'.int], give_val g s (.int _)⟩
  · cases e
theorem int_Dc : OpN X (fun xs H Q => (∃ i, xs = [.int i] ∧ Q (.int i) H) ∨ ∃ k, xs = [.bl k] ∧ Q (.int (if k then 1 else 0)) H) gInt := by
  intro F H xs dxs Q out s rx e g
  unfold gInt at e
  split at e
  · cases e
    obtain ⟨v, rfl, r⟩ := rx.one
    exact .inl ⟨_, by rw [r.int], give_val g s (.int _)⟩
  · cases e
    obtain ⟨v, rfl, r⟩ := rx.one
    exact .inr ⟨_, by rw [r.bl], give_val g s (.int _)⟩
  · cases e

/-! ### list(..), tuple(..) -/
def gList : List D → Option R
  | [.lst xs] => some (.tmp (.lst xs))
  | [.tup xs] => some (.tmp (.lst xs))
  | _ => none
def gTuple : List D → Option R
  | [.lst xs] => some (.dat (.tup xs))
  | [.tup xs] => some (.dat (.tup xs))
  | _ => none
theorem list_Dc : OpN X (fun xs H Q => ∃ p ys, xs = [.ref p] ∧ (SqL X.K H p ys ∨ SqT X.K H p ys) ∧ ∀ l, H l = none → Q (.ref l) (upd H l (.lst ys))) gList := by
  intro F H xs dxs Q out s rx e g
  unfold gList at e
  split at e
  · cases e
    obtain ⟨v, rfl, r⟩ := rx.one
    obtain ⟨a, vs, rfl, h1, r1⟩ := r.lst s
    exact ⟨a, vs, rfl, .inl h1, give_lst g s r1⟩
  · cases e
    obtain ⟨v, rfl, r⟩ := rx.one
    obtain ⟨a, vs, rfl, h1, r1, _⟩ := r.tup s
    exact ⟨a, vs, rfl, .inr h1, give_lst g s r1⟩
  · cases e
theorem tuple_Dc : OpN X (fun xs H Q => ∃ p ys, xs = [.ref p] ∧ ((SqL X.K H p ys ∧ ∀ l, H l = none → Q (.ref l) (upd H l (.tup ys))) ∨ (SqT X.K H p ys ∧ Q (.ref p) H))) gTuple := by
  intro F H xs dxs Q out s rx e g
  unfold gTuple at e
  split at e
  · cases e
    obtain ⟨v, rfl, r⟩ := rx.one
    obtain ⟨a, vs, rfl, h1, r1⟩ := r.lst s
    exact ⟨a, vs, rfl, .inl ⟨h1, give_tup g s r1⟩⟩
  · cases e
    obtain ⟨v, rfl, r⟩ := rx.one
    obtain ⟨a, vs, rfl, h1, r1, p⟩ := r.tup s
    exact ⟨a, vs, rfl, .inr ⟨h1, give_val g s p⟩⟩
  · cases e

/-! ### sum, all, min, max of a list -/
def intsOf : List D → Option (List Int)
  | [] => some []
  | .int i :: xs => (intsOf xs).map (i :: ·)
  | _ => none
def blsOf : List D → Option (List Bool)
  | [] => some []
  | .bl i :: xs => (blsOf xs).map (i :: ·)
  | _ => none
theorem intsOf_eq : ∀ {xs : List D} {ns : List Int}, intsOf xs = some ns → xs = ns.map D.int
  | [], ns, h => by cases h; rfl
  | .int i :: xs, ns, h => by
    unfold intsOf at h
    cases e : intsOf xs with
    | none => rw [e] at h; cases h
    | some ms =>
      rw [e] at h
      cases h
      rw [intsOf_eq e]
      rfl
  | .non :: _, _, h => by simp [intsOf] at h
  | .bl _ :: _, _, h => by simp [intsOf] at h
  | .str _ :: _, _, h => by simp [intsOf] at h
  | .tup _ :: _, _, h => by simp [intsOf] at h
  | .lst _ :: _, _, h => by simp [intsOf] at h
  | .dK _ :: _, _, h => by simp [intsOf] at h
  | .dT _ :: _, _, h => by simp [intsOf] at h
  | .fn _ :: _, _, h => by simp [intsOf] at h
  | .ty _ :: _, _, h => by simp [intsOf] at h
theorem intsOf_map : ∀ ns : List Int, intsOf (ns.map D.int) = some ns
  | [] => rfl
  | n :: ns => by simp [intsOf, intsOf_map ns]
theorem blsOf_eq : ∀ {xs : List D} {ns : List Bool}, blsOf xs = some ns → xs = ns.map D.bl
  | [], ns, h => by cases h; rfl
  | .bl i :: xs, ns, h => by
    unfold blsOf at h
    cases e : blsOf xs with
    | none => rw [e] at h; cases h
    | some ms =>
      rw [e] at h
      cases h
      rw [blsOf_eq e]
      rfl
  | .non :: _, _, h => by simp [blsOf] at h
  | .int _ :: _, _, h => by simp [blsOf] at h
  | .str _ :: _, _, h => by simp [blsOf] at h
  | .tup _ :: _, _, h => by simp [blsOf] at h
  | .lst _ :: _, _, h => by simp [blsOf] at h
  | .dK _ :: _, _, h => by simp [blsOf] at h
  | .dT _ :: _, _, h => by simp [blsOf] at h
  | .fn _ :: _, _, h => by simp [blsOf] at h
  | .ty _ :: _, _, h => by simp [blsOf] at h
theorem blsOf_map : ∀ ns : List Bool, blsOf (ns.map D.bl) = some ns
  | [] => rfl
  | n :: ns => by simp [blsOf, blsOf_map ns]
def minL : List Int → Int
  | [] => 0
  | [x] => x
  | x :: xs => min x (minL xs)
def maxL : List Int → Int
  | [] => 0
  | [x] => x
  | x :: xs => max x (maxL xs)
theorem minL_spec : ∀ (xs : List Int), 0 < xs.length → minL xs ∈ xs ∧ ∀ y ∈ xs, minL xs ≤ y
  | [], h => absurd h (by simp)
  | [x], _ => by simp [minL]
  | x :: y :: r, _ => by
    obtain ⟨a, b⟩ := minL_spec (y :: r) (by simp)
    simp only [minL]
    refine ⟨?_, fun z hz => ?_⟩
    · by_cases h : x ≤ minL (y :: r)
      · rw [Int.min_eq_left h]; exact List.mem_cons_self
      · rw [Int.min_eq_right (by omega)]; exact List.mem_cons_of_mem _ a
    · rcases List.mem_cons.mp hz with e | e
      · subst e; exact Int.min_le_left _ _
      · exact Int.le_trans (Int.min_le_right _ _) (b z e)
theorem maxL_spec : ∀ (xs : List Int), 0 < xs.length → maxL xs ∈ xs ∧ ∀ y ∈ xs, y ≤ maxL xs
  | [], h => absurd h (by simp)
  | [x], _ => by simp [maxL]
  | x :: y :: r, _ => by
    obtain ⟨a, b⟩ := maxL_spec (y :: r) (by simp)
    simp only [maxL]
    refine ⟨?_, fun z hz => ?_⟩
    · by_cases h : x ≤ maxL (y :: r)
      · rw [Int.max_eq_right h]; exact List.mem_cons_of_mem _ a
      · rw [Int.max_eq_left (by omega)]; exact List.mem_cons_self
    · rcases List.mem_cons.mp hz with e | e
      · subst e; exact Int.le_max_left _ _
      · exact Int.le_trans (b z e) (Int.le_max_right _ _)
def gSum : List D → Option R
  | [.lst xs] => (intsOf xs).map fun ns => .dat (.int ns.sum)
  | _ => none
def gAll : List D → Option R
  | [.lst xs] => (blsOf xs).map fun ns => .dat (.bl (ns.all id))
  | _ => none
def gMinL : List D → Option R
  | [.lst xs] => match intsOf xs with
    | some ns => if 0 < ns.length then some (.dat (.int (minL ns))) else none
    | none => none
  | _ => none
def gMaxL : List D → Option R
  | [.lst xs] => match intsOf xs with
    | some ns => if 0 < ns.length then some (.dat (.int (maxL ns))) else none
    | none => none
  | _ => none
theorem sum_D : OpN X (rSum X.K) gSum := by
  intro F H xs dxs Q out s rx e g
  unfold gSum at e
  split at e
  · rename_i ds
    cases q : intsOf ds with
    | none => rw [q] at e; cases e
    | some ns =>
      rw [q] at e; cases e
      have hd := intsOf_eq q
      subst hd
      obtain ⟨v, rfl, r⟩ := rx.one
      obtain ⟨a, vs, rfl, h1, r1⟩ := r.lst s
      have hv := r1.ints
      subst hv
      exact ⟨a, ns, rfl, h1, give_val g s (.int _)⟩
  · cases e
theorem all_D : OpN X (rAll X.K) gAll := by
  intro F H xs dxs Q out s rx e g
  unfold gAll at e
  split at e
  · rename_i ds
    cases q : blsOf ds with
    | none => rw [q] at e; cases e
    | some ns =>
      rw [q] at e; cases e
      have hd := blsOf_eq q
      subst hd
      obtain ⟨v, rfl, r⟩ := rx.one
      obtain ⟨a, vs, rfl, h1, r1⟩ := r.lst s
      have hv := r1.bls
      subst hv
      exact ⟨a, ns, rfl, h1, give_val g s (.bl _)⟩
  · cases e
theorem minL_D : OpN X (rMin X.K) gMinL := by
  intro F H xs dxs Q out s rx e g
  unfold gMinL at e
  split at e
  · split at e
    · rename_i ds ns q
      split at e
      · rename_i h0
        cases e
        have hd := intsOf_eq q
        subst hd
        obtain ⟨v, rfl, r⟩ := rx.one
        obtain ⟨a, vs, rfl, h1, r1⟩ := r.lst s
        have hv := r1.ints
        subst hv
        obtain ⟨m1, m2⟩ := minL_spec ns h0
        refine ⟨a, ns, rfl, h1, h0, fun m hm hle => ?_⟩
        have : m = minL ns := Int.le_antisymm (hle _ m1) (m2 m hm)
        subst this
        exact give_val g s (.int _)
      · cases e
    · cases e
  · cases e
theorem maxL_D : OpN X (rMax X.K) gMaxL := by
  intro F H xs dxs Q out s rx e g
  unfold gMaxL at e
  split at e
  · split at e
    · rename_i ds ns q
      split at e
      · rename_i h0
        cases e
        have hd := intsOf_eq q
        subst hd
        obtain ⟨v, rfl, r⟩ := rx.one
        obtain ⟨a, vs, rfl, h1, r1⟩ := r.lst s
        have hv := r1.ints
        subst hv
        obtain ⟨m1, m2⟩ := maxL_spec ns h0
        refine ⟨a, ns, rfl, h1, h0, fun m hm hle => ?_⟩
        have : m = maxL ns := Int.le_antisymm (m2 m hm) (hle _ m1)
        subst this
        exact give_val g s (.int _)
      · cases e
    · cases e
  · cases e

/-! ### isinstance -/
def isTy : D → Ty → Option Bool
  | .non, _ => some false
  | .bl _, .int => some true
  | .bl _, .bool => some true
  | .bl _, _ => some false
  | .int _, .int => some true
  | .int _, _ => some false
  | .str _, .str => some true
  | .str _, _ => some false
  | .tup _, .tuple => some true
  | .tup _, _ => some false
  | .lst _, .list => some true
  | .lst _, _ => some false
  | .dK _, _ => some false
  | _, _ => none
def gIsi : List D → Option R
  | [x, .ty t] => (isTy x t).map fun b => .dat (.bl b)
  | _ => none
def tyN : D → Option String
  | .non => some "NoneType"
  | .bl _ => some "bool"
  | .int _ => some "int"
  | .str _ => some "str"
  | .tup _ => some "tuple"
  | .lst _ => some "list"
  | .dK _ => some "dict"
  | _ => none
theorem RX.tyX {K : PySem.W.Frag} {F H : Hp} {v : V} {d : D} {n : String} (s : Sub F H) (h : RX K F H v d) (e : tyN d = some n) : TyX K H v (.type n) := by
  rcases h with h | ⟨a, o, ea, q, z⟩
  · cases h with
    | non => cases e; exact .base .non
    | bl b => cases e; exact .base (.bl b)
    | int b => cases e; exact .base (.int b)
    | str b => cases e; exact .base (.str b)
    | tup q r =>
      cases e
      rcases q with q | ⟨ob, _, _, hk, hc, _⟩
      · rcases s _ _ q with w | ⟨o, w⟩
        · exact .base (.tup w)
        · exact .fTuple w
      · exact .kTuple hk hc
    | lst q r =>
      cases e
      rcases q with q | ⟨ob, _, _, hk, hc, _⟩
      · rcases s _ _ q with w | ⟨o, w⟩
        · exact .base (.lst w)
        · exact .base (.frz w)
      · exact .kList hk hc
    | dK q r =>
      cases e
      rcases s _ _ q with w | ⟨o, w⟩
      · exact .base (.dK w)
      · exact .fDict w
    | dT q r => cases e
    | fn _ => cases e
    | ty _ => cases e
  · subst ea z
    cases o with
    | lst xs => cases e; obtain ⟨vs, w, _⟩ := q; exact .base (.lst w)
    | dK xs => cases e; obtain ⟨vs, w, _⟩ := q; exact .base (.dK w)
    | dT xs => cases e
theorem kit_table : ∀ n ∈ ["NoneType", "bool", "int", "str", "tuple", "list", "dict"], ∀ t ∈ ["int", "bool", "str", "tuple", "list"], kitB n t = some (n == t || (n == "bool" && t == "int")) := by decide +kernel
theorem isTy_kit {d : D} {t : Ty} {b : Bool} (h : isTy d t = some b) : ∃ n, tyN d = some n ∧ kitB n t.name = some b := by
  cases d with
  | dT _ => simp [isTy] at h
  | fn _ => simp [isTy] at h
  | ty _ => simp [isTy] at h
  | _ =>
    refine ⟨_, rfl, ?_⟩
    cases t <;> (rw [kit_table _ (by decide) _ (by decide)]; simp only [isTy, Option.some.injEq] at h; subst h; decide)
theorem isi_D : OpN X (rIsi X.K) gIsi := by
  intro F H xs dxs Q out s rx e g
  unfold gIsi at e
  split at e
  · rename_i d t
    cases q : isTy d t with
    | none => rw [q] at e; cases e
    | some b =>
      rw [q] at e; cases e
      obtain ⟨v, w, rfl, r, r'⟩ := rx.two
      obtain ⟨n, h1, h2⟩ := isTy_kit q
      have hw := r'.ty
      subst hw
      exact ⟨v, _, .type n, .type t.name, b, rfl, .ty _, r.tyX s h1, kit_ty h2, give_val g s (.bl _)⟩
  · cases e

/-! ### repr of scalars -/
def rRepr : List V → Hp → VK → Prop := fun xs H Q => (∃ i, xs = [.int i] ∧ i.natAbs.log2 < 1920 ∧ Q (.str (toString i)) H) ∨ (∃ b : Bool, xs = [.bl b] ∧ Q (.str (if b then "True" else "False")) H) ∨ (xs = [.non] ∧ Q (.str "None") H)
theorem call_repr : CallR X (.builtin "repr") rRepr := by
  intro pins s σ H xs us Q I r h
  rcases h with ⟨i, rfl, hz, q⟩ | ⟨b, rfl, q⟩ | ⟨rfl, q⟩
  · obtain ⟨u, rfl, t, rfl⟩ := vals1 r
    exact PySem.P.repr_of_int hz ⟨.str _, H, I.tok _, ⟨_, rfl⟩, q⟩
  · obtain ⟨u, rfl, hu⟩ := vals1 r
    cases hu
    exact PySem.P.repr_of_bool ⟨.str _, H, I.tok _, ⟨_, rfl⟩, q⟩
  · obtain ⟨u, rfl, hu⟩ := vals1 r
    cases hu
    exact PySem.P.repr_of_none ⟨.str _, H, I.tok _, ⟨_, rfl⟩, q⟩
def gRepr : List D → Option R
  | [.int i] => if -1000000 < i ∧ i < 1000000 then some (.dat (.str (toString i))) else none
  | [.bl b] => some (.dat (.str (if b then "True" else "False")))
  | [.non] => some (.dat (.str "None"))
  | _ => none
theorem log2_small {i : Int} (h : -1000000 < i ∧ i < 1000000) : i.natAbs.log2 < 1920 := by
  have h1 : i.natAbs < 2 ^ 20 := by
    show _ < 1048576
    omega
  exact Nat.lt_of_lt_of_le (PySem.Flt.log2_lt_of (by decide) h1) (by decide)
theorem repr_D : OpN X rRepr gRepr := by
  intro F H xs dxs Q out s rx e g
  unfold gRepr at e
  split at e
  · split at e
    · rename_i h
      cases e
      obtain ⟨v, rfl, r⟩ := rx.one
      exact .inl ⟨_, by rw [r.int], log2_small h, give_val g s (.str _)⟩
    · cases e
  · cases e
    obtain ⟨v, rfl, r⟩ := rx.one
    exact .inr (.inl ⟨_, by rw [r.bl], give_val g s (.str _)⟩)
  · cases e
    obtain ⟨v, rfl, r⟩ := rx.one
    exact .inr (.inr ⟨by rw [r.non], give_val g s (.str _)⟩)
  · cases e
end
end GW

set_option Elab.async false
set_option linter.all false
set_option maxRecDepth 100000
namespace GW
open PySem PySem.Spec L2

/-! ### statements -/
inductive SOut where
  | nx (ev : List Sl) | rt (r : R) (ev : List Sl) | bk (ev : List Sl) | ct (ev : List Sl) | exc (k : Nat) | stuck
/-- the slots outside W are as they were -/
structure Frm (W : List Nat) (σ σ' : L2.St) : Prop where
  len : σ'.length = σ.length
  get : ∀ i, i ∉ W → σ'[i]? = σ[i]?
theorem Frm.refl (W : List Nat) (σ : L2.St) : Frm W σ σ := ⟨rfl, fun _ _ => rfl⟩
theorem Frm.trans {W : List Nat} {σ σ1 σ2 : L2.St} (a : Frm W σ σ1) (b : Frm W σ1 σ2) : Frm W σ σ2 := ⟨b.len.trans a.len, fun i h => (b.get i h).trans (a.get i h)⟩
theorem Frm.set {W : List Nat} {σ : L2.St} {i : Nat} (h : i ∈ W) (v : Option V) : Frm W σ (σ.set i v) := ⟨List.length_set, fun j hj => by
  rw [List.getElem?_set_ne (fun e => hj (by rw [← e]; exact h))]⟩
def MeetS (K : PySem.W.Frag) (cl : Cls) (E : XK) (W : List Nat) (σ0 : L2.St) (F0 H0 : Hp) (fp0 : List Addr) (D : Ends) : SOut → Prop
  | .nx ev => ∀ F H σ fp, Evo F0 H0 fp0 F H fp → DS K F H σ ev fp → Frm W σ0 σ → D.nx σ H
  | .bk ev => ∀ F H σ fp, Evo F0 H0 fp0 F H fp → DS K F H σ ev fp → Frm W σ0 σ → D.bk σ H
  | .ct ev => ∀ F H σ fp, Evo F0 H0 fp0 F H fp → DS K F H σ ev fp → Frm W σ0 σ → D.ct σ H
  | .rt r ev => ∀ F H σ fp v tp, Evo F0 H0 fp0 F H (tp ++ fp) → DS K F H σ ev fp → Frm W σ0 σ → RV K F H σ ev v r tp → (tp ++ fp).Nodup → D.rt v H
  | .exc k => ExcOk cl E H0 fp0 k
  | .stuck => False
theorem MeetS.shift {K : PySem.W.Frag} {cl : Cls} {E : XK} {W : List Nat} {σ0 σ : L2.St} {F0 H0 F H : Hp} {fp0 fp : List Addr} {D : Ends} (x : Evo F0 H0 fp0 F H fp) (f : Frm W σ0 σ) : ∀ {o : SOut}, MeetS K cl E W σ0 F0 H0 fp0 D o → MeetS K cl E W σ F H fp D o
  | .nx ev, m => fun F1 H1 σ1 fp1 x1 d f1 => m F1 H1 σ1 fp1 (x.trans x1) d (f.trans f1)
  | .bk ev, m => fun F1 H1 σ1 fp1 x1 d f1 => m F1 H1 σ1 fp1 (x.trans x1) d (f.trans f1)
  | .ct ev, m => fun F1 H1 σ1 fp1 x1 d f1 => m F1 H1 σ1 fp1 (x.trans x1) d (f.trans f1)
  | .rt r ev, m => fun F1 H1 σ1 fp1 v tp x1 d f1 rv nd => m F1 H1 σ1 fp1 v tp (x.trans x1) d (f.trans f1) rv nd
  | .exc k, m => ExcOk.shift x m
  | .stuck, m => m
abbrev Sx := List Sl → SOut
def MeansS (X : Cx) (cl : Cls) (E : XK) (W : List Nat) (t : TS) (s : Sx) : Prop := ∀ F H σ ev fp D, DS X.K F H σ ev fp → MeetS X.K cl E W σ F H fp D (s ev) → t D σ H
def DSt (X : Cx) (cl : Cls) (E : XK) (W : List Nat) (st : Stmt) (s : Sx) : Prop := ∃ t, PS X st t ∧ MeansS X cl E W t s
def DSs (X : Cx) (cl : Cls) (E : XK) (W : List Nat) (st : List Stmt) (s : Sx) : Prop := ∃ t, PSs X st t ∧ MeansS X cl E W t s
/-- fewer slots -/
theorem MeansS.mono {X : Cx} {cl : Cls} {E : XK} {W W' : List Nat} {t : TS} {s : Sx} (h : MeansS X cl E W t s) (hw : ∀ i ∈ W, i ∈ W') : MeansS X cl E W' t s := fun F H σ ev fp D d m => by
  have up : ∀ {σ'}, Frm W σ σ' → Frm W' σ σ' := fun f => ⟨f.len, fun i hi => f.get i fun z => hi (hw i z)⟩
  refine h F H σ ev fp D d ?_
  cases e : s ev with
  | nx ev => rw [e] at m; exact fun F1 H1 σ1 fp1 x1 d1 f1 => m F1 H1 σ1 fp1 x1 d1 (up f1)
  | bk ev => rw [e] at m; exact fun F1 H1 σ1 fp1 x1 d1 f1 => m F1 H1 σ1 fp1 x1 d1 (up f1)
  | ct ev => rw [e] at m; exact fun F1 H1 σ1 fp1 x1 d1 f1 => m F1 H1 σ1 fp1 x1 d1 (up f1)
  | rt r ev => rw [e] at m; exact fun F1 H1 σ1 fp1 v tp x1 d1 f1 => m F1 H1 σ1 fp1 v tp x1 d1 (up f1)
  | exc k => rw [e] at m; exact m
  | stuck => rw [e] at m; exact m
def sSkip : Sx := fun ev => .nx ev
def sSeq (a b : Sx) : Sx := fun ev => match a ev with
  | .nx e1 => b e1
  | o => o
section
variable {X : Cx} {cl : Cls} {E : XK} {W : List Nat}
theorem dss_nil : DSs X cl E W [] sSkip := ⟨_, pss_nil, fun F H σ ev fp D d m => m F H σ fp (Evo.refl _ _ _) d (Frm.refl _ _)⟩
theorem dss_one {st : Stmt} {s : Sx} (h : DSt X cl E W st s) : DSs X cl E W [st] s := let ⟨t, p, h⟩ := h; ⟨t, pss_one p, h⟩
theorem dss_cons {st : Stmt} {sts : List Stmt} {a b : Sx} (ha : DSt X cl E W st a) (hb : DSs X cl E W sts b) : DSs X cl E W (st :: sts) (sSeq a b) := by
  obtain ⟨ta, pa, ha⟩ := ha
  obtain ⟨tb, pb, hb⟩ := hb
  refine ⟨_, pss_cons pa pb, fun F H σ ev fp D d m => ?_⟩
  refine ha F H σ ev fp { D with nx := tb D } d ?_
  unfold sSeq at m
  cases e : a ev with
  | nx e1 =>
    rw [e] at m
    intro F1 H1 σ1 fp1 x1 d1 f1
    exact hb F1 H1 σ1 e1 fp1 D d1 (MeetS.shift x1 f1 m)
  | bk e1 => rw [e] at m; exact m
  | ct e1 => rw [e] at m; exact m
  | rt r e1 => rw [e] at m; exact m
  | exc k => rw [e] at m; exact m
  | stuck => rw [e] at m; exact m
theorem ds_pass {pos : Pos} : DSt X cl E W (.Pass pos) sSkip := ⟨_, ps_pass, fun F H σ ev fp D d m => m F H σ fp (Evo.refl _ _ _) d (Frm.refl _ _)⟩
theorem ds_doc {x j pos pos'} : DSt X cl E W (.Expr (.Constant (.str x) j pos) pos') sSkip := ⟨_, ps_doc, fun F H σ ev fp D d m => m F H σ fp (Evo.refl _ _ _) d (Frm.refl _ _)⟩
def sBreak : Sx := fun ev => .bk ev
theorem ds_break {pos : Pos} : DSt X cl E W (.Break pos) sBreak := ⟨_, ps_break, fun F H σ ev fp D d m => m F H σ fp (Evo.refl _ _ _) d (Frm.refl _ _)⟩
def sNever : Sx := fun _ => .stuck
theorem ds_never {st : Stmt} : DSt X cl E W st sNever := ⟨_, ps_never, fun F H σ ev fp D d m => m.elim⟩
theorem dss_never {st : List Stmt} : DSs X cl E W st sNever := ⟨_, pss_never, fun F H σ ev fp D d m => m.elim⟩
/-- if -/
def sIf (c : Tx) (a b : Sx) : Sx := fun ev => match c ev with
  | .ok k e1 => if k = true then a e1 else b e1
  | .exc k => .exc k
  | .stuck => .stuck
theorem ds_if {c : Expr} {a b : List Stmt} {pos : Pos} {fc : Tx} {sa sb : Sx} (hc : DT X cl E c fc) (ha : DSs X cl E W a sa) (hb : DSs X cl E W b sb) : DSt X cl E W (.If c a b pos) (sIf fc sa sb) := by
  obtain ⟨tc, pc, hc⟩ := hc
  obtain ⟨ta, pa, ha⟩ := ha
  obtain ⟨tb, pb, hb⟩ := hb
  refine ⟨_, ps_if pc pa pb, fun F H σ ev fp D d m => hc F H σ ev fp _ d ?_⟩
  unfold sIf at m
  cases e : fc ev with
  | stuck => rw [e] at m; exact m
  | exc k => rw [e] at m; exact m
  | ok k e1 =>
    rw [e] at m
    intro F1 H1 fp1 x1 d1
    cases k with
    | true =>
      simp only [if_true] at m ⊢
      exact ha F1 H1 σ e1 fp1 D d1 (MeetS.shift x1 (Frm.refl _ _) m)
    | false =>
      simp only [Bool.false_eq_true, if_false] at m ⊢
      exact hb F1 H1 σ e1 fp1 D d1 (MeetS.shift x1 (Frm.refl _ _) m)
/-- an expression whose value is dropped -/
def sDrop (f : Ex) : Sx := fun ev => match f ev with
  | .ok _ e1 => .nx e1
  | .exc k => .exc k
  | .stuck => .stuck
theorem ds_expr {e : Expr} {f : Ex} {pos : Pos} (h : DE X cl E e f) (hs : swapsWith e none pos.line X.env = pure false := by rfl) : DSt X cl E W (.Expr e pos) (sDrop f) := by
  obtain ⟨t, p, h⟩ := h
  refine ⟨_, ps_expr p hs, fun F H σ ev fp D d m => h F H σ ev fp _ d ?_⟩
  unfold sDrop at m
  cases e : f ev with
  | stuck => rw [e] at m; exact m
  | exc k => rw [e] at m; exact m
  | ok r e1 =>
    rw [e] at m
    intro F1 H1 fp1 v tp x1 d1 rv nd
    exact m F1 H1 σ fp1 (x1.fewer fun b hb => List.mem_append_right _ hb) d1 (Frm.refl _ _)

/-! ### values that wait -/
/-- a value that waits: data, or a new thing that stands apart (at an address of pend) -/
inductive PV (K : PySem.W.Frag) (F H : Hp) : V → R → List Addr → Prop
  | dat {v : V} {d : D} : Rp K F v d → PV K F H v (.dat d) []
  | tmp {a : Addr} {o : O} : OwnAt K F H a o → F a = none → PV K F H (.ref a) (.tmp o) [a]
theorem Evo.consL {F H F' H' : Hp} {fp fp' : List Addr} (x : Evo F H fp F' H' fp') : ∀ (p : List Addr), Evo F H (p ++ fp) F' H' (p ++ fp') := fun p =>
  ⟨fun b o h n => x.keep b o h fun z => n (List.mem_append_right _ z), x.grow, fun b o h f n => x.out b o h f fun z => n (List.mem_append_right _ z), fun b hb => by
    rcases List.mem_append.mp hb with z | z
    · exact .inl (List.mem_append_left _ z)
    · rcases x.fpn b z with q | q
      · exact .inl (List.mem_append_right _ q)
      · exact .inr q⟩
theorem PV.there {K : PySem.W.Frag} {F H : Hp} {v : V} {r : R} {tp : List Addr} (p : PV K F H v r tp) : ∀ a ∈ tp, (∃ u, H a = some u) ∧ F a = none := by
  cases p with
  | dat _ => intro a h; cases h
  | tmp o f =>
    intro a h
    rcases List.mem_cons.mp h with e | e
    · subst e; exact ⟨o.there, f⟩
    · cases e
/-- it waits while other things happen -/
theorem PV.evo {K : PySem.W.Frag} {F H F' H' : Hp} {v : V} {r : R} {tp fp fp' : List Addr} (p : PV K F H v r tp) (x : Evo F H fp F' H' fp') (nd : (tp ++ fp).Nodup) : PV K F' H' v r tp ∧ (∀ a ∈ tp, a ∉ fp') := by
  cases p with
  | dat r => exact ⟨.dat (r.mono fun _ _ => x.grow.rd), fun a h => by cases h⟩
  | @tmp a o w f =>
    have na : a ∉ fp := (List.nodup_cons.mp nd).1
    obtain ⟨u, hu⟩ := w.there
    refine ⟨.tmp (w.mono x.grow fun u h => x.keep _ _ h na) (x.out _ _ hu f na), fun b hb z => ?_⟩
    rcases List.mem_cons.mp hb with e | e
    · subst e
      rcases x.fpn _ z with q | q
      · exact na q
      · rw [hu] at q; cases q
    · cases e
/-- for keeping: a borrowed thing is frozen, a temporary one stays -/
def keepR (r : R) (e1 : List Sl) : Out R := match r with
  | .dat d => .ok (.dat d) e1
  | .tmp o => .ok (.tmp o) e1
  | .bor i => match e1[i]? with
    | some (.own o) => .ok (.dat o.toD) (e1.set i (.dat o.toD))
    | _ => .stuck
theorem keepR_exc {r : R} {e0 : List Sl} {k : Nat} : keepR r e0 ≠ .exc k := by
  intro h
  cases r with
  | dat d => cases h
  | tmp o => cases h
  | bor i =>
    simp only [keepR] at h
    split at h <;> cases h
theorem keep_rv {K : PySem.W.Frag} {F0 H0 F1 H1 : Hp} {fp0 fp1 : List Addr} {σ : L2.St} {e0 e1 : List Sl} {v : V} {r r' : R} {tp : List Addr} (x1 : Evo F0 H0 fp0 F1 H1 (tp ++ fp1)) (d1 : DS K F1 H1 σ e0 fp1) (rv : RV K F1 H1 σ e0 v r tp) (nd : (tp ++ fp1).Nodup)
    (es : keepR r e0 = .ok r' e1) : ∃ F2 fp2 tp2, Evo F0 H0 fp0 F2 H1 (tp2 ++ fp2) ∧ DS K F2 H1 σ e1 fp2 ∧ PV K F2 H1 v r' tp2 ∧ (tp2 ++ fp2).Nodup := by
  cases rv with
  | dat r =>
    simp only [keepR] at es
    cases es
    exact ⟨F1, fp1, [], x1, d1, .dat r, nd⟩
  | tmp o f =>
    simp only [keepR] at es
    cases es
    exact ⟨F1, fp1, _, x1, d1, .tmp o f, nd⟩
  | @bor a i o' q e =>
    simp only [keepR] at es
    split at es
    · rename_i o eo
      cases es
      have es2 : stoR (.bor i) e0 = .ok o.toD (e0.set i (.dat o.toD)) := by simp only [stoR]; rw [eo]
      obtain ⟨F2, fp2, a, b, c⟩ := sto_rv (tp := []) x1 d1 (.bor q e) nd es2
      exact ⟨F2, fp2, [], a, b, .dat c, b.nd⟩
    · cases es
def slot : R → Sl
  | .dat d => .dat d
  | .tmp o => .own o
  | .bor _ => .un
/-- a waiting value goes into a slot -/
theorem PV.store {K : PySem.W.Frag} {F H : Hp} {σ : L2.St} {ev : List Sl} {v : V} {r : R} {tp fp : List Addr} (p : PV K F H v r tp) (d : DS K F H σ ev fp) (nd : (tp ++ fp).Nodup) (i : Nat) : ∃ fp', DS K F H (σ.set i (some v)) (ev.set i (slot r)) fp' ∧ ∀ b ∈ fp', b ∈ tp ++ fp := by
  cases p with
  | dat r =>
    obtain ⟨fp', s, sl⟩ := d.sr.setDat i r
    exact ⟨fp', ⟨d.sub, s, d.nd.sublist sl⟩, fun b hb => sl.subset hb⟩
  | @tmp a o w f =>
    obtain ⟨fp', s, n, m⟩ := d.sr.setOwn w f i
    exact ⟨fp', ⟨d.sub, s, n d.nd (List.nodup_cons.mp nd).1⟩, fun b hb => List.mem_cons.mpr (m b hb)⟩
/-- the step: an expression whose value waits -/
theorem keep_step {t : TE} {f : Ex} (h : Means X cl E t f) {F H : Hp} {σ : L2.St} {ev : List Sl} {fp : List Addr} {Q : VK} (d : DS X.K F H σ ev fp)
    (ok : ∀ r e0 r' e1, f ev = .ok r e0 → keepR r e0 = .ok r' e1 → ∀ F1 H1 fp1 v tp, Evo F H fp F1 H1 (tp ++ fp1) → DS X.K F1 H1 σ e1 fp1 → PV X.K F1 H1 v r' tp → (tp ++ fp1).Nodup → Q v H1)
    (ex : ∀ k, f ev = .exc k → ExcOk cl E H fp k) (st : f ev ≠ .stuck) (st2 : ∀ r e0, f ev = .ok r e0 → keepR r e0 ≠ .stuck) : t σ H Q := by
  refine h F H σ ev fp Q d ?_
  cases e : f ev with
  | stuck => exact absurd e st
  | exc k => exact ex k e
  | ok r e0 =>
    intro F1 H1 fp1 v tp x1 d1 rv nd
    cases es : keepR r e0 with
    | stuck => exact absurd es (st2 r e0 e)
    | exc k => exact absurd es keepR_exc
    | ok r' e1 =>
      obtain ⟨F2, fp2, tp2, y1, y2, y3, y4⟩ := keep_rv x1 d1 rv nd es
      exact ok r e0 r' e1 e es F2 H1 fp2 v tp2 y1 y2 y3 y4
/-- name = e -/
def sSet (i : Nat) (f : Ex) : Sx := fun ev => match f ev with
  | .ok r e0 => (match keepR r e0 with
    | .ok r' e1 => .nx (e1.set i (slot r'))
    | _ => .stuck)
  | .exc k => .exc k
  | .stuck => .stuck
theorem set_ok {t : TE} {f : Ex} (h : Means X cl E t f) {i : Nat} (hi : i ∈ W) : MeansS X cl E W (tAsg t (gName i)) (sSet i f) := fun F H σ ev fp D d m => by
  unfold sSet at m
  refine keep_step (cl := cl) (E := E) h d (fun r e0 r' e1 e es F1 H1 fp1 v tp x1 d1 pv nd => ?_) (fun k e => ?_) (fun e => ?_) (fun r e0 e es => ?_)
  · rw [e] at m
    simp only [es] at m
    obtain ⟨fp2, d2, sub⟩ := pv.store d1 nd i
    exact m F1 H1 _ fp2 (x1.fewer sub) d2 (Frm.set hi _)
  · rw [e] at m; exact m
  · rw [e] at m; exact m
  · rw [e] at m; simp only [es] at m; exact m
theorem ds_set {i : Nat} {x : Str} {e : Expr} {f : Ex} {pos pos' : Pos} (hN : X.N.Nodup) (h : DE X cl E e f) (hi : X.N[i]? = some x := by rfl) (hx : Loc X.env.scope x := by first | exact Or.inl rfl | exact Or.inr rfl) (hs : swapsWith e (some (.Name x pos')) pos.line X.env = pure false := by rfl) (hf : X.fn x = true ∨ X.env.scope.names.lookup x = some .local := by first | exact .inl rfl | exact .inr rfl | assumption)
    (hw : i ∈ W := by decide) : DSt X cl E W (.Assign [.Name x pos'] e pos) (sSet i f) := by
  obtain ⟨t, p, h⟩ := h
  exact ⟨_, ps_set hN hi hx p hs hf, set_ok h hw⟩
/-- a, b = e, e' -/
def sSet2 (i j : Nat) (f g : Ex) : Sx := fun ev => match f ev with
  | .ok r e0 => (match keepR r e0 with
    | .ok r' e1 => (match g e1 with
      | .ok q e2 => (match keepR q e2 with
        | .ok q' e3 => .nx ((e3.set i (slot r')).set j (slot q'))
        | _ => .stuck)
      | .exc k => .exc k
      | .stuck => .stuck)
    | _ => .stuck)
  | .exc k => .exc k
  | .stuck => .stuck
theorem ds_set2 {i j : Nat} {x y : Str} {a b : Expr} {f g : Ex} {px py pt : Pos} {kt k2 pt2} {pos : Pos} (hc : X.calm = true) (hN : X.N.Nodup) (ha : DE X cl E a f) (hb : DE X cl E b g) 
    (hi : X.N[i]? = some x := by rfl) (hj : X.N[j]? = some y := by rfl) (hij : i ≠ j := by decide) (hx : X.env.scope.names.lookup x = some .local := by rfl) (hy : X.env.scope.names.lookup y = some .local := by rfl)
    (hw : swappedStores [.Tuple [.Name x px, .Name y py] kt pt] (.Tuple [a, b] k2 pt2) X.env = pure (some [x, y]) := by rfl)
    (hs : swapsWithSole [.Tuple [.Name x px, .Name y py] kt pt] (.Tuple [a, b] k2 pt2) pos.line X.env = pure false := by rfl) 
    (h1 : starEach [a, b] X.env = (false, eval a X.env) :: starEach [b] X.env := by rfl) (h2 : starEach [b] X.env = (false, eval b X.env) :: starEach [] X.env := by rfl) (hwi : i ∈ W := by decide) (hwj : j ∈ W := by decide) :
    DSt X cl E W (.Assign [.Tuple [.Name x px, .Name y py] kt pt] (.Tuple [a, b] k2 pt2) pos) (sSet2 i j f g) := by
  obtain ⟨ta, pa, ha⟩ := ha
  obtain ⟨tb, pb, hb⟩ := hb
  refine ⟨_, ps_par hc hN hi hj hij hx hy (pa_cons pa (pa_cons pb pa_nil h2) h1) hw hs, fun F H σ ev fp D d m => ?_⟩
  unfold sSet2 at m
  refine keep_step (cl := cl) (E := E) ha d (fun r e0 r' e1 e es F1 H1 fp1 v tp x1 d1 pv nd => ?_) (fun k e => ?_) (fun e => ?_) (fun r e0 e es => ?_)
  · rw [e] at m
    simp only [es] at m
    have x1' := x1.fewer (fp2 := fp1) fun b h => List.mem_append_right _ h
    refine keep_step (cl := cl) (E := E) hb d1 (fun q e2 q' e3 e' es' F2 H2 fp2 v2 tp2 x2 d2 pv2 nd2 => ?_) (fun k e' => ?_) (fun e' => ?_) (fun r e0 e' es' => ?_)
    · rw [e'] at m
      simp only [es'] at m
      obtain ⟨pv1, ap⟩ := pv.evo x2 nd
      have x2' := x1.trans (x2.consL tp)
      obtain ⟨fp3, d3, s3⟩ := pv1.store d2 (List.nodup_append.mpr ⟨(List.nodup_append.mp nd).1, d2.nd, fun a ha b hb z => ap a ha (List.mem_append_right _ (by rw [z]; exact hb))⟩) i
      have nd3 : (tp2 ++ fp3).Nodup := List.nodup_append.mpr ⟨(List.nodup_append.mp nd2).1, d3.nd, fun a ha b hb z => by
        subst z
        rcases List.mem_append.mp (s3 a hb) with w | w
        · exact ap a w (List.mem_append_left _ ha)
        · exact (List.nodup_append.mp nd2).2.2 a ha a w rfl⟩
      obtain ⟨fp4, d4, s4⟩ := pv2.store d3 nd3 j
      refine ⟨v, v2, rfl, m F2 H2 _ fp4 (x2'.fewer fun b hb => ?_) d4 ((Frm.set hwi _).trans (Frm.set hwj _))⟩
      rcases List.mem_append.mp (s4 b hb) with w | w
      · exact List.mem_append_right _ (List.mem_append_left _ w)
      · rcases List.mem_append.mp (s3 b w) with z | z
        · exact List.mem_append_left _ z
        · exact List.mem_append_right _ (List.mem_append_right _ z)
    · rw [e'] at m; exact ExcOk.shift x1' m
    · rw [e'] at m; exact m
    · rw [e'] at m; simp only [es'] at m; exact m
  · rw [e] at m; exact m
  · rw [e] at m; exact m
  · rw [e] at m; simp only [es] at m; exact m

/-! ### targets -/
abbrev Bx := D → List Sl → Option (List Sl)
def DG (X : Cx) (W : List Nat) (tg : Expr) (b : Bx) : Prop := ∃ g, PG X tg g ∧ ∀ F H σ ev fp v d ev' (Q : L2.St → Hp → Prop), DS X.K F H σ ev fp → Rp X.K F v d → b d ev = some ev' → (∀ σ' fp', DS X.K F H σ' ev' fp' → (∀ a ∈ fp', a ∈ fp) → Frm W σ σ' → Q σ' H) → g v σ H Q
abbrev Bxs := List D → List Sl → Option (List Sl)
def DGs (X : Cx) (W : List Nat) (tgs : List Expr) (n : Nat) (b : Bxs) : Prop := ∃ g, PGs X tgs g ∧ (∀ ds ev ev', b ds ev = some ev' → ds.length = n) ∧ ∀ F H σ ev fp vs ds ev' (Q : L2.St → Hp → Prop), DS X.K F H σ ev fp → RpL X.K F vs ds → b ds ev = some ev' → (∀ σ' fp', DS X.K F H σ' ev' fp' → (∀ a ∈ fp', a ∈ fp) → Frm W σ σ' → Q σ' H) → g vs σ H Q
def bName (i : Nat) : Bx := fun d ev => some (ev.set i (.dat d))
def bNil : Bxs := fun ds ev => match ds with
  | [] => some ev
  | _ => none
def bCons (b : Bx) (r : Bxs) : Bxs := fun ds ev => match ds with
  | d :: ds => (match b d ev with
    | some e1 => r ds e1
    | none => none)
  | [] => none
def bTup (r : Bxs) : Bx := fun d ev => match d with
  | .tup ds => r ds ev
  | _ => none
theorem dg_name {i : Nat} {x : Str} {pos : Pos} (hN : X.N.Nodup) (hi : X.N[i]? = some x := by rfl) (hx : Loc X.env.scope x := by first | exact Or.inl rfl | exact Or.inr rfl) (hf : X.fn x = true ∨ X.env.scope.names.lookup x = some .local := by first | exact .inl rfl | exact .inr rfl | assumption) (hw : i ∈ W := by decide) : DG X W (.Name x pos) (bName i) := by
  refine ⟨_, pg_name hN hi hx hf, fun F H σ ev fp v dd ev' Q d r e h => ?_⟩
  cases e
  obtain ⟨fp', s, sl⟩ := d.sr.setDat i r
  exact h _ fp' ⟨d.sub, s, d.nd.sublist sl⟩ (fun a ha => sl.subset ha) (Frm.set hw _)
theorem dgs_nil : DGs X W [] 0 bNil := by
  refine ⟨_, pgs_nil, fun ds ev ev' h => ?_, fun F H σ ev fp vs ds ev' Q d r e h => ?_⟩
  · unfold bNil at h
    split at h
    · rfl
    · cases h
  · unfold bNil at e
    split at e
    · cases e
      cases r
      exact ⟨rfl, h σ fp d (fun a ha => ha) (Frm.refl _ _)⟩
    · cases e
theorem dgs_cons {e : Expr} {es : List Expr} {n : Nat} {b : Bx} {r : Bxs} (h1 : DG X W e b) (h2 : DGs X W es n r) (hs : (assignEach (e :: es) X.env).map (·.2) = assign e X.env :: (assignEach es X.env).map (·.2) := by rfl) : DGs X W (e :: es) (n + 1) (bCons b r) := by
  obtain ⟨g, pg, h1⟩ := h1
  obtain ⟨gs, pgs, hl, h2⟩ := h2
  refine ⟨_, pgs_cons pg pgs hs, fun ds ev ev' h => ?_, fun F H σ ev fp vs ds ev' Q d r e h => ?_⟩
  · unfold bCons at h
    split at h
    · split at h
      · rw [List.length_cons, hl _ _ _ h]
      · cases h
    · cases h
  · unfold bCons at e
    split at e
    · rename_i dd ds
      split at e
      · rename_i e1 ee
        cases r with
        | cons r t =>
        refine ⟨_, _, rfl, h1 F H σ ev fp _ dd e1 _ d r ee fun σ1 fp1 d1 s1 f1 => ?_⟩
        exact h2 F H σ1 e1 fp1 _ ds ev' Q d1 t e fun σ2 fp2 d2 s2 f2 => h σ2 fp2 d2 (fun a ha => s1 a (s2 a ha)) (f1.trans f2)
      · cases e
    · cases e
theorem dg_tup {es : List Expr} {k n : Nat} {r : Bxs} {pos : Pos} (hc : X.calm = true) (h : DGs X W es n r) (hn : (assignEach es X.env).length = n := by rfl) (hst : (assignEach es X.env).findIdx? (·.1) = none := by rfl) : DG X W (.Tuple es k pos) (bTup r) := by
  obtain ⟨g, pg, hl, h⟩ := h
  refine ⟨_, pg_tup hc pg hn hst, fun F H σ ev fp v dd ev' Q d rp e hq => ?_⟩
  unfold bTup at e
  split at e
  · rename_i ds
    cases rp with
    | tup q rs =>
    exact ⟨_, _, rfl, Sub.seqT d.sub q, by rw [rs.length]; exact hl _ _ _ e, h F H σ ev fp _ ds ev' Q d rs e hq⟩
  · cases e
/-- target = e -/
def sAsg (b : Bx) (f : Ex) : Sx := fun ev => match f ev with
  | .ok r e0 => (match stoR r e0 with
    | .ok d e1 => (match b d e1 with
      | some e2 => .nx e2
      | none => .stuck)
    | _ => .stuck)
  | .exc k => .exc k
  | .stuck => .stuck
theorem ds_asg {tg e : Expr} {f : Ex} {b : Bx} {pos : Pos} (h : DE X cl E e f) (hg : DG X W tg b) (hs : swapsWithSole [tg] e pos.line X.env = pure false := by rfl) (hw : swappedStores [tg] e X.env = pure none := by rfl)
    (h1 : (assignEach [tg] X.env).map (·.2) = [assign tg X.env] := by rfl) : DSt X cl E W (.Assign [tg] e pos) (sAsg b f) := by
  obtain ⟨t, p, h⟩ := h
  obtain ⟨g, pg, hg⟩ := hg
  refine ⟨_, ps_asg p pg hs hw h1, fun F H σ ev fp D d m => ?_⟩
  unfold sAsg at m
  refine sto_step (cl := cl) (E := E) h d (fun r e0 dd e1 e es F1 H1 fp1 v x1 d1 rp => ?_) (fun k e => ?_) (fun e => ?_) (fun r e0 e => ?_)
  · rw [e] at m
    simp only [es] at m
    split at m
    · rename_i e2 eb
      exact hg F1 H1 σ e1 fp1 v dd e2 _ d1 rp eb fun σ' fp' d' s' f' => m F1 H1 σ' fp' (x1.fewer s') d' f'
    · exact m.elim
  · rw [e] at m; exact m
  · rw [e] at m; exact m
  · rw [e] at m
    cases es : stoR r e0 with
    | stuck => simp only [es] at m; exact m.elim
    | exc k => exact absurd es stoR_exc
    | ok dd e1 => exact ⟨dd, e1, rfl⟩
/-- return -/
def sRet (f : Ex) : Sx := fun ev => match f ev with
  | .ok (.bor i) e0 => (match e0[i]? with
    | some (.own o) => .rt (.tmp o) (e0.set i .un)
    | _ => .stuck)
  | .ok r e0 => .rt r e0
  | .exc k => .exc k
  | .stuck => .stuck
theorem SR.move {K : PySem.W.Frag} {F H : Hp} {σ : L2.St} {ev : List Sl} {fp : List Addr} (s : SR K F H σ ev fp) (nd : fp.Nodup) {a : Addr} {o : O} : ∀ {i : Nat}, σ[i]? = some (some (.ref a)) → ev[i]? = some (.own o) → ∃ fp', SR K F H σ (ev.set i .un) fp' ∧ (a :: fp').Nodup ∧ ∀ b ∈ fp', b ∈ fp := by
  induction s with
  | @tabd v' d' a' σ ev fp r t nn h ih =>
    intro i e q
    have nd2 := List.nodup_cons.mp nd
    cases i with
    | zero => simp at q
    | succ i =>
      have e' : σ[i]? = some (some (.ref a)) := by simpa using e
      have q' : ev[i]? = some (.own o) := by simpa using q
      have ne : a' ≠ a := fun z => by
        obtain ⟨a2, e2, _, _, m⟩ := h.getOwn q'
        rw [e'] at e2
        injection e2 with e2; injection e2 with e2; injection e2 with e2
        subst e2
        exact nd2.1 (by rw [z]; exact m)
      obtain ⟨fp', x, y, z⟩ := ih nd2.2 e' q'
      have y2 := List.nodup_cons.mp y
      refine ⟨a' :: fp', .tabd r t nn x, List.nodup_cons.mpr ⟨fun w => ?_, List.nodup_cons.mpr ⟨fun w => nd2.1 (z _ w), y2.2⟩⟩, fun b hb => ?_⟩
      · rcases List.mem_cons.mp w with k | k
        · exact ne k.symm
        · exact y2.1 k
      · rcases List.mem_cons.mp hb with k | k
        · rw [k]; exact List.mem_cons_self
        · exact List.mem_cons_of_mem _ (z b k)
  | nil => intro i h; simp at h
  | un h ih =>
    intro i e q
    cases i with
    | zero => simp at q
    | succ i => obtain ⟨fp', x, y, z⟩ := ih nd (i := i) (by simpa using e) (by simpa using q); exact ⟨fp', .un x, y, z⟩
  | dat r h ih =>
    intro i e q
    cases i with
    | zero => simp at q
    | succ i => obtain ⟨fp', x, y, z⟩ := ih nd (i := i) (by simpa using e) (by simpa using q); exact ⟨fp', .dat r x, y, z⟩
  | @own a' o0 σ ev fp r f h ih =>
    intro i e q
    have nd2 := List.nodup_cons.mp nd
    cases i with
    | zero =>
      simp at e q
      subst e q
      exact ⟨fp, .un h, nd, fun b hb => List.mem_cons_of_mem _ hb⟩
    | succ i =>
      have e' : σ[i]? = some (some (.ref a)) := by simpa using e
      have q' : ev[i]? = some (.own o) := by simpa using q
      have ne : a' ≠ a := fun z => by
        obtain ⟨a2, e2, _, _, m⟩ := h.getOwn q'
        rw [e'] at e2
        injection e2 with e2; injection e2 with e2; injection e2 with e2
        subst e2
        exact nd2.1 (by rw [z]; exact m)
      obtain ⟨fp', x, y, z⟩ := ih nd2.2 e' q'
      have y2 := List.nodup_cons.mp y
      refine ⟨a' :: fp', .own r f x, List.nodup_cons.mpr ⟨fun w => ?_, List.nodup_cons.mpr ⟨fun w => nd2.1 (z _ w), y2.2⟩⟩, fun b hb => ?_⟩
      · rcases List.mem_cons.mp w with k | k
        · exact ne k.symm
        · exact y2.1 k
      · rcases List.mem_cons.mp hb with k | k
        · rw [k]; exact List.mem_cons_self
        · exact List.mem_cons_of_mem _ (z b k)
theorem ds_ret {e : Expr} {f : Ex} {pos : Pos} (h : DE X cl E e f) : DSt X cl E W (.Return (some e) pos) (sRet f) := by
  obtain ⟨t, p, h⟩ := h
  refine ⟨_, ps_ret p, fun F H σ ev fp D d m => h F H σ ev fp _ d ?_⟩
  unfold sRet at m
  cases e : f ev with
  | stuck => rw [e] at m; exact m
  | exc k => rw [e] at m; exact m
  | ok r e1 =>
    rw [e] at m
    intro F1 H1 fp1 v tp x1 d1 rv nd
    cases rv with
    | dat r => exact m F1 H1 σ fp1 v [] x1 d1 (Frm.refl _ _) (.dat r) nd
    | tmp o f => exact m F1 H1 σ fp1 _ _ x1 d1 (Frm.refl _ _) (.tmp o f) nd
    | @bor a i o q eo =>
      simp only [eo] at m
      obtain ⟨a2, q2, w, f, mm⟩ := d1.sr.getOwn eo
      rw [q] at q2
      injection q2 with q2; injection q2 with q2; injection q2 with q2
      subst q2
      obtain ⟨fp2, s2, n2, m2⟩ := d1.sr.move d1.nd q eo
      refine m F1 H1 σ fp2 _ [a] (x1.fewer fun b hb => ?_) ⟨d1.sub, s2, (List.nodup_cons.mp n2).2⟩ (Frm.refl _ _) (.tmp w f) n2
      rcases List.mem_cons.mp hb with k | k
      · rw [k]; exact mm
      · exact m2 b k
def sRetN : Sx := fun ev => .rt (.dat .non) ev
theorem ds_retN {pos : Pos} : DSt X cl E W (.Return none pos) sRetN := ⟨_, ps_retN, fun F H σ ev fp D d m => m F H σ fp _ [] (Evo.refl _ _ _) d (Frm.refl _ _) (.dat .non) d.nd⟩

/-! ### found.append(e), xs[i] = e at a name's own list -/
def sApp (i : Nat) (f : Ex) : Sx := fun ev => match ev[i]? with
  | some (.own (.lst _)) => (match f ev with
    | .ok r e0 => (match stoR r e0 with
      | .ok d e1 => (match e1[i]? with
        | some (.own (.lst xs)) => if xs.length < lim then .nx (e1.set i (.own (.lst (xs ++ [d])))) else .stuck
        | _ => .stuck)
      | _ => .stuck)
    | .exc k => .exc k
    | .stuck => .stuck)
  | _ => .stuck
theorem DS.write {K : PySem.W.Frag} {F H : Hp} {σ : L2.St} {ev : List Sl} {fp : List Addr} (d : DS K F H σ ev fp) {i : Nat} {a : Addr} {o o' : O} {u : HO} (e : σ[i]? = some (some (.ref a))) (q : ev[i]? = some (.own o)) (w : OwnAt K F (upd H a u) a o') : DS K F (upd H a u) σ (ev.set i (.own o')) fp ∧ Evo F H fp F (upd H a u) fp := by
  obtain ⟨a2, q2, _, f, mm⟩ := d.sr.getOwn q
  rw [e] at q2
  injection q2 with q2; injection q2 with q2; injection q2 with q2
  subst q2
  refine ⟨⟨fun b o r => ?_, d.sr.write d.nd w e ⟨o, q⟩, d.nd⟩, ⟨fun b o h n => ?_, Grow.refl _, fun b o h f n => f, fun b h => .inl h⟩⟩
  · have ne : b ≠ a := fun z => by
      subst z
      rcases r with r | ⟨w, r⟩ <;> rw [f] at r <;> cases r
    rcases d.sub b o r with z | ⟨y, z⟩
    · exact .inl (by rw [upd_ne ne]; exact z)
    · exact .inr ⟨y, by rw [upd_ne ne]; exact z⟩
  · rw [upd_ne (fun z => n (by rw [z]; exact mm))]; exact h
theorem ds_append {i : Nat} {x : Str} {e : Expr} {f : Ex} {p1 p2 p3 pos : Pos} (h : DE X cl E e f) (hN : X.N[i]? = some x := by rfl) (hv : Vis X.env.scope x := by first | exact Or.inl rfl | exact Or.inr (Or.inl rfl) | exact Or.inr (Or.inr rfl)) (hd : (x == ("__debug__" : Str)) = false := by decide)
    (hcd : (x == ("__classdict__" : Str)) = false := by decide)
    (pe : ∀ (ta te : TE), PE X (.Name x p1) ta → PE X e te → PE X (.Call (.Attribute (.Name x p1) "append" p2) [e] [] p3) (tBM X.K "list" rAppend ta (tCons te tNil)))
    (hs : swapsWith (.Call (.Attribute (.Name x p1) "append" p2) [e] [] p3) none pos.line X.env = pure false := by rfl) :
    DSt X cl E W (.Expr (.Call (.Attribute (.Name x p1) "append" p2) [e] [] p3) pos) (sApp i f) := by
  obtain ⟨t, p, h⟩ := h
  refine ⟨_, ps_expr (pe _ _ (pe_var hN hv hd hcd) p) hs, fun F H σ ev fp D d m => ?_⟩
  unfold sApp at m
  split at m
  · rename_i ys eo
    obtain ⟨a, q, w, fa, mm⟩ := d.sr.getOwn eo
    have hty : tyV X.K "list" (.ref a) H := by
      obtain ⟨vs, hv, _⟩ := w
      exact Or.inl ⟨rfl, _, SqL.of hv⟩
    refine ⟨.ref a, q, hty, ?_⟩
    refine sto_step (cl := cl) (E := E) h d (fun r e0 dd e1 e es F1 H1 fp1 v x1 d1 rp => ?_) (fun k e => ?_) (fun e => ?_) (fun r e0 e => ?_)
    · rw [e] at m
      simp only [es] at m
      split at m
      · rename_i xs ex
        split at m
        · rename_i hl
          obtain ⟨a2, q2, ⟨vs, hv, rs⟩, f2, mm2⟩ := d1.sr.getOwn ex
          rw [q] at q2
          injection q2 with q2; injection q2 with q2; injection q2 with q2
          subst q2
          obtain ⟨d2, x2⟩ := d1.write (o' := .lst (xs ++ [dd])) (u := .lst (vs ++ [v])) q ex ⟨_, upd_same, rs.append (.one rp)⟩
          exact ⟨a, vs, v, rfl, rfl, hv, lim_lt (by rw [rs.length]; exact Nat.le_of_lt hl), m F1 _ σ fp1 (x1.trans x2) d2 (Frm.refl _ _)⟩
        · exact m.elim
      · exact m.elim
    · rw [e] at m; exact m
    · rw [e] at m; exact m
    · rw [e] at m
      cases es : stoR r e0 with
      | stuck => simp only [es] at m; exact m.elim
      | exc k => exact absurd es stoR_exc
      | ok dd e1 => exact ⟨dd, e1, rfl⟩
  · exact m.elim
/-- xs[i] = e at a name's own list -/
def sSetIx (j : Nat) (ix f : Ex) : Sx := fun ev => match f ev with
  | .ok r e0 => (match stoR r e0 with
    | .ok d e1 => (match e1[j]? with
      | some (.own (.lst _)) => (match ix e1 with
        | .ok (.dat (.int k)) e2 => (match e2[j]? with
          | some (.own (.lst xs)) => (match ixN xs.length k with
            | some n => .nx (e2.set j (.own (.lst (xs.set n d))))
            | none => .stuck)
          | _ => .stuck)
        | .exc k => .exc k
        | _ => .stuck)
      | _ => .stuck)
    | _ => .stuck)
  | .exc k => .exc k
  | .stuck => .stuck
theorem ds_setix {j : Nat} {x : Str} {e ie : Expr} {f ix : Ex} {p1 p2 pos : Pos} (h : DE X cl E e f) (hix : DE X cl E ie ix) (hN : X.N[j]? = some x := by rfl) (hv : Vis X.env.scope x := by first | exact Or.inl rfl | exact Or.inr (Or.inl rfl) | exact Or.inr (Or.inr rfl)) (hd : (x == ("__debug__" : Str)) = false := by decide)
    (hcd : (x == ("__classdict__" : Str)) = false := by decide)
    (hs : swapsWithSole [.Subscript (.Name x p1) ie p2] e pos.line X.env = pure false := by rfl) (hw : swappedStores [.Subscript (.Name x p1) ie p2] e X.env = pure none := by rfl)
    (h1 : (assignEach [.Subscript (.Name x p1) ie p2] X.env).map (·.2) = [assign (.Subscript (.Name x p1) ie p2) X.env] := by rfl)
    (ha : ∀ v, assign (.Subscript (.Name x p1) ie p2) X.env v = (do
      let ov ← holding [v] (eval (.Name x p1) X.env)
      let iv ← holding [v, ov] (eval ie X.env)
      standAt p2
      holding [v, ov, iv] (setItem ov iv v)
      release [v, ov, iv] []) := by intro _; rfl) : DSt X cl E W (.Assign [.Subscript (.Name x p1) ie p2] e pos) (sSetIx j ix f) := by
  obtain ⟨t, p, h⟩ := h
  obtain ⟨ti, pix, hix⟩ := hix
  refine ⟨_, ps_asg p (pg_sub (pe_var hN hv hd hcd) pix set_list ha) hs hw h1, fun F H σ ev fp D d m => ?_⟩
  unfold sSetIx at m
  refine sto_step (cl := cl) (E := E) h d (fun r e0 dd e1 e es F1 H1 fp1 v x1 d1 rp => ?_) (fun k e => ?_) (fun e => ?_) (fun r e0 e => ?_)
  · rw [e] at m
    simp only [es] at m
    split at m
    · rename_i ys eo
      obtain ⟨a, q, w, fa, mm⟩ := d1.sr.getOwn eo
      refine ⟨.ref a, q, ?_⟩
      refine hix F1 H1 σ e1 fp1 _ d1 ?_
      cases ei : ix e1 with
      | stuck => rw [ei] at m; exact m
      | exc k => rw [ei] at m; exact ExcOk.shift x1 m
      | ok ri e2 =>
      rw [ei] at m
      intro F2 H2 fp2 vi tp x2 d2 rv nd
      split at m
      · rename_i k e3 ek
        cases ek
        cases rv with
        | dat rr =>
        cases rr
        split at m
        · rename_i xs ex
          split at m
          · rename_i n en
            obtain ⟨a2, q2, ⟨vs, hv, rs⟩, f2, mm2⟩ := d2.sr.getOwn ex
            rw [q] at q2
            injection q2 with q2; injection q2 with q2; injection q2 with q2
            subst q2
            obtain ⟨d3, x3⟩ := d2.write (o' := .lst (xs.set n dd)) (u := .lst (vs.set n v)) q ex ⟨_, upd_same, rs.set (rp.mono fun _ _ => x2.grow.rd) n⟩
            exact ⟨a, vs, k, n, rfl, rfl, hv, by rw [rs.length]; exact en, m F2 _ σ fp2 ((x1.trans x2).trans x3) d3 (Frm.refl _ _)⟩
          · exact m.elim
        · exact m.elim
      · rename_i ek; cases ek
      · exact m.elim
    · exact m.elim
  · rw [e] at m; exact m
  · rw [e] at m; exact m
  · rw [e] at m
    cases es : stoR r e0 with
    | stuck => simp only [es] at m; exact m.elim
    | exc k => exact absurd es stoR_exc
    | ok dd e1 => exact ⟨dd, e1, rfl⟩
end
end GW

set_option Elab.async false
set_option linter.all false
set_option maxRecDepth 100000
namespace GW
open PySem PySem.Spec L2

/-! ### what is walked -/
structure Itr' (K : PySem.W.Frag) (F H : Hp) (fp : List Addr) (items : List D) (J : It) : Prop where
  ex : ∃ (G : Hp → Prop) (Y : Nat → Hp → V → Hp → Prop), Walk J items.length G Y ∧ (∀ F2 H2 fp2, Evo F H fp F2 H2 fp2 → Sub F2 H2 → G H2) ∧
    ∀ i F2 H2 fp2 x H3, i < items.length → Evo F H fp F2 H2 fp2 → Sub F2 H2 → Y i H2 x H3 → ∃ F3 d, items[i]? = some d ∧ Ext F2 H2 F3 H3 ∧ Rp K F3 x d
def MeetI (K : PySem.W.Frag) (cl : Cls) (E : XK) (σ : L2.St) (F0 H0 : Hp) (fp0 : List Addr) (R : It → Hp → Prop) : Out (List D) → Prop
  | .ok items ev => ∀ F H fp J, Evo F0 H0 fp0 F H fp → DS K F H σ ev fp → Itr' K F H fp items J → R J H
  | .exc k => ExcOk cl E H0 fp0 k
  | .stuck => False
abbrev Ix := List Sl → Out (List D)
def DI (X : Cx) (cl : Cls) (E : XK) (tg iter : Expr) (f : Ix) : Prop := ∃ wi, PI X tg iter wi ∧ ∀ F H σ ev fp R, DS X.K F H σ ev fp → MeetI X.K cl E σ F H fp R (f ev) → wi σ H R
theorem PI.or {X : Cx} {tg it : Expr} {w1 w2 : TI} (a : PI X tg it w1) (b : PI X tg it w2) : PI X tg it (fun σ H R => w1 σ H R ∨ w2 σ H R) :=
  ⟨fun pins s σ H R I h => h.elim (a.run pins s σ H R I) (b.run pins s σ H R I)⟩
/-- a list or a tuple -/
def iSeq (f : Ex) : Ix := fun ev => match f ev with
  | .ok r e0 => (match stoR r e0 with
    | .ok (.lst xs) e1 => .ok xs e1
    | .ok (.tup xs) e1 => .ok xs e1
    | _ => .stuck)
  | .exc k => .exc k
  | .stuck => .stuck
theorem walk_rp {K : PySem.W.Frag} {F H : Hp} {fp : List Addr} {xs : List D} {vs : List V} {J : It} {G : Hp → Prop} (r : RpL K F vs xs) (w : Walk J vs.length G (YAt vs)) (hg : ∀ F2 H2 fp2, Evo F H fp F2 H2 fp2 → Sub F2 H2 → G H2) : Itr' K F H fp xs J := by
  refine ⟨G, YAt vs, by rw [← r.length]; exact w, hg, fun i F2 H2 fp2 x H3 hi ev s y => ?_⟩
  obtain ⟨e1, e2⟩ := y
  subst e1
  obtain ⟨d, h1, h2⟩ := r.getV e2
  exact ⟨F2, d, h1, Ext.refl s, h2.mono fun _ _ => ev.grow.rd⟩
section
variable {X : Cx} {cl : Cls} {E : XK} {W : List Nat} {tg : Expr}
theorem di_seq {e : Expr} {f : Ex} (h : DE X cl E e f) : DI X cl E tg e (iSeq f) := by
  obtain ⟨t, p, h⟩ := h
  refine ⟨_, PI.or (pi_list p) (pi_tup p), fun F H σ ev fp R d m => ?_⟩
  unfold iSeq at m
  have go : ∀ (k : V → Hp → Prop), (∀ r e0 dd e1, f ev = .ok r e0 → stoR r e0 = .ok dd e1 → ∀ F1 H1 fp1 v, Evo F H fp F1 H1 fp1 → DS X.K F1 H1 σ e1 fp1 → Rp X.K F1 v dd → k v H1) → t σ H k := fun k hk => by
    refine sto_step (cl := cl) (E := E) h d hk (fun k e => ?_) (fun e => ?_) (fun r e0 e => ?_)
    · rw [e] at m; exact m
    · rw [e] at m; exact m
    · rw [e] at m
      cases es : stoR r e0 with
      | stuck => simp only [es] at m; exact m.elim
      | exc k => exact absurd es stoR_exc
      | ok dd e1 => exact ⟨dd, e1, rfl⟩
  cases e : f ev with
  | stuck => rw [e] at m; exact m.elim
  | exc k => rw [e] at m; exact .inl (go _ fun r e0 dd e1 e' => by rw [e] at e'; cases e')
  | ok r e0 =>
  rw [e] at m
  cases es : stoR r e0 with
  | stuck => simp only [es] at m; exact m.elim
  | exc k => exact absurd es stoR_exc
  | ok dd e1 =>
  simp only [es] at m
  cases dd with
  | lst xs =>
    refine .inl (go _ fun r' e0' dd' e1' e' es' F1 H1 fp1 v x1 d1 rp => ?_)
    rw [e] at e'; cases e'
    rw [es] at es'; cases es'
    cases rp with
    | lst q rs => exact ⟨_, rfl, ⟨_, Sub.seqL d1.sub q⟩, m F1 H1 fp1 _ x1 d1 (walk_rp rs walk_list fun F2 H2 fp2 ev s => Sub.seqL s (Sub.seqL (fun _ _ => ev.grow.rd) q))⟩
  | tup xs =>
    refine .inr (go _ fun r' e0' dd' e1' e' es' F1 H1 fp1 v x1 d1 rp => ?_)
    rw [e] at e'; cases e'
    rw [es] at es'; cases es'
    cases rp with
    | tup q rs => exact ⟨_, rfl, ⟨_, Sub.seqT d1.sub q⟩, m F1 H1 fp1 _ x1 d1 (walk_rp rs walk_tup fun F2 H2 fp2 ev s => Sub.seqT s (Sub.seqT (fun _ _ => ev.grow.rd) q))⟩
  | _ => exact m.elim
/-! ranges -/
def rangeD (lo : Int) (n : Nat) : List D := (List.range n).map fun i => .int (lo + (i : Nat))
theorem rangeD_len {lo : Int} {n : Nat} : (rangeD lo n).length = n := by simp [rangeD]
theorem rangeD_get {lo : Int} {n i : Nat} (h : i < n) : (rangeD lo n)[i]? = some (.int (lo + (i : Nat))) := by simp [rangeD, h]
theorem walk_rng {K : PySem.W.Frag} {F H : Hp} {fp : List Addr} {lo : Int} {n : Nat} : Itr' K F H fp (rangeD lo n) (Itr lo n) := by
  refine ⟨fun _ => True, YFn fun i => .int (lo + i), by rw [rangeD_len]; exact walk_range, fun _ _ _ _ _ => trivial, fun i F2 H2 fp2 x H3 hi ev s y => ?_⟩
  obtain ⟨e1, e2⟩ := y
  subst e1 e2
  rw [rangeD_len] at hi
  exact ⟨F2, _, rangeD_get hi, Ext.refl s, .int _⟩
def okI (i : Int) : Bool := decide (-4611686018427387904 ≤ i) && decide (i < 4611686018427387904)
def iRange1 (f : Ex) : Ix := fun ev => (argsO [f] ev).bind fun rs e1 => match rs with
  | [.dat (.int j)] => if okI j = true then .ok (rangeD 0 j.toNat) e1 else .stuck
  | _ => .stuck
def iRange2 (f g : Ex) : Ix := fun ev => (argsO [f, g] ev).bind fun rs e1 => match rs with
  | [.dat (.int i), .dat (.int j)] => if okI i = true ∧ okI j = true then .ok (rangeD i (j - i).toNat) e1 else .stuck
  | _ => .stuck
theorem di_range1 {a : Expr} {f : Ex} {p pos : Pos} (hg : Gl X "range") (hm : X.mg "range" = none) (ha : DA X cl E [a] [f]) (hs : starEach [a] X.env = [(false, eval a X.env)] := by rfl) : DI X cl E tg (.Call (.Name "range" p) [a] [] pos) (iRange1 f) := by
  obtain ⟨t, pa, ha⟩ := ha
  refine ⟨_, pi_range1 hg hm pa hs, fun F H σ ev fp R d m => ha F H σ ev fp _ d ?_⟩
  unfold iRange1 at m
  cases e : argsO [f] ev with
  | stuck => rw [e] at m; exact m
  | exc k => rw [e] at m; exact m
  | ok rs e1 =>
    rw [e] at m
    simp only [Out.bind_ok] at m
    intro F1 H1 fp1 vs x1 d1 rv
    split at m
    · split at m
      · rename_i j hj
        cases rv with
        | dat r t =>
        cases t
        cases r
        unfold okI at hj
        simp only [Bool.and_eq_true, decide_eq_true_eq] at hj
        exact ⟨j, rfl, hj.1, hj.2, m F1 H1 fp1 _ x1 d1 walk_rng⟩
      · exact m.elim
    · exact m.elim
theorem di_range2 {a b : Expr} {f g : Ex} {p pos : Pos} (hg : Gl X "range") (hm : X.mg "range" = none) (ha : DA X cl E [a, b] [f, g]) (hs : starEach [a, b] X.env = [(false, eval a X.env), (false, eval b X.env)] := by rfl) (hs2 : starEach [b] X.env = [(false, eval b X.env)] := by rfl) :
    DI X cl E tg (.Call (.Name "range" p) [a, b] [] pos) (iRange2 f g) := by
  obtain ⟨t, pa, ha⟩ := ha
  refine ⟨_, pi_range2 hg hm pa hs hs2, fun F H σ ev fp R d m => ha F H σ ev fp _ d ?_⟩
  unfold iRange2 at m
  cases e : argsO [f, g] ev with
  | stuck => rw [e] at m; exact m
  | exc k => rw [e] at m; exact m
  | ok rs e1 =>
    rw [e] at m
    simp only [Out.bind_ok] at m
    intro F1 H1 fp1 vs x1 d1 rv
    split at m
    · split at m
      · rename_i i j hj
        cases rv with
        | dat r t =>
        cases t with
        | dat r' t =>
        cases t
        cases r
        cases r'
        unfold okI at hj
        simp only [Bool.and_eq_true, decide_eq_true_eq] at hj
        exact ⟨i, j, rfl, ⟨hj.1.1, hj.1.2, hj.2.1, hj.2.2⟩, m F1 H1 fp1 _ x1 d1 walk_rng⟩
      · exact m.elim
    · exact m.elim

/-! ### for -/
def forS (b : Bx) (body : Sx) : List D → List Sl → SOut
  | [], ev => .nx ev
  | x :: xs, ev => match b x ev with
    | none => .stuck
    | some e1 => match body e1 with
      | .nx e2 => forS b body xs e2
      | .ct e2 => forS b body xs e2
      | .bk e2 => .nx e2
      | o => o
def sFor (f : Ix) (b : Bx) (body : Sx) : Sx := fun ev => match f ev with
  | .ok items e1 => forS b body items e1
  | .exc k => .exc k
  | .stuck => .stuck
theorem ds_for {iter : Expr} {body : List Stmt} {f : Ix} {b : Bx} {s : Sx} {pos : Pos} (hp : PassesOwn (model X.prog X.w) X.A X.env X.xe) (hc : X.calm = true) (hi : DI X cl E tg iter f) (hg : DG X W tg b) (hb : DSs X cl E W body s)
    (hs : ∀ x, foldedSetIterable iter X.env x = pure x := by intro _; rfl) : DSt X cl E W (.For tg iter body [] pos) (sFor f b s) := by
  obtain ⟨wi, pi, hi⟩ := hi
  obtain ⟨g, pg, hg⟩ := hg
  obtain ⟨tb, pb, hb⟩ := hb
  refine ⟨_, ps_for hp hc pi pg pb hs, fun F H σ ev fp D d m => hi F H σ ev fp _ d ?_⟩
  unfold sFor at m
  cases e : f ev with
  | stuck => rw [e] at m; exact m
  | exc k => rw [e] at m; exact m
  | ok items e1 =>
  rw [e] at m
  intro F1 H1 fp1 J x1 d1 it
  obtain ⟨G, Y, w, hG, hY⟩ := it.ex
  refine for_it w (fun i σ' H' => ∃ F' ev' fp', DS X.K F' H' σ' ev' fp' ∧ Evo F1 H1 fp1 F' H' fp' ∧ Frm W σ σ' ∧ MeetS X.K cl E W σ F H fp D (forS b s (items.drop i) ev')) ⟨F1, e1, fp1, d1, Evo.refl _ _ _, Frm.refl _ _, m⟩ ?_ ?_ ?_
  · rintro i σ' H' hi ⟨F', ev', fp', d', x', f', m'⟩
    exact hG F' H' fp' x' d'.sub
  · rintro i x σ' H' H3 hi ⟨F', ev', fp', d', x', f', m'⟩ y
    obtain ⟨F3, dd, hd, ex, rp⟩ := hY i F' H' fp' x H3 hi x' d'.sub y
    have hdrop : items.drop i = dd :: items.drop (i + 1) := by
      have hlt := hi
      rw [List.drop_eq_getElem_cons hlt]
      have : items[i] = dd := by
        rw [List.getElem?_eq_getElem hlt] at hd
        exact Option.some.inj hd
      rw [this]
    rw [hdrop] at m'
    unfold forS at m'
    cases eb : b dd ev' with
    | none => rw [eb] at m'; exact m'.elim
    | some e2 =>
    rw [eb] at m'
    have d3 := d'.ext ex
    refine hg F3 H3 σ' ev' fp' x dd e2 _ d3 rp eb fun σ2 fp2 d2 s2 f2 => ?_
    have x2 : Evo F1 H1 fp1 F3 H3 fp2 := (x'.trans (ex.evo fp')).fewer s2
    have f22 := f'.trans f2
    refine hb F3 H3 σ2 e2 fp2 _ d2 ?_
    cases es : s e2 with
    | nx e3 =>
      simp only [es] at m'
      exact fun F4 H4 σ4 fp4 x4 d4 f4 => ⟨F4, e3, fp4, d4, x2.trans x4, f22.trans f4, m'⟩
    | ct e3 =>
      simp only [es] at m'
      exact fun F4 H4 σ4 fp4 x4 d4 f4 => ⟨F4, e3, fp4, d4, x2.trans x4, f22.trans f4, m'⟩
    | bk e3 =>
      simp only [es] at m'
      exact fun F4 H4 σ4 fp4 x4 d4 f4 => m' F4 H4 σ4 fp4 (x1.trans (x2.trans x4)) d4 (f22.trans f4)
    | rt r e3 =>
      simp only [es] at m'
      exact fun F4 H4 σ4 fp4 v tp x4 d4 f4 rv nd => m' F4 H4 σ4 fp4 v tp (x1.trans (x2.trans x4)) d4 (f22.trans f4) rv nd
    | exc k =>
      simp only [es] at m'
      exact ExcOk.shift (x1.trans x2) m'
    | stuck =>
      simp only [es] at m'
      exact m'
  · rintro σ' H' ⟨F', ev', fp', d', x', f', m'⟩
    rw [List.drop_length] at m'
    exact m' F' H' σ' fp' (x1.trans x') d' f'

/-! ### while -/
def whileS (c : Tx) (body : Sx) : Nat → List Sl → SOut
  | 0, _ => .stuck
  | n + 1, ev => match c ev with
    | .ok true e1 => (match body e1 with
      | .nx e2 => whileS c body n e2
      | .ct e2 => whileS c body n e2
      | .bk e2 => .nx e2
      | o => o)
    | .ok false e1 => .nx e1
    | .exc k => .exc k
    | .stuck => .stuck
def sWhile (n : Nat) (c : Tx) (body : Sx) : Sx := whileS c body n
theorem ds_while {c : Expr} {body : List Stmt} {fc : Tx} {s : Sx} {pos : Pos} (n : Nat) (hp : PassesOwn (model X.prog X.w) X.A X.env X.xe) (hc : DT X cl E c fc) (hb : DSs X cl E W body s) : DSt X cl E W (.While c body [] pos) (sWhile n fc s) := by
  obtain ⟨tc, pc, hc⟩ := hc
  obtain ⟨tb, pb, hb⟩ := hb
  refine ⟨_, ps_while hp pc pb, fun F H σ ev fp D d m => ?_⟩
  refine ⟨fun k σ' H' => ∃ F' ev' fp', DS X.K F' H' σ' ev' fp' ∧ Evo F H fp F' H' fp' ∧ Frm W σ σ' ∧ MeetS X.K cl E W σ F H fp D (whileS fc s k ev'), ⟨n, F, ev, fp, d, Evo.refl _ _ _, Frm.refl _ _, m⟩, ?_⟩
  rintro k σ' H' ⟨F', ev', fp', d', x', f', m'⟩
  cases k with
  | zero => exact m'.elim
  | succ k =>
  unfold whileS at m'
  refine hc F' H' σ' ev' fp' _ d' ?_
  cases e : fc ev' with
  | stuck => rw [e] at m'; exact m'
  | exc k => rw [e] at m'; exact ExcOk.shift x' m'
  | ok b e1 =>
  rw [e] at m'
  intro F1 H1 fp1 x1 d1
  have x2 := x'.trans x1
  cases b with
  | false =>
    simp only [Bool.false_eq_true, if_false]
    exact m' F1 H1 σ' fp1 x2 d1 f'
  | true =>
    simp only [if_true]
    refine ⟨fun σ' H' => ∃ F' ev' fp', DS X.K F' H' σ' ev' fp' ∧ Evo F H fp F' H' fp' ∧ Frm W σ σ' ∧ MeetS X.K cl E W σ F H fp D (whileS fc s k ev'), fun σ' H' h => ⟨k, Nat.lt_succ_self k, h⟩, ?_⟩
    refine hb F1 H1 σ' e1 fp1 _ d1 ?_
    cases es : s e1 with
    | nx e3 =>
      simp only [es] at m'
      exact fun F4 H4 σ4 fp4 x4 d4 f4 => ⟨F4, e3, fp4, d4, x2.trans x4, f'.trans f4, m'⟩
    | ct e3 =>
      simp only [es] at m'
      exact fun F4 H4 σ4 fp4 x4 d4 f4 => ⟨F4, e3, fp4, d4, x2.trans x4, f'.trans f4, m'⟩
    | bk e3 =>
      simp only [es] at m'
      exact fun F4 H4 σ4 fp4 x4 d4 f4 => m' F4 H4 σ4 fp4 (x2.trans x4) d4 (f'.trans f4)
    | rt r e3 =>
      simp only [es] at m'
      exact fun F4 H4 σ4 fp4 v tp x4 d4 f4 rv nd => m' F4 H4 σ4 fp4 v tp (x2.trans x4) d4 (f'.trans f4) rv nd
    | exc k =>
      simp only [es] at m'
      exact ExcOk.shift x2 m'
    | stuck =>
      simp only [es] at m'
      exact m'
end

/-! ### comprehensions -/
def wipeE (ev : List Sl) : List Nat → List Sl
  | [] => ev
  | v :: vs => (wipeE ev vs).set v .un
theorem DS.wipe {K : PySem.W.Frag} {F H : Hp} {σ : L2.St} {ev : List Sl} {fp : List Addr} (d : DS K F H σ ev fp) : ∀ vs : List Nat, ∃ fp', DS K F H (L2.wipe σ vs) (wipeE ev vs) fp' ∧ ∀ b ∈ fp', b ∈ fp
  | [] => ⟨fp, d, fun b h => h⟩
  | v :: vs => by
    obtain ⟨fp1, d1, s1⟩ := DS.wipe d vs
    obtain ⟨fp2, s2, sl⟩ := d1.sr.forget v none
    exact ⟨fp2, ⟨d1.sub, s2, d1.nd.sublist sl⟩, fun b hb => s1 b (sl.subset hb)⟩
theorem wipe_get {σ : L2.St} {i : Nat} : ∀ (vs : List Nat), (L2.wipe σ vs)[i]? = if i ∈ vs then (if i < σ.length then some none else none) else σ[i]?
  | [] => by simp [L2.wipe]
  | v :: vs => by
    unfold L2.wipe
    by_cases e : v = i
    · subst e
      rw [List.getElem?_set_self', wipe_get vs]
      by_cases h : v < σ.length <;> by_cases h2 : v ∈ vs <;> simp [h, h2]
    · rw [List.getElem?_set_ne e, wipe_get vs]
      have : i ≠ v := fun z => e z.symm
      simp [this]
theorem wipe_frm {σ σ2 : L2.St} {vs : List Nat} (hl : σ2.length = σ.length) (f : Frm vs (L2.wipe σ vs) σ2) : L2.wipe σ2 vs = L2.wipe σ vs := by
  apply List.ext_getElem?
  intro i
  rw [wipe_get, wipe_get]
  by_cases h : i ∈ vs
  · simp [h, hl]
  · simp only [h, if_false]
    rw [f.get i h, wipe_get]
    simp [h]
theorem SR.unwipe {K : PySem.W.Frag} {F H : Hp} {ev : List Sl} {fp : List Addr} : ∀ (vs : List Nat) {σ σ' : L2.St}, SR K F H σ ev fp → σ'.length = σ.length → (∀ i, i ∉ vs → σ'[i]? = σ[i]?) → ∃ fp', SR K F H σ' (wipeE ev vs) fp' ∧ fp'.Sublist fp
  | [], σ, σ', s, hl, h => by
    have : σ' = σ := List.ext_getElem? fun i => h i (by simp)
    subst this
    exact ⟨fp, s, List.Sublist.refl _⟩
  | v :: vs, σ, σ', s, hl, h => by
    -- all but v first
    obtain ⟨fp1, s1, l1⟩ := SR.unwipe vs (σ' := if hv : v < σ.length then σ'.set v (σ[v]) else σ') s (by split <;> simp [hl]) fun i hi => by
      split
      · rename_i hv
        by_cases e : v = i
        · subst e
          rw [List.getElem?_set_self (by rw [hl]; exact hv), List.getElem?_eq_getElem hv]
        · rw [List.getElem?_set_ne e]
          exact h i (by simp only [List.mem_cons, not_or]; exact ⟨fun z => e z.symm, hi⟩)
      · rename_i hv
        by_cases e : v = i
        · subst e
          rw [List.getElem?_eq_none (by omega), List.getElem?_eq_none (by omega)]
        · exact h i (by simp only [List.mem_cons, not_or]; exact ⟨fun z => e z.symm, hi⟩)
    obtain ⟨fp2, s2, l2⟩ := s1.forget v (σ'[v]?.getD none)
    refine ⟨fp2, ?_, l2.trans l1⟩
    have e2 : (if hv : v < σ.length then σ'.set v (σ[v]) else σ').set v (σ'[v]?.getD none) = σ' := by
      apply List.ext_getElem?
      intro i
      by_cases hv : v < σ.length
      · rw [dif_pos hv, List.set_set]
        by_cases e : v = i
        · subst e
          rw [List.getElem?_set_self (by rw [hl]; exact hv), List.getElem?_eq_getElem (by rw [hl]; exact hv)]
          rfl
        · rw [List.getElem?_set_ne e]
      · rw [dif_neg hv, List.set_eq_of_length_le (by omega)]
    rw [e2] at s2
    exact s2
def compS (b : Bx) (tt : Tx) (el : Ex) (vs : List Nat) : List D → List D → List Sl → Out (List D)
  | [], acc, ev => .ok acc ev
  | x :: xs, acc, ev => match b x ev with
    | none => .stuck
    | some e1 => match tt e1 with
      | .ok true e2 => (match el e2 with
        | .ok r e3 => (match stoR r e3 with
          | .ok d e4 => if acc.length < lim then compS b tt el vs xs (acc ++ [d]) (wipeE e4 vs) else .stuck
          | _ => .stuck)
        | _ => .stuck)
      | .ok false e2 => compS b tt el vs xs acc (wipeE e2 vs)
      | _ => .stuck
def eComp (f : Ix) (b : Bx) (tt : Tx) (el : Ex) (vs : List Nat) : Ex := fun ev => match f ev with
  | .ok items e1 => (match compS b tt el vs items [] (wipeE e1 vs) with
    | .ok ds e2 => .ok (.tmp (.lst ds)) (wipeE e2 vs)
    | _ => .stuck)
  | .exc k => .exc k
  | .stuck => .stuck
def tYes' : Tx := fun ev => .ok true ev
def DTs (X : Cx) (cl : Cls) (E : XK) (es : List Expr) (f : Tx) : Prop := ∃ t, PTs X es t ∧ MeansT X cl E t f
section
variable {X : Cx} {cl : Cls} {E : XK} {W : List Nat} {tg : Expr}
theorem dts_nil : DTs X cl E [] tYes' := ⟨_, pts_nil, fun F H σ ev fp Q d m => m F H fp (Evo.refl _ _ _) d⟩
theorem dts_one {e : Expr} {f : Tx} (h : DT X cl E e f) : DTs X cl E [e] f := let ⟨t, p, h⟩ := h; ⟨t, pts_one p, h⟩
/-- the readings of a block's parts, the same at every entry -/
theorem comp_ok {wi : TI} {g : TG} {tt : TT} {te : TE} {f : Ix} {b : Bx} {fc : Tx} {fe : Ex} {vs : List Nat}
    (hi : ∀ F H σ ev fp R, DS X.K F H σ ev fp → MeetI X.K cl E σ F H fp R (f ev) → wi σ H R)
    (hg : ∀ F H σ ev fp v d ev' (Q : L2.St → Hp → Prop), DS X.K F H σ ev fp → Rp X.K F v d → b d ev = some ev' → (∀ σ' fp', DS X.K F H σ' ev' fp' → (∀ a ∈ fp', a ∈ fp) → Frm vs σ σ' → Q σ' H) → g v σ H Q)
    (ht : MeansT X cl E0 tt fc) (he : Means X cl E0 te fe) : Means X cl E (tLc wi g tt te vs) (eComp f b fc fe vs) := fun F H σ ev fp Q d m => by
  unfold eComp at m
  refine hi F H σ ev fp _ d ?_
  cases e : f ev with
  | stuck => rw [e] at m; exact m
  | exc k => rw [e] at m; exact m
  | ok items e1 =>
  rw [e] at m
  intro F1 H1 fp1 J x1 d1 it
  obtain ⟨G, Y, w, hG, hY⟩ := it.ex
  intro Da nD
  have fD : F1 Da = none := d1.sub.none nD
  -- what is wanted behind it
  have rest : ∃ ds e2, compS b fc fe vs items [] (wipeE e1 vs) = .ok ds e2 ∧ MeetE X.K cl E σ F1 H1 fp1 Q (.ok (.tmp (.lst ds)) (wipeE e2 vs)) := by
    cases ec : compS b fc fe vs items [] (wipeE e1 vs) with
    | stuck => simp only [ec] at m; exact m.elim
    | exc k => simp only [ec] at m; exact m.elim
    | ok ds e2 => simp only [ec] at m; exact ⟨ds, e2, rfl, MeetE.shift x1 m⟩
  obtain ⟨ds, e2, ec, m2⟩ := rest
  clear m
  obtain ⟨fpw, dw, sw⟩ := d1.wipe vs
  have x0 : Ext F1 H1 F1 (upd H1 Da (.lst [])) := ext_own d1.sub nD
  have nfp : ∀ {b}, b ∈ fp1 → b ≠ Da := fun {b} hb z => by
    obtain ⟨_, u, hu⟩ := d1.sr.free b hb
    rw [z, nD] at hu; cases hu
  refine lc_it w (fun i H' => ∃ F' ev' fp' acc av, DS X.K F' H' (L2.wipe σ vs) ev' fp' ∧ Evo F1 H1 fp1 F' H' (Da :: fp') ∧ H' Da = some (.lst av) ∧ RpL X.K F' av acc ∧ F' Da = none ∧ Da ∉ fp' ∧ compS b fc fe vs (items.drop i) acc ev' = .ok ds e2) ?_ ?_ ?_ ?_
  · refine ⟨F1, wipeE e1 vs, fpw, [], [], dw.ext x0, ⟨fun b o h n => x0.keep b o h, Grow.refl _, fun b o h f n => f, fun b hb => ?_⟩, upd_same, .nil, fD, fun z => nfp (sw _ z) rfl, ec⟩
    rcases List.mem_cons.mp hb with z | z
    · exact .inr (by rw [z]; exact nD)
    · exact .inl (sw b z)
  · rintro i H' hi ⟨F', ev', fp', acc, av, d', x', _, _, _, _, _⟩
    exact hG F' H' _ x' d'.sub
  · rintro i x H' H3 hi ⟨F', ev', fp', acc, av, d', x', hD, ra, nF, nfp', ec'⟩ y
    obtain ⟨F3, dd, hd, ex, rp⟩ := hY i F' H' _ x H3 hi x' d'.sub y
    have hdrop : items.drop i = dd :: items.drop (i + 1) := by
      have hlt := hi
      rw [List.drop_eq_getElem_cons hlt]
      have : items[i] = dd := by
        rw [List.getElem?_eq_getElem hlt] at hd
        exact Option.some.inj hd
      rw [this]
    rw [hdrop] at ec'
    unfold compS at ec'
    cases eb : b dd ev' with
    | none => simp only [eb] at ec'; cases ec'
    | some e3 =>
    simp only [eb] at ec'
    have d3 := d'.ext ex
    refine hg F3 H3 _ ev' fp' x dd e3 _ d3 rp eb fun σ2 fp2 d2 s2 f2 => ?_
    have hlen : σ2.length = σ.length := f2.len.trans (wipe_length _ _)
    refine ⟨wipe_frm hlen f2, ?_⟩
    have x3 := (x'.trans (ex.evo _)).fewer (fp2 := Da :: fp2) fun b hb => by
      rcases List.mem_cons.mp hb with z | z
      · rw [z]; exact List.mem_cons_self
      · exact List.mem_cons_of_mem _ (s2 b z)
    have hD3 := ex.keep _ _ hD
    have nF3 := ex.out _ _ hD nF
    have nfp2 : Da ∉ fp2 := fun z => nfp' (s2 _ z)
    refine ht F3 H3 σ2 e3 fp2 _ d2 ?_
    cases et : fc e3 with
    | stuck => simp only [et] at ec'; cases ec'
    | exc k => simp only [et] at ec'; cases ec'
    | ok tb e4 =>
    intro F4 H4 fp4 x4 d4
    have hD4 := x4.keep _ _ hD3 nfp2
    have nF4 := x4.out _ _ hD3 nF3 nfp2
    have nfp4 : Da ∉ fp4 := fun z => (x4.fpn _ z).elim nfp2 fun w => by rw [hD3] at w; cases w
    have x4' : Evo F1 H1 fp1 F4 H4 (Da :: fp4) := x3.trans (x4.consL [Da])
    cases tb with
    | false =>
      simp only [et] at ec'
      simp only [Bool.false_eq_true, if_false]
      obtain ⟨fp5, d5, s5⟩ := d4.wipe vs
      rw [wipe_frm hlen f2] at d5
      refine ⟨F4, _, fp5, acc, av, d5, x4'.fewer fun b hb => ?_, hD4, ra.mono fun _ _ => (ex.grow.trans x4.grow).rd, nF4, fun z => nfp4 (s5 _ z), ec'⟩
      rcases List.mem_cons.mp hb with z | z
      · rw [z]; exact List.mem_cons_self
      · exact List.mem_cons_of_mem _ (s5 b z)
    | true =>
      simp only [et] at ec'
      simp only [if_true]
      refine he F4 H4 σ2 e4 fp4 _ d4 ?_
      cases ee : fe e4 with
      | stuck => simp only [ee] at ec'; cases ec'
      | exc k => simp only [ee] at ec'; cases ec'
      | ok r e5 =>
      simp only [ee] at ec'
      intro F5 H5 fp5 yv tp x5 d5 rv nd5
      cases es : stoR r e5 with
      | stuck => simp only [es] at ec'; cases ec'
      | exc k => simp only [es] at ec'; cases ec'
      | ok dd5 e6 =>
      simp only [es] at ec'
      split at ec'
      · rename_i hl
        obtain ⟨F6, fp6, x6, d6, rp6⟩ := sto_rv x5 d5 rv nd5 es
        have hD6 := x6.keep _ _ hD4 nfp4
        have nF6 := x6.out _ _ hD4 nF4 nfp4
        have nfp6 : Da ∉ fp6 := fun z => (x6.fpn _ z).elim nfp4 fun w => by rw [hD4] at w; cases w
        have ra6 := ra.mono (H := F6) fun _ _ => ((ex.grow.trans x4.grow).trans x6.grow).rd
        refine ⟨av, hD6, lim_lt (by rw [ra6.length]; exact Nat.le_of_lt hl), ?_⟩
        -- the new item at Da
        have d7 : DS X.K F6 (upd H5 Da (.lst (av ++ [yv]))) σ2 e6 fp6 := by
          refine ⟨fun b o r => ?_, d6.sr.mono (Grow.refl _) (fun b hb u h => ?_) fun b hb => (d6.sr.free b hb).1, d6.nd⟩
          · have ne : b ≠ Da := fun z => by
              subst z
              rcases r with r | ⟨w, r⟩ <;> rw [nF6] at r <;> cases r
            rcases d6.sub b o r with z | ⟨y, z⟩
            · exact .inl (by rw [upd_ne ne]; exact z)
            · exact .inr ⟨y, by rw [upd_ne ne]; exact z⟩
          · rw [upd_ne (fun z => nfp6 (by rw [← z]; exact hb))]; exact h
        obtain ⟨fp8, d8, s8⟩ := d7.wipe vs
        rw [wipe_frm hlen f2] at d8
        have x6' : Evo F1 H1 fp1 F6 H5 (Da :: fp6) := x4'.trans (x6.consL [Da])
        refine ⟨F6, _, fp8, acc ++ [dd5], av ++ [yv], d8, ⟨fun b o h n => ?_, x6'.grow, x6'.out, fun b hb => ?_⟩, upd_same, ra6.append (.one rp6), nF6, fun z => nfp6 (s8 _ z), ec'⟩
        · have ne : b ≠ Da := fun z => by rw [z, nD] at h; cases h
          rw [upd_ne ne]
          exact x6'.keep b o h n
        · refine x6'.fpn b ?_
          rcases List.mem_cons.mp hb with z | z
          · rw [z]; exact List.mem_cons_self
          · exact List.mem_cons_of_mem _ (s8 b z)
      · cases ec'
  · rintro H' ⟨F', ev', fp', acc, av, d', x', hD, ra, nF, nfp', ec'⟩
    rw [List.drop_length] at ec'
    unfold compS at ec'
    cases ec'
    obtain ⟨fp3, s3, l3⟩ := d'.sr.unwipe vs (σ' := σ) (by rw [wipe_length]) fun i hi => by rw [wipe_get]; simp [hi]
    refine m2 F' H' fp3 _ [Da] (x'.fewer fun b hb => ?_) ⟨d'.sub, s3, d'.nd.sublist l3⟩ (.tmp ⟨av, hD, ra⟩ nF) (List.nodup_cons.mpr ⟨fun z => nfp' (l3.subset z), d'.nd.sublist l3⟩)
    rcases List.mem_cons.mp hb with z | z
    · rw [z]; exact List.mem_cons_self
    · exact List.mem_cons_of_mem _ (l3.subset z)
end
end GW

set_option Elab.async false
set_option linter.all false
set_option maxRecDepth 100000
namespace GW
open PySem PySem.Spec L2

/-! ### readings by what is meant (the same in every block) -/
def canE (K : PySem.W.Frag) (cl : Cls) (E : XK) (f : Ex) : TE := fun σ H Q => ∃ F ev fp, DS K F H σ ev fp ∧ MeetE K cl E σ F H fp Q (f ev)
def canT (K : PySem.W.Frag) (cl : Cls) (E : XK) (f : Tx) : TT := fun σ H Q => ∃ F ev fp, DS K F H σ ev fp ∧ MeetT K cl E σ F H fp Q (f ev)
def canG (K : PySem.W.Frag) (W : List Nat) (b : Bx) : TG := fun v σ H Q => ∃ F ev fp d ev', DS K F H σ ev fp ∧ Rp K F v d ∧ b d ev = some ev' ∧ ∀ σ' fp', DS K F H σ' ev' fp' → (∀ a ∈ fp', a ∈ fp) → Frm W σ σ' → Q σ' H
section
variable {X : Cx} {cl : Cls} {E : XK} {W : List Nat}
theorem DE.can {e : Expr} {f : Ex} (h : DE X cl E e f) : PE X e (canE X.K cl E f) := by
  obtain ⟨t, p, h⟩ := h
  exact ⟨fun pins s σ H Q I ⟨F, ev, fp, d, m⟩ => p.run pins s σ H Q I (h F H σ ev fp Q d m)⟩
theorem DTs.can {e : List Expr} {f : Tx} (h : DTs X cl E e f) : PTs X e (canT X.K cl E f) := by
  obtain ⟨t, p, h⟩ := h
  exact ⟨fun pins s σ H Q I ⟨F, ev, fp, d, m⟩ => p.run pins s σ H Q I (h F H σ ev fp Q d m)⟩
theorem DG.can {e : Expr} {b : Bx} (h : DG X W e b) : PG X e (canG X.K W b) := by
  obtain ⟨t, p, h⟩ := h
  exact ⟨fun pins s σ H v u Q I r ⟨F, ev, fp, d, ev', ds, rp, eb, k⟩ => p.run pins s σ H v u Q I r (h F H σ ev fp v d ev' Q ds rp eb k)⟩
end

/-! ### the context -/
structure Cxt (X : Cx) (E : XK) (lv : Nat) : Prop where
  nd : X.N.Nodup
  calm : X.calm = true
  room : Room lv X.A
  pass : Passes (L2N.CX X.prog X.w) X E
  tk : L2N.Takes X (fun c d _ H => E c d H)
theorem takesN {X : Cx} : L2N.Takes X (fun _ _ _ _ => False) := fun u s' h => by
  obtain ⟨_, _, _, _, _, _, _, _, _, _, _, _, _, _, _, _, w⟩ := h
  exact w.elim
theorem passN {X : Cx} : Passes (L2N.CX X.prog X.w) X E0 := L2N.passes_call takesN fun _ _ _ _ h => h
theorem Cxt.blk {X : Cx} {E : XK} {lv : Nat} (c : Cxt X E lv) (s : Shared) (H : Hp) (scope : Scope) (cenv : Env) (fp : List Addr) : Cxt (X.blk s H scope cenv fp) E0 lv := ⟨c.nd, c.calm, c.room, passN, takesN⟩
theorem Cxt.hu {X : Cx} {E : XK} {lv : Nat} (c : Cxt X E lv) : X.A.units + 64 < cLine := c.room.units

section
variable {X : Cx} {cl : Cls} {E : XK} {W : List Nat} {lv : Nat}
theorem de_comp {elt tg iter : Expr} {ifs : List Expr} {scope : Scope} {own : List (Str × Nat)} {pos : Pos} {f : Ix} {b : Bx} {fc : Tx} {fe : Ex} (c : Cxt X E lv) (hi : DI X cl E tg iter f) (ok : BlkOk X.N X.env.scope scope own)
    (hg : ∀ (s : Shared) (H : Hp) (C : Addr) (cls : List (Str × Addr)) (fp : List Addr), DG (X.blk s H scope (compEnvC scope cls C X.env) fp) (own.map (·.2)) tg b)
    (ht : ∀ (s : Shared) (H : Hp) (C : Addr) (cls : List (Str × Addr)) (fp : List Addr), Cxt (X.blk s H scope (compEnvC scope cls C X.env) fp) E0 lv → DTs (X.blk s H scope (compEnvC scope cls C X.env) fp) cl E0 ifs fc)
    (he : ∀ (s : Shared) (H : Hp) (C : Addr) (cls : List (Str × Addr)) (fp : List Addr), Cxt (X.blk s H scope (compEnvC scope cls C X.env) fp) E0 lv → DE (X.blk s H scope (compEnvC scope cls C X.env) fp) cl E0 elt fe) (hs : ∀ x, foldedSetIterable iter X.env x = pure x := by intro _; rfl) :
    DE X cl E (.ListComp elt [⟨tg, iter, ifs, 0⟩] scope pos) (eComp f b fc fe (own.map (·.2))) := by
  obtain ⟨wi, pi, hi⟩ := hi
  refine ⟨_, pe_lc (g := canG X.K (own.map (·.2)) b) (tt := canT X.K cl E0 fc) (te := canE X.K cl E0 fe) c.calm c.nd pi ok (fun s H C cls fp => (hg s H C cls fp).can) (fun s H C cls fp => (ht s H C cls fp (c.blk ..)).can) (fun s H C cls fp => (he s H C cls fp (c.blk ..)).can) hs, ?_⟩
  exact comp_ok hi (fun F H σ ev fp v d ev' Q ds rp eb k => ⟨F, ev, fp, d, ev', ds, rp, eb, k⟩) (fun F H σ ev fp Q d m => ⟨F, ev, fp, d, m⟩) fun F H σ ev fp Q d m => ⟨F, ev, fp, d, m⟩
theorem ds_setComp {i : Nat} {y : Str} {py : Pos} {elt tg iter : Expr} {ifs : List Expr} {scope : Scope} {own : List (Str × Nat)} {pos spos : Pos} {f : Ix} {b : Bx} {fc : Tx} {fe : Ex} (c : Cxt X E lv) (hi : DI X cl E tg iter f) (ok : BlkOk X.N X.env.scope scope own)
    (hg : ∀ (s : Shared) (H : Hp) (C : Addr) (cls : List (Str × Addr)) (fp : List Addr), DG (X.blk s H scope (compEnvC scope cls C X.env) fp) (own.map (·.2)) tg b)
    (ht : ∀ (s : Shared) (H : Hp) (C : Addr) (cls : List (Str × Addr)) (fp : List Addr), Cxt (X.blk s H scope (compEnvC scope cls C X.env) fp) E0 lv → DTs (X.blk s H scope (compEnvC scope cls C X.env) fp) cl E0 ifs fc)
    (he : ∀ (s : Shared) (H : Hp) (C : Addr) (cls : List (Str × Addr)) (fp : List Addr), Cxt (X.blk s H scope (compEnvC scope cls C X.env) fp) E0 lv → DE (X.blk s H scope (compEnvC scope cls C X.env) fp) cl E0 elt fe) (hs : ∀ x, foldedSetIterable iter X.env x = pure x := by intro _; rfl)
    (hy : X.N[i]? = some y := by rfl) (hyl : X.env.scope.names.lookup y = some .local := by rfl) (hsw : swapsWith (.ListComp elt [⟨tg, iter, ifs, 0⟩] scope pos) (some (.Name y py)) spos.line X.env = pure true := by exact sw_true rfl rfl rfl (by decide +kernel)) (hw : i ∈ W := by decide) :
    DSt X cl E W (.Assign [.Name y py] (.ListComp elt [⟨tg, iter, ifs, 0⟩] scope pos) spos) (sSet i (eComp f b fc fe (own.map (·.2)))) := by
  obtain ⟨wi, pi, hi⟩ := hi
  refine ⟨_, ps_setLc (g := canG X.K (own.map (·.2)) b) (tt := canT X.K cl E0 fc) (te := canE X.K cl E0 fe) c.calm c.nd hy hyl hsw pi ok (fun s H C cls fp => (hg s H C cls fp).can) (fun s H C cls fp => (ht s H C cls fp (c.blk ..)).can) (fun s H C cls fp => (he s H C cls fp (c.blk ..)).can) hs, ?_⟩
  exact set_ok (comp_ok hi (fun F H σ ev fp v d ev' Q ds rp eb k => ⟨F, ev, fp, d, ev', ds, rp, eb, k⟩) (fun F H σ ev fp Q d m => ⟨F, ev, fp, d, m⟩) fun F H σ ev fp Q d m => ⟨F, ev, fp, d, m⟩) hw
end

/-! ### defs -/
inductive FOut where
  | ok (r : R) (io : Option O) | exc (k : Nat) | stuck
abbrev FS := List Sl → FOut
def MeetF (K : PySem.W.Frag) (cl : Cls) (E : XK) (vs : List V) (F H : Hp) (fp : List Addr) (Q : VK) : FOut → Prop
  | .ok r none => ∀ F' H' v tp fp', Evo F H fp F' H' (tp ++ fp') → Sub F' H' → PV K F' H' v r tp → (tp ++ fp').Nodup → Q v H'
  | .ok r (some o) => ∀ F' H' v tp a, vs[0]? = some (.ref a) → Evo F H fp F' H' (tp ++ [a]) → Sub F' H' → PV K F' H' v r tp → OwnAt K F' H' a o → F' a = none → a ∉ tp → Q v H'
  | .exc k => ExcOk cl E H fp k
  | .stuck => False
def spD (K : PySem.W.Frag) (cl : Cls) (n : Nat) (f : FS) : Sp := fun vs H Q E => vs.length = n ∧ ∃ F ev fp, DS K F H (vs.map some) ev fp ∧ MeetF K cl E vs F H fp Q (f ev)
/-- how a def's body ends; io: its first parameter is a thing that it may change -/
def finish (io : Bool) (r : R) (ev : List Sl) : FOut := match r with
  | .bor _ => .stuck
  | r => match io with
    | true => (match ev[(0 : Nat)]? with
      | some (Sl.own o) => .ok r (some o)
      | _ => .stuck)
    | false => .ok r none
def fnSem (n : Nat) (io : Bool) (b : Sx) : FS := fun args => match b (args ++ List.replicate (n - args.length) .un) with
  | .rt r ev => finish io r ev
  | .nx ev => finish io (.dat .non) ev
  | .exc k => .exc k
  | _ => .stuck
theorem SR.more {K : PySem.W.Frag} {F H : Hp} {σ : L2.St} {ev : List Sl} {fp : List Addr} (s : SR K F H σ ev fp) : ∀ (k : Nat), SR K F H (σ ++ List.replicate k none) (ev ++ List.replicate k .un) fp := fun k => by
  induction s with
  | tabd r t n _ ih => exact .tabd r t n ih
  | nil =>
    simp only [List.nil_append]
    induction k with
    | zero => exact .nil
    | succ k ih => rw [List.replicate_succ, List.replicate_succ]; exact .un ih
  | un _ ih => exact .un ih
  | dat r _ ih => exact .dat r ih
  | own r f _ ih => exact .own r f ih
def GoodF (P : Program) (w : World) (K : PySem.W.Frag) (mg : Str → Option Value) (base : Heap) (cl : Cls) (k : Nat) (x : Str) (n : Nat) (f : FS) : Prop :=
  ∃ fa fd ps, FnOk P w K mg base (L2N.CX P w) k fa fd ps (spD K cl n f) ∧ mg x = some (.ref fa) ∧ PySem.W.keepIn K (.ref fa) = true ∧ Binds K fd ps []

theorem fin_meet {X : Cx} {cl : Cls} {E : XK} {W : List Nat} {io : Bool} {vs : List V} {F H F1 H1 : Hp} {fp fp1 : List Addr} {σ σ1 : L2.St} {ev1 : List Sl} {Q : VK} {r : R} {v : V} {tp : List Addr} (hσ : ∀ i, i < vs.length → σ[i]? = (vs.map some)[i]?) (hv : io = true → 0 < vs.length) (h0 : io = true → 0 ∉ W)
    (x1 : Evo F H fp F1 H1 (tp ++ fp1)) (d1 : DS X.K F1 H1 σ1 ev1 fp1) (f1 : Frm W σ σ1) (pv : PV X.K F1 H1 v r tp) (nd : (tp ++ fp1).Nodup) (m : MeetF X.K cl E vs F H fp Q (finish io r ev1)) : Q v H1 := by
  have ioc : ∀ o, io = true → ev1[0]? = some (.own o) → ∃ a, vs[0]? = some (.ref a) ∧ OwnAt X.K F1 H1 a o ∧ F1 a = none ∧ a ∈ fp1 := fun o hi e0 => by
    obtain ⟨a, q, w, fa, mm⟩ := d1.sr.getOwn e0
    have e := f1.get 0 (h0 hi)
    rw [hσ 0 (hv hi), q, List.getElem?_map] at e
    cases ev : vs[0]? with
    | none => rw [ev] at e; cases e
    | some z =>
      rw [ev] at e
      simp only [Option.map_some, Option.some.injEq] at e
      exact ⟨a, by rw [e], w, fa, mm⟩
  unfold finish at m
  cases pv with
  | dat rp =>
    cases io with
    | false => exact m F1 H1 _ [] fp1 x1 d1.sub (.dat rp) nd
    | true =>
      simp only at m
      split at m
      · rename_i o' e0
        obtain ⟨a, q, w, fa, mm⟩ := ioc o' rfl e0
        refine m F1 H1 _ [] a q (x1.fewer fun b hb => ?_) d1.sub (.dat rp) w fa (by simp)
        have : b = a := by simpa using hb
        rw [this]
        exact mm
      · exact m.elim
  | @tmp ar o wo f =>
    cases io with
    | false => exact m F1 H1 _ _ fp1 x1 d1.sub (.tmp wo f) nd
    | true =>
      simp only at m
      split at m
      · rename_i o' e0
        obtain ⟨a, q, w, fa, mm⟩ := ioc o' rfl e0
        refine m F1 H1 _ _ a q (x1.fewer fun b hb => ?_) d1.sub (.tmp wo f) w fa fun z => ?_
        · rcases List.mem_cons.mp hb with z | z
          · rw [z]; exact List.mem_cons_self
          · have : b = a := by simpa using z
            rw [this]
            exact List.mem_cons_of_mem _ mm
        · have : a = ar := by simpa using z
          subst this
          exact (List.nodup_cons.mp nd).1 mm
      · exact m.elim
/-- THE RULE for a def -/
theorem def_ok {P : Program} {w : World} {K : PySem.W.Frag} {mg : Str → Option Value} {base : Heap} {cl : Cls} {x qual : Str} {st : Stmt} {fa : Addr} {fd : FuncData} {N ps : List Str} (Wn : List Nat) (io : Bool) {k : Nat} {b : Sx} (F : Fun K x qual st fa fd) (S : FnScope N ps (defScope st))
    (hbody : ∀ (cdv : Value) (A : Around) (outer : List Env) (s : Shared) (H : Hp) (E : XK), Cxt (cxOf (L2N.CX P w) P w K mg base N qual (defScope st) fa cdv A outer s H E) E k →
      PassesOwn (model P w) (cxOf (L2N.CX P w) P w K mg base N qual (defScope st) fa cdv A outer s H E).A (cxOf (L2N.CX P w) P w K mg base N qual (defScope st) fa cdv A outer s H E).env (cxOf (L2N.CX P w) P w K mg base N qual (defScope st) fa cdv A outer s H E).xe →
      DSs (cxOf (L2N.CX P w) P w K mg base N qual (defScope st) fa cdv A outer s H E) cl E Wn (defBody st) b) 
    (h0 : io = true → 0 ∉ Wn := by decide) (hv : io = true → 0 < ps.length := by decide) :
    FnOk P w K mg base (L2N.CX P w) (k + 1) fa fd ps (spD K cl ps.length (fnSem N.length io b)) := by
  obtain ⟨oc, od, kV, doc, pm, an, cdv, ct, osl, rfl, lk, hcd⟩ := F.ex
  refine fn_of lk hcd S (fun vs H Q E h => h.1) fun A outer s H vs Q E hr h => ?_
  obtain ⟨hn, F0, args, fp, d, m⟩ := h
  have tk : L2N.Takes (cxOf (L2N.CX P w) P w K mg base N qual (defScope st) fa cdv A outer s H E) (fun c d _ H => E c d H) := L2N.takes_of rfl rfl rfl rfl
  have po : PassesOwn (model P w) (cxOf (L2N.CX P w) P w K mg base N qual (defScope st) fa cdv A outer s H E).A (cxOf (L2N.CX P w) P w K mg base N qual (defScope st) fa cdv A outer s H E).env (cxOf (L2N.CX P w) P w K mg base N qual (defScope st) fa cdv A outer s H E).xe := passes_of rfl
  obtain ⟨t, p, hb⟩ := hbody cdv A outer s H E ⟨S.nd, rfl, hr, L2N.passes_call tk fun _ _ _ _ h => h, tk⟩ po
  refine ⟨t, p, ?_⟩
  have la : args.length = vs.length := by have := d.sr.len; simpa using this.symm
  have d0 : DS K F0 H (L2.start N vs) (args ++ List.replicate (N.length - args.length) .un) fp := by
    refine ⟨d.sub, ?_, d.nd⟩
    unfold L2.start
    rw [la]
    exact d.sr.more _
  have hσ : ∀ i, i < vs.length → (L2.start N vs)[i]? = (vs.map some)[i]? := fun i hi => by
    unfold L2.start
    rw [List.getElem?_append_left (by simpa using hi)]
  have hv' : io = true → 0 < vs.length := fun h => by rw [hn]; exact hv h
  refine hb F0 H _ _ fp _ d0 ?_
  unfold fnSem at m
  cases e : b (args ++ List.replicate (N.length - args.length) .un) with
  | nx ev1 =>
    simp only [e] at m
    exact fun F1 H1 σ1 fp1 x1 d1 f1 => fin_meet (X := cxOf (L2N.CX P w) P w K mg base N qual (defScope st) fa cdv A outer s H E) hσ hv' h0 (tp := []) x1 d1 f1 (.dat .non) d1.nd m
  | bk ev1 => simp only [e] at m; exact False.elim m
  | ct ev1 => simp only [e] at m; exact False.elim m
  | rt r ev1 =>
    simp only [e] at m
    intro F1 H1 σ1 fp1 v tp x1 d1 f1 rv nd
    cases rv with
    | dat r => exact fin_meet (X := cxOf (L2N.CX P w) P w K mg base N qual (defScope st) fa cdv A outer s H E) hσ hv' h0 x1 d1 f1 (.dat r) nd m
    | tmp o f => exact fin_meet (X := cxOf (L2N.CX P w) P w K mg base N qual (defScope st) fa cdv A outer s H E) hσ hv' h0 x1 d1 f1 (.tmp o f) nd m
    | bor _ _ => exact False.elim m
  | exc k => simp only [e] at m; exact m
  | stuck => simp only [e] at m; exact False.elim m

/-! ### calls -/
def backF (o : FOut) (ev : List Sl) : Out R := match o with
  | .ok (.bor _) _ => .stuck
  | .ok r none => .ok r ev
  | .ok _ (some _) => .stuck
  | .exc k => .exc k
  | .stuck => .stuck
/-- f(e, ..): all arguments frozen -/
def eCall (f : FS) (fs : List Ex) : Ex := fun ev => (argsS fs ev).bind fun ds e1 => backF (f (ds.map Sl.dat)) e1
theorem sr_args {K : PySem.W.Frag} {F H : Hp} : ∀ {vs : List V} {ds : List D}, RpL K F vs ds → SR K F H (vs.map some) (ds.map Sl.dat) []
  | _, _, .nil => .nil
  | _, _, .cons r t => .dat r (sr_args t)
/-- behind a callee that changes nothing that stood -/
theorem DS.behind {K : PySem.W.Frag} {F H F' H' : Hp} {σ : L2.St} {ev : List Sl} {fp fpx : List Addr} (d : DS K F H σ ev fp) (x : Evo F H [] F' H' fpx) (s : Sub F' H') : DS K F' H' σ ev fp :=
  ⟨s, d.sr.mono x.grow (fun b _ u h => x.keep b u h (by simp)) fun b hb => let ⟨f, u, h⟩ := d.sr.free b hb; x.out b u h f (by simp), d.nd⟩
section
variable {X : Cx} {cl : Cls} {E : XK} {W : List Nat} {lv : Nat}
theorem de_call {x : Str} {p pos : Pos} {e : Expr} {es : List Expr} {fs : List Ex} {k n : Nat} {f : FS} (G : GoodF X.prog X.w X.K X.mg X.base cl k x n f) (c : Cxt X E lv) (ha : DAs X cl E (e :: es) fs) (hg : Gl X x) (hk : k ≤ lv := by decide) (hn : fs.length = n := by rfl) (hdb : (x == ("__debug__" : Str)) = false := by decide)
    (he : starEach (e :: es) X.env = (false, eval e X.env) :: starEach es X.env := by rfl) (hpl : (backTo pos (starEach es X.env)).any (·.1) = false := by rfl) : DE X cl E (.Call (.Name x p) (e :: es) [] pos) (eCall f fs) := by
  obtain ⟨fa, fd, ps, Fn, hm, hkp, hb⟩ := G
  obtain ⟨t, pa, ha⟩ := ha
  refine ⟨_, pe_call Fn (c.room.mono hk) hg hm hkp hb .nil c.pass pa hdb he hpl, fun F H σ ev fp Q d m => ha F H σ ev fp _ d ?_⟩
  unfold eCall at m
  have hlen : ∀ ds e1, argsS fs ev = .ok ds e1 → ds.length = fs.length := by
    have gen : ∀ (fs : List Ex) ev ds e1, argsS fs ev = .ok ds e1 → ds.length = fs.length := by
      intro fs
      induction fs with
      | nil => intro ev ds e1 h; unfold argsS at h; cases h; rfl
      | cons f fs ih =>
        intro ev ds e1 h
        unfold argsS at h
        cases h1 : f ev with
        | stuck => rw [h1] at h; cases h
        | exc k => rw [h1] at h; cases h
        | ok r e0 =>
        rw [h1] at h
        simp only [Out.bind_ok] at h
        cases h2 : stoR r e0 with
        | stuck => rw [h2] at h; cases h
        | exc k => rw [h2] at h; cases h
        | ok dd e2 =>
        rw [h2] at h
        simp only [Out.bind_ok] at h
        cases h3 : argsS fs e2 with
        | stuck => rw [h3] at h; cases h
        | exc k => rw [h3] at h; cases h
        | ok ds2 e3 =>
        rw [h3] at h
        cases h
        simp [ih _ _ _ h3]
    exact gen fs ev
  cases e : argsS fs ev with
  | stuck => rw [e] at m; exact m
  | exc k => rw [e] at m; exact m
  | ok ds e1 =>
    rw [e] at m
    simp only [Out.bind_ok] at m
    intro F1 H1 fp1 vs x1 d1 rs
    rw [List.append_nil]
    refine ⟨by rw [rs.length, hlen ds e1 e, hn], F1, ds.map Sl.dat, [], ⟨d1.sub, sr_args rs, .nil⟩, ?_⟩
    unfold backF at m
    cases eo : f (ds.map Sl.dat) with
    | stuck => simp only [eo] at m; exact m
    | exc k =>
      simp only [eo] at m
      intro H' q
      exact ExcOk.shift x1 m H' fun b o h _ => q b o h (by simp)
    | ok r io =>
      cases io with
      | some o =>
        simp only [eo] at m
        cases r <;> exact m.elim
      | none =>
        rw [eo] at m
        intro F2 H2 v tp fp2 x2 s2 pv nd
        have d2 := d1.behind x2 s2
        have xx : Evo F1 H1 fp1 F2 H2 (tp ++ fp1) := ⟨fun b o h _ => x2.keep b o h (by simp), x2.grow, fun b o h f _ => x2.out b o h f (by simp), fun b hb => by
          rcases List.mem_append.mp hb with z | z
          · rcases x2.fpn b (List.mem_append_left _ z) with q | q
            · cases q
            · exact .inr q
          · exact .inl z⟩
        have nda : (tp ++ fp1).Nodup := List.nodup_append.mpr ⟨(List.nodup_append.mp nd).1, d1.nd, fun a ha b hb z => by
          subst z
          rcases x2.fpn a (List.mem_append_left _ ha) with q | q
          · cases q
          · obtain ⟨_, u, hu⟩ := d1.sr.free a hb
            rw [q] at hu; cases hu⟩
        cases pv with
        | dat r => exact m F2 H2 fp1 v [] (x1.trans xx) d2 (.dat r) nda
        | tmp o f => exact m F2 H2 fp1 _ _ (x1.trans xx) d2 (.tmp o f) nda
/-- f(bag, e, ..): the first argument is a name's own thing, which f may change -/
def eCallB (i : Nat) (f : FS) (fs : List Ex) : Ex := fun ev => match ev[i]? with
  | some (.own _) => (argsS fs ev).bind fun ds e1 => (match e1[i]? with
    | some (.own o) => (match f (.own o :: ds.map Sl.dat) with
      | .ok (.bor _) _ => .stuck
      | .ok r (some o') => .ok r (e1.set i (.own o'))
      | .ok _ none => .stuck
      | .exc k => .exc k
      | .stuck => .stuck)
    | _ => .stuck)
  | _ => .stuck
theorem argsS_len : ∀ (fs : List Ex) {ev ds e1}, argsS fs ev = .ok ds e1 → ds.length = fs.length := by
  intro fs
  induction fs with
  | nil => intro ev ds e1 h; unfold argsS at h; cases h; rfl
  | cons f fs ih =>
    intro ev ds e1 h
    unfold argsS at h
    cases h1 : f ev with
    | stuck => rw [h1] at h; cases h
    | exc k => rw [h1] at h; cases h
    | ok r e0 =>
    rw [h1] at h
    simp only [Out.bind_ok] at h
    cases h2 : stoR r e0 with
    | stuck => rw [h2] at h; cases h
    | exc k => rw [h2] at h; cases h
    | ok dd e2 =>
    rw [h2] at h
    simp only [Out.bind_ok] at h
    cases h3 : argsS fs e2 with
    | stuck => rw [h3] at h; cases h
    | exc k => rw [h3] at h; cases h
    | ok ds2 e3 =>
    rw [h3] at h
    cases h
    simp [ih h3]
/-- the own thing at slot i was changed by a callee, all else stood -/
theorem SR.changed {K : PySem.W.Frag} {F H F' H' : Hp} {σ : L2.St} {ev : List Sl} {fp : List Addr} {a : Addr} {o' : O} (s : SR K F H σ ev fp) (nd : fp.Nodup) (g : Grow F F') (k : ∀ b, b ≠ a → ∀ u, H b = some u → H' b = some u) (n : ∀ b ∈ fp, b ≠ a → F' b = none) (w : OwnAt K F' H' a o') (na : F' a = none) :
    ∀ {i : Nat}, σ[i]? = some (some (.ref a)) → (∃ o, ev[i]? = some (.own o)) → SR K F' H' σ (ev.set i (.own o')) fp := by
  have other : ∀ {σ : L2.St} {ev : List Sl} {fp : List Addr}, SR K F H σ ev fp → a ∉ fp → (∀ b ∈ fp, b ≠ a → F' b = none) → SR K F' H' σ ev fp := fun s m n =>
    s.mono g (fun b hb u h => k b (fun z => m (by rw [← z]; exact hb)) u h) fun b hb => n b hb fun z => m (by rw [← z]; exact hb)
  induction s with
  | @tabd v' d' a' σ ev fp r t nn h ih =>
    intro i e ⟨o, q⟩
    have nd2 := List.nodup_cons.mp nd
    cases i with
    | zero => simp at q
    | succ i =>
      have e' : σ[i]? = some (some (.ref a)) := by simpa using e
      have q' : ev[i]? = some (.own o) := by simpa using q
      have ne : a' ≠ a := fun z => by
        obtain ⟨a2, e2, _, _, m⟩ := h.getOwn q'
        rw [e'] at e2
        injection e2 with e2; injection e2 with e2; injection e2 with e2
        subst e2
        exact nd2.1 (by rw [z]; exact m)
      exact .tabd (r.mono fun _ _ => g.rd) (t.mono g fun u z => k a' ne u z) (n a' List.mem_cons_self ne) (ih nd2.2 (fun b hb => n b (List.mem_cons_of_mem _ hb)) e' ⟨o, q'⟩)
  | nil => intro i h; simp at h
  | un h ih =>
    intro i e ⟨o, q⟩
    cases i with
    | zero => simp at q
    | succ i => exact .un (ih nd n (by simpa using e) ⟨o, by simpa using q⟩)
  | dat r h ih =>
    intro i e ⟨o, q⟩
    cases i with
    | zero => simp at q
    | succ i => exact .dat (r.mono fun _ _ => g.rd) (ih nd n (by simpa using e) ⟨o, by simpa using q⟩)
  | @own a' o0 σ ev fp r f h ih =>
    intro i e ⟨o, q⟩
    have nd2 := List.nodup_cons.mp nd
    cases i with
    | zero =>
      simp at e
      subst e
      exact .own w na (other h nd2.1 fun b hb => n b (List.mem_cons_of_mem _ hb))
    | succ i =>
      have e' : σ[i]? = some (some (.ref a)) := by simpa using e
      have q' : ev[i]? = some (.own o) := by simpa using q
      have ne : a' ≠ a := fun z => by
        obtain ⟨a2, e2, _, _, m⟩ := h.getOwn q'
        rw [e'] at e2
        injection e2 with e2; injection e2 with e2; injection e2 with e2
        subst e2
        exact nd2.1 (by rw [z]; exact m)
      exact .own (r.mono g fun u z => k a' ne u z) (n a' List.mem_cons_self ne) (ih nd2.2 (fun b hb => n b (List.mem_cons_of_mem _ hb)) e' ⟨o, q'⟩)
theorem de_callIO {i : Nat} {x y : Str} {p p1 pos : Pos} {es : List Expr} {fs : List Ex} {k n : Nat} {f : FS} (G : GoodF X.prog X.w X.K X.mg X.base cl k x n f) (c : Cxt X E lv) (ha : DAs X cl E es fs) (hg : Gl X x) (hk : k ≤ lv := by decide) (hn : fs.length + 1 = n := by rfl)
    (hN : X.N[i]? = some y := by rfl) (hv : Vis X.env.scope y := by first | exact Or.inl rfl | exact Or.inr (Or.inl rfl) | exact Or.inr (Or.inr rfl)) (hd : (y == ("__debug__" : Str)) = false := by decide) (hcd : (y == ("__classdict__" : Str)) = false := by decide)
    (hdb : (x == ("__debug__" : Str)) = false := by decide)
    (he : starEach (.Name y p1 :: es) X.env = (false, eval (.Name y p1) X.env) :: starEach es X.env := by rfl) (hpl : (backTo pos (starEach es X.env)).any (·.1) = false := by rfl) : DE X cl E (.Call (.Name x p) (.Name y p1 :: es) [] pos) (eCallB i f fs) := by
  obtain ⟨fa, fd, ps, Fn, hm, hkp, hb⟩ := G
  obtain ⟨t, pa, ha⟩ := ha
  refine ⟨_, pe_call Fn (c.room.mono hk) hg hm hkp hb .nil c.pass (pa_cons (pe_var hN hv hd hcd) pa he) hdb he hpl, fun F H σ ev fp Q d m => ?_⟩
  unfold eCallB at m
  split at m
  · rename_i o0 eo
    obtain ⟨a, q, w, fz, mm⟩ := d.sr.getOwn eo
    refine ⟨.ref a, q, ha F H σ ev fp _ d ?_⟩
    cases e : argsS fs ev with
    | stuck => rw [e] at m; exact m
    | exc k => rw [e] at m; exact m
    | ok ds e1 =>
    rw [e] at m
    simp only [Out.bind_ok] at m
    intro F1 H1 fp1 vs x1 d1 rs
    show spD X.K cl n f ((V.ref a :: vs) ++ []) H1 Q E
    rw [List.append_nil]
    split at m
    · rename_i o eo1
      obtain ⟨a2, q2, w2, f2, mm2⟩ := d1.sr.getOwn eo1
      rw [q] at q2
      injection q2 with q2; injection q2 with q2; injection q2 with q2
      subst q2
      refine ⟨by rw [List.length_cons, rs.length, argsS_len fs e, hn], F1, .own o :: ds.map Sl.dat, [a], ⟨d1.sub, .own w2 f2 (sr_args rs), by simp⟩, ?_⟩
      cases eo : f (.own o :: ds.map Sl.dat) with
      | stuck => simp only [eo] at m; exact m
      | exc k =>
        simp only [eo] at m
        intro H' q'
        exact ExcOk.shift x1 m H' fun b ob h nb => q' b ob h fun z => nb (by rw [List.mem_singleton.mp z]; exact mm2)
      | ok r io =>
      cases io with
      | none =>
        rw [eo] at m
        cases r <;> exact m.elim
      | some o' =>
      rw [eo] at m
      intro F2 H2 v tp ar har x2 s2 pv w3 f3 ntp
      simp only [List.getElem?_cons_zero, Option.some.injEq, V.ref.injEq] at har
      subst har
      have d2 : DS X.K F2 H2 σ (e1.set i (.own o')) fp1 := ⟨s2, d1.sr.changed d1.nd x2.grow (fun b nb u h => x2.keep b u h (by simpa using nb)) (fun b hb nb => let ⟨f', u, h'⟩ := d1.sr.free b hb; x2.out b u h' f' (by simpa using nb)) w3 f3 q ⟨o, eo1⟩, d1.nd⟩
      have fr : ∀ b ∈ tp, H1 b = none := fun b hb => by
        rcases x2.fpn b (List.mem_append_left _ hb) with z | z
        · exfalso
          have : b = a := by simpa using z
          subst this
          exact ntp hb
        · exact z
      have xx : Evo F1 H1 fp1 F2 H2 (tp ++ fp1) := ⟨fun b ob h nb => x2.keep b ob h fun z => nb (by rw [List.mem_singleton.mp z]; exact mm2), x2.grow, fun b ob h f' nb => x2.out b ob h f' fun z => nb (by rw [List.mem_singleton.mp z]; exact mm2), fun b hb => by
        rcases List.mem_append.mp hb with z | z
        · exact .inr (fr b z)
        · exact .inl z⟩
      have ndt : tp.Nodup := by
        cases pv with
        | dat _ => exact .nil
        | tmp _ _ => simp
      have nda : (tp ++ fp1).Nodup := List.nodup_append.mpr ⟨ndt, d1.nd, fun b hb b' hb' z => by
        subst z
        obtain ⟨_, u, hu⟩ := d1.sr.free b hb'
        rw [fr b hb] at hu; cases hu⟩
      cases pv with
      | dat r => exact m F2 H2 fp1 v [] (x1.trans xx) d2 (.dat r) nda
      | tmp o f => exact m F2 H2 fp1 _ _ (x1.trans xx) d2 (.tmp o f) nda
    · exact m.elim
  · exact m.elim
end
end GW

set_option Elab.async false
set_option linter.all false
set_option maxRecDepth 100000
namespace GW
open PySem PySem.Spec L2

/-! ### a new list of new things (a law's bags) -/
/-- the things at bs, apart from each other and from what is known -/
inductive Owns (K : PySem.W.Frag) (F H : Hp) : List Addr → List O → Prop
  | nil : Owns K F H [] []
  | cons {a : Addr} {o : O} {bs : List Addr} {os : List O} : OwnAt K F H a o → F a = none → Owns K F H bs os → Owns K F H (a :: bs) (o :: os)
theorem Owns.len {K : PySem.W.Frag} {F H : Hp} {bs : List Addr} {os : List O} (h : Owns K F H bs os) : bs.length = os.length := by
  induction h with
  | nil => rfl
  | cons _ _ _ ih => simp [ih]
theorem Owns.there {K : PySem.W.Frag} {F H : Hp} {bs : List Addr} {os : List O} (h : Owns K F H bs os) : ∀ a ∈ bs, (∃ u, H a = some u) ∧ F a = none := by
  induction h with
  | nil => intro a h; cases h
  | cons w f _ ih =>
    intro a ha
    rcases List.mem_cons.mp ha with e | e
    · subst e; exact ⟨w.there, f⟩
    · exact ih a e
theorem Owns.mono {K : PySem.W.Frag} {F H F' H' : Hp} {bs : List Addr} {os : List O} (h : Owns K F H bs os) (g : Grow F F') (k : ∀ b ∈ bs, ∀ u, H b = some u → H' b = some u) (n : ∀ b ∈ bs, F' b = none) : Owns K F' H' bs os := by
  induction h with
  | nil => exact .nil
  | cons w f _ ih => exact .cons (w.mono g (k _ List.mem_cons_self)) (n _ List.mem_cons_self) (ih (fun b hb => k b (List.mem_cons_of_mem _ hb)) fun b hb => n b (List.mem_cons_of_mem _ hb))
theorem Owns.snoc {K : PySem.W.Frag} {F H : Hp} {bs : List Addr} {os : List O} {a : Addr} {o : O} (h : Owns K F H bs os) (w : OwnAt K F H a o) (f : F a = none) : Owns K F H (bs ++ [a]) (os ++ [o]) := by
  induction h with
  | nil => exact .cons w f .nil
  | cons w' f' _ ih => exact .cons w' f' ih
theorem Owns.evo {K : PySem.W.Frag} {F H F' H' : Hp} {fp fp' bs : List Addr} {os : List O} (h : Owns K F H bs os) (x : Evo F H fp F' H' fp') (n : ∀ b ∈ bs, b ∉ fp) : Owns K F' H' bs os ∧ ∀ b ∈ bs, b ∉ fp' := by
  refine ⟨h.mono x.grow (fun b hb u e => x.keep b u e (n b hb)) fun b hb => ?_, fun b hb z => ?_⟩
  · obtain ⟨⟨u, hu⟩, f⟩ := h.there b hb
    exact x.out b u hu f (n b hb)
  · obtain ⟨⟨u, hu⟩, f⟩ := h.there b hb
    rcases x.fpn b z with q | q
    · exact n b hb q
    · rw [hu] at q; cases q
def MeetO (K : PySem.W.Frag) (cl : Cls) (E : XK) (σ : L2.St) (F0 H0 : Hp) (fp0 : List Addr) (Q : VK) : Out (List O) → Prop
  | .ok os ev => ∀ F H fp p bs, Evo F0 H0 fp0 F H (p :: (bs ++ fp)) → DS K F H σ ev fp → Owns K F H bs os → H p = some (.lst (bs.map V.ref)) → F p = none → (p :: (bs ++ fp)).Nodup → Q (.ref p) H
  | .exc k => ExcOk cl E H0 fp0 k
  | .stuck => False
abbrev Ox := List Sl → Out (List O)
def MeansO (X : Cx) (cl : Cls) (E : XK) (t : TE) (f : Ox) : Prop := ∀ F H σ ev fp Q, DS X.K F H σ ev fp → MeetO X.K cl E σ F H fp Q (f ev) → t σ H Q
def DO (X : Cx) (cl : Cls) (E : XK) (e : Expr) (f : Ox) : Prop := ∃ t, PE X e t ∧ MeansO X cl E t f
def compO (b : Bx) (el : Ex) (vs : List Nat) : List D → List O → List Sl → Out (List O)
  | [], acc, ev => .ok acc ev
  | x :: xs, acc, ev => match b x ev with
    | none => .stuck
    | some e1 => match el e1 with
      | .ok (.tmp o) e4 => if acc.length < lim then compO b el vs xs (acc ++ [o]) (wipeE e4 vs) else .stuck
      | _ => .stuck
def oComp (f : Ix) (b : Bx) (el : Ex) (vs : List Nat) : Ox := fun ev => match f ev with
  | .ok items e1 => (match compO b el vs items [] (wipeE e1 vs) with
    | .ok ds e2 => .ok ds (wipeE e2 vs)
    | _ => .stuck)
  | .exc k => .exc k
  | .stuck => .stuck
section
variable {X : Cx} {cl : Cls} {E : XK} {W : List Nat} {lv : Nat} {tg : Expr}
theorem compO_ok {wi : TI} {g : TG} {tt : TT} {te : TE} {f : Ix} {b : Bx} {fe : Ex} {vs : List Nat}
    (hi : ∀ F H σ ev fp R, DS X.K F H σ ev fp → MeetI X.K cl E σ F H fp R (f ev) → wi σ H R)
    (hg : ∀ F H σ ev fp v d ev' (Q : L2.St → Hp → Prop), DS X.K F H σ ev fp → Rp X.K F v d → b d ev = some ev' → (∀ σ' fp', DS X.K F H σ' ev' fp' → (∀ a ∈ fp', a ∈ fp) → Frm vs σ σ' → Q σ' H) → g v σ H Q)
    (ht : MeansT X cl E0 tt tYes') (he : Means X cl E0 te fe) : MeansO X cl E (tLc wi g tt te vs) (oComp f b fe vs) := fun F H σ ev fp Q d m => by
  unfold oComp at m
  refine hi F H σ ev fp _ d ?_
  cases e : f ev with
  | stuck => rw [e] at m; exact m
  | exc k => rw [e] at m; exact m
  | ok items e1 =>
  rw [e] at m
  intro F1 H1 fp1 J x1 d1 it
  obtain ⟨G, Y, w, hG, hY⟩ := it.ex
  intro Da nD
  have fD : F1 Da = none := d1.sub.none nD
  have rest : ∃ ds e2, compO b fe vs items [] (wipeE e1 vs) = .ok ds e2 ∧ MeetO X.K cl E σ F H fp Q (.ok ds (wipeE e2 vs)) := by
    cases ec : compO b fe vs items [] (wipeE e1 vs) with
    | stuck => simp only [ec] at m; exact m.elim
    | exc k => simp only [ec] at m; exact m.elim
    | ok ds e2 => simp only [ec] at m; exact ⟨ds, e2, rfl, m⟩
  obtain ⟨ds, e2, ec, m2⟩ := rest
  clear m
  obtain ⟨fpw, dw, sw⟩ := d1.wipe vs
  have x0 : Ext F1 H1 F1 (upd H1 Da (.lst [])) := ext_own d1.sub nD
  have nfp : ∀ {b}, b ∈ fp1 → b ≠ Da := fun {b} hb z => by
    obtain ⟨_, u, hu⟩ := d1.sr.free b hb
    rw [z, nD] at hu; cases hu
  refine lc_it w (fun i H' => ∃ F' ev' fp' acc bs, DS X.K F' H' (L2.wipe σ vs) ev' fp' ∧ Evo F1 H1 fp1 F' H' (Da :: (bs ++ fp')) ∧ H' Da = some (.lst (bs.map V.ref)) ∧ Owns X.K F' H' bs acc ∧ F' Da = none ∧ (Da :: (bs ++ fp')).Nodup ∧ compO b fe vs (items.drop i) acc ev' = .ok ds e2) ?_ ?_ ?_ ?_
  · refine ⟨F1, wipeE e1 vs, fpw, [], [], dw.ext x0, ⟨fun b o h n => x0.keep b o h, Grow.refl _, fun b o h f n => f, fun b hb => ?_⟩, upd_same, .nil, fD, List.nodup_cons.mpr ⟨fun z => nfp (sw _ (by simpa using z)) rfl, by simpa using dw.nd⟩, ec⟩
    rcases List.mem_cons.mp hb with z | z
    · exact .inr (by rw [z]; exact nD)
    · exact .inl (sw b (by simpa using z))
  · rintro i H' hi ⟨F', ev', fp', acc, bs, d', x', _, _, _, _, _⟩
    exact hG F' H' _ x' d'.sub
  · rintro i x H' H3 hi ⟨F', ev', fp', acc, bs, d', x', hD, ra, nF, nd', ec'⟩ y
    obtain ⟨F3, dd, hd, ex, rp⟩ := hY i F' H' _ x H3 hi x' d'.sub y
    have hdrop : items.drop i = dd :: items.drop (i + 1) := by
      have hlt := hi
      rw [List.drop_eq_getElem_cons hlt]
      have : items[i] = dd := by
        rw [List.getElem?_eq_getElem hlt] at hd
        exact Option.some.inj hd
      rw [this]
    rw [hdrop] at ec'
    unfold compO at ec'
    cases eb : b dd ev' with
    | none => simp only [eb] at ec'; cases ec'
    | some e3 =>
    simp only [eb] at ec'
    have d3 := d'.ext ex
    refine hg F3 H3 _ ev' fp' x dd e3 _ d3 rp eb fun σ2 fp2 d2 s2 f2 => ?_
    have hlen : σ2.length = σ.length := f2.len.trans (wipe_length _ _)
    refine ⟨wipe_frm hlen f2, ?_⟩
    have x3 : Evo F1 H1 fp1 F3 H3 (Da :: (bs ++ fp2)) := (x'.trans (ex.evo _)).fewer fun b hb => by
      rcases List.mem_cons.mp hb with z | z
      · rw [z]; exact List.mem_cons_self
      · refine List.mem_cons_of_mem _ (List.mem_append.mpr ?_)
        rcases List.mem_append.mp z with q | q
        · exact .inl q
        · exact .inr (s2 b q)
    have ndd := List.nodup_cons.mp nd'
    have ndb := List.nodup_append.mp ndd.2
    have hD3 := ex.keep _ _ hD
    have nF3 := ex.out _ _ hD nF
    have nfp2 : Da ∉ fp2 := fun z => ndd.1 (List.mem_append_right _ (s2 _ z))
    have ra3 : Owns X.K F3 H3 bs acc := ra.mono ex.grow (fun b _ u h => ex.keep b u h) fun b hb => let ⟨⟨u, hu⟩, f⟩ := ra.there b hb; ex.out b u hu f
    have nbs : ∀ b ∈ bs, b ∉ fp2 := fun b hb z => ndb.2.2 b hb b (s2 b z) rfl
    refine ht F3 H3 σ2 e3 fp2 _ d2 ?_
    intro F4 H4 fp4 x4 d4
    simp only [if_true]
    have hD4 := x4.keep _ _ hD3 nfp2
    have nF4 := x4.out _ _ hD3 nF3 nfp2
    have nfp4 : Da ∉ fp4 := fun z => (x4.fpn _ z).elim nfp2 fun w => by rw [hD3] at w; cases w
    obtain ⟨ra4, nbs4⟩ := ra3.evo x4 nbs
    have x4' : Evo F1 H1 fp1 F4 H4 (Da :: (bs ++ fp4)) := by
      have := x3.trans (x4.consL (Da :: bs))
      simpa using this
    refine he F4 H4 σ2 e3 fp4 _ d4 ?_
    cases ee : fe e3 with
    | stuck => simp only [ee] at ec'; cases ec'
    | exc k => simp only [ee] at ec'; cases ec'
    | ok r e5 =>
    intro F5 H5 fp5 yv tp x5 d5 rv nd5
    cases rv with
    | dat _ => simp only [ee] at ec'; cases ec'
    | bor _ _ => simp only [ee] at ec'; cases ec'
    | @tmp a o w5 f5 =>
    simp only [ee] at ec'
    split at ec'
    · rename_i hl
      have hD5 := x5.keep _ _ hD4 nfp4
      have nF5 := x5.out _ _ hD4 nF4 nfp4
      have nfp5 : Da ∉ [a] ++ fp5 := fun z => (x5.fpn _ z).elim nfp4 fun w => by rw [hD4] at w; cases w
      obtain ⟨ra5, nbs5⟩ := ra4.evo x5 nbs4
      have hb5 := ra5.len
      refine ⟨bs.map V.ref, hD5, lim_lt (by rw [List.length_map, hb5]; exact Nat.le_of_lt hl), ?_⟩
      have ua : a ≠ Da := fun z => nfp5 (by rw [← z]; simp)
      have d7 : DS X.K F5 (upd H5 Da (.lst (bs.map V.ref ++ [V.ref a]))) σ2 e5 fp5 := by
        refine ⟨fun b o r => ?_, d5.sr.mono (Grow.refl _) (fun b hb u h => ?_) fun b hb => (d5.sr.free b hb).1, d5.nd⟩
        · have ne : b ≠ Da := fun z => by
            subst z
            rcases r with r | ⟨w, r⟩ <;> rw [nF5] at r <;> cases r
          rcases d5.sub b o r with z | ⟨y, z⟩
          · exact .inl (by rw [upd_ne ne]; exact z)
          · exact .inr ⟨y, by rw [upd_ne ne]; exact z⟩
        · rw [upd_ne (fun z => nfp5 (List.mem_append_right _ (by rw [← z]; exact hb)))]; exact h
      obtain ⟨fp8, d8, s8⟩ := d7.wipe vs
      rw [wipe_frm hlen f2] at d8
      have x5' : Evo F1 H1 fp1 F5 H5 (Da :: (bs ++ ([a] ++ fp5))) := by
        have := x4'.trans (x5.consL (Da :: bs))
        simpa using this
      have ra6 : Owns X.K F5 (upd H5 Da (.lst (bs.map V.ref ++ [V.ref a]))) (bs ++ [a]) (acc ++ [o]) := by
        refine Owns.mono (H := H5) (F := F5) (ra5.snoc w5 f5) (Grow.refl _) (fun b hb u h => ?_) fun b hb => ((ra5.snoc w5 f5).there b hb).2
        rw [upd_ne (fun z => ?_)]
        · exact h
        · subst z
          rcases List.mem_append.mp hb with q | q
          · exact ndd.1 (List.mem_append_left _ q)
          · exact ua (by have := List.mem_singleton.mp q; exact this.symm)
      refine ⟨F5, _, fp8, acc ++ [o], bs ++ [a], d8, ⟨fun b o' h n => ?_, x5'.grow, x5'.out, fun b hb => ?_⟩, by rw [upd_same]; simp, ra6, nF5, ?_, ec'⟩
      · have ne : b ≠ Da := fun z => by rw [z, nD] at h; cases h
        rw [upd_ne ne]
        exact x5'.keep b o' h n
      · refine x5'.fpn b ?_
        rcases List.mem_cons.mp hb with z | z
        · rw [z]; exact List.mem_cons_self
        · refine List.mem_cons_of_mem _ ?_
          simp only [List.mem_append, List.mem_singleton] at z ⊢
          rcases z with (z | z) | z
          · exact .inl z
          · exact .inr (.inl z)
          · exact .inr (.inr (s8 b z))
      · refine List.nodup_cons.mpr ⟨fun z => ?_, ?_⟩
        · simp only [List.mem_append, List.mem_singleton] at z
          rcases z with (z | z) | z
          · exact ndd.1 (List.mem_append_left _ z)
          · exact ua z.symm
          · exact nfp5 (List.mem_append_right _ (s8 _ z))
        · have na : a ∉ fp5 := by
            have := nd5
            simp only [List.singleton_append, List.nodup_cons] at this
            exact this.1
          refine List.nodup_append.mpr ⟨List.nodup_append.mpr ⟨ndb.1, by simp, fun x hx y hy z => ?_⟩, d8.nd, fun x hx y hy z => ?_⟩
          · subst z
            have : x = a := by simpa using hy
            subst this
            exact nbs5 x hx (by simp)
          · subst z
            rcases List.mem_append.mp hx with q | q
            · exact nbs5 x q (List.mem_append_right _ (s8 x hy))
            · have : x = a := by simpa using q
              subst this
              exact na (s8 x hy)
    · cases ec'
  · rintro H' ⟨F', ev', fp', acc, bs, d', x', hD, ra, nF, nd', ec'⟩
    rw [List.drop_length] at ec'
    unfold compO at ec'
    cases ec'
    obtain ⟨fp3, s3, l3⟩ := d'.sr.unwipe vs (σ' := σ) (by rw [wipe_length]) fun i hi => by rw [wipe_get]; simp [hi]
    have ndd := List.nodup_cons.mp nd'
    have ndb := List.nodup_append.mp ndd.2
    refine m2 F' H' fp3 _ bs (x1.trans (x'.fewer fun b hb => ?_)) ⟨d'.sub, s3, d'.nd.sublist l3⟩ ra hD nF (List.nodup_cons.mpr ⟨fun z => ndd.1 ?_, List.nodup_append.mpr ⟨ndb.1, d'.nd.sublist l3, fun x hx y hy z => ndb.2.2 x hx y (l3.subset hy) z⟩⟩)
    · rcases List.mem_cons.mp hb with z | z
      · rw [z]; exact List.mem_cons_self
      · refine List.mem_cons_of_mem _ (List.mem_append.mpr ?_)
        rcases List.mem_append.mp z with q | q
        · exact .inl q
        · exact .inr (l3.subset q)
    · rcases List.mem_append.mp z with q | q
      · exact List.mem_append_left _ q
      · exact List.mem_append_right _ (l3.subset q)
theorem do_comp {elt iter : Expr} {scope : Scope} {own : List (Str × Nat)} {pos : Pos} {f : Ix} {b : Bx} {fe : Ex} (c : Cxt X E lv) (hi : DI X cl E tg iter f) (ok : BlkOk X.N X.env.scope scope own)
    (hg : ∀ (s : Shared) (H : Hp) (C : Addr) (cls : List (Str × Addr)) (fp : List Addr), DG (X.blk s H scope (compEnvC scope cls C X.env) fp) (own.map (·.2)) tg b)
    (he : ∀ (s : Shared) (H : Hp) (C : Addr) (cls : List (Str × Addr)) (fp : List Addr), Cxt (X.blk s H scope (compEnvC scope cls C X.env) fp) E0 lv → DE (X.blk s H scope (compEnvC scope cls C X.env) fp) cl E0 elt fe) (hs : ∀ x, foldedSetIterable iter X.env x = pure x := by intro _; rfl) :
    DO X cl E (.ListComp elt [⟨tg, iter, [], 0⟩] scope pos) (oComp f b fe (own.map (·.2))) := by
  obtain ⟨wi, pi, hi⟩ := hi
  refine ⟨_, pe_lc (g := canG X.K (own.map (·.2)) b) (tt := tYes) (te := canE X.K cl E0 fe) c.calm c.nd pi ok (fun s H C cls fp => (hg s H C cls fp).can) (fun s H C cls fp => pts_nil) (fun s H C cls fp => (he s H C cls fp (c.blk ..)).can) hs, ?_⟩
  exact compO_ok hi (fun F H σ ev fp v d ev' Q ds rp eb k => ⟨F, ev, fp, d, ev', ds, rp, eb, k⟩) (fun F H σ ev fp Q d m => m F H fp (Evo.refl _ _ _) d) fun F H σ ev fp Q d m => ⟨F, ev, fp, d, m⟩

/-! ### a def that hands back such a list -/
inductive FOutO where
  | ok (os : List O) | stuck
def MeetFO (K : PySem.W.Frag) (F H : Hp) (fp : List Addr) (Q : VK) : FOutO → Prop
  | .ok os => ∀ F' H' fp' p bs, Evo F H fp F' H' (p :: (bs ++ fp')) → Sub F' H' → Owns K F' H' bs os → H' p = some (.lst (bs.map V.ref)) → F' p = none → (p :: (bs ++ fp')).Nodup → Q (.ref p) H'
  | .stuck => False
def spO (K : PySem.W.Frag) (n : Nat) (f : List Sl → FOutO) : Sp := fun vs H Q E => vs.length = n ∧ ∃ F ev fp, DS K F H (vs.map some) ev fp ∧ MeetFO K F H fp Q (f ev)
def fnSemO (n : Nat) (f : Ox) : List Sl → FOutO := fun args => match f (args ++ List.replicate (n - args.length) .un) with
  | .ok os _ => .ok os
  | _ => .stuck
def GoodO (P : Program) (w : World) (K : PySem.W.Frag) (mg : Str → Option Value) (base : Heap) (k : Nat) (x : Str) (n : Nat) (f : List Sl → FOutO) : Prop :=
  ∃ fa fd ps, FnOk P w K mg base (L2N.CX P w) k fa fd ps (spO K n f) ∧ mg x = some (.ref fa) ∧ PySem.W.keepIn K (.ref fa) = true ∧ Binds K fd ps []
theorem def_okO {P : Program} {w : World} {K : PySem.W.Frag} {mg : Str → Option Value} {base : Heap} {cl : Cls} {x qual : Str} {st : Stmt} {fa : Addr} {fd : FuncData} {N ps : List Str} {k : Nat} {f : Ox} {e : Expr} {pos : Pos} (F : Fun K x qual st fa fd) (S : FnScope N ps (defScope st)) (hst : defBody st = [.Return (some e) pos])
    (hbody : ∀ (cdv : Value) (A : Around) (outer : List Env) (s : Shared) (H : Hp) (E : XK), Cxt (cxOf (L2N.CX P w) P w K mg base N qual (defScope st) fa cdv A outer s H E) E k →
      DO (cxOf (L2N.CX P w) P w K mg base N qual (defScope st) fa cdv A outer s H E) cl E e f) :
    FnOk P w K mg base (L2N.CX P w) (k + 1) fa fd ps (spO K ps.length (fnSemO N.length f)) := by
  obtain ⟨oc, od, kV, doc, pm, an, cdv, ct, osl, rfl, lk, hcd⟩ := F.ex
  refine fn_of lk hcd S (fun vs H Q E h => h.1) fun A outer s H vs Q E hr h => ?_
  obtain ⟨hn, F0, args, fp, d, m⟩ := h
  have tk : L2N.Takes (cxOf (L2N.CX P w) P w K mg base N qual (defScope st) fa cdv A outer s H E) (fun c d _ H => E c d H) := L2N.takes_of rfl rfl rfl rfl
  obtain ⟨t, p, hb⟩ := hbody cdv A outer s H E ⟨S.nd, rfl, hr, L2N.passes_call tk fun _ _ _ _ h => h, tk⟩
  rw [hst]
  refine ⟨_, pss_one (ps_ret p), ?_⟩
  have la : args.length = vs.length := by have := d.sr.len; simpa using this.symm
  have d0 : DS K F0 H (L2.start N vs) (args ++ List.replicate (N.length - args.length) .un) fp := by
    refine ⟨d.sub, ?_, d.nd⟩
    unfold L2.start
    rw [la]
    exact d.sr.more _
  refine hb F0 H _ _ fp _ d0 ?_
  unfold fnSemO at m
  cases e : f (args ++ List.replicate (N.length - args.length) .un) with
  | stuck => simp only [e] at m; exact False.elim m
  | exc k => simp only [e] at m; exact False.elim m
  | ok os e1 =>
    simp only [e] at m
    exact fun F1 H1 fp1 p bs x1 d1 ow hp fp nd => m F1 H1 fp1 p bs x1 d1.sub ow hp fp nd
def oCall (f : List Sl → FOutO) (fs : List Ex) : Ox := fun ev => (argsS fs ev).bind fun ds e1 => match f (ds.map Sl.dat) with
  | .ok os => .ok os e1
  | .stuck => .stuck
theorem do_call {x : Str} {p pos : Pos} {e : Expr} {es : List Expr} {fs : List Ex} {k n : Nat} {f : List Sl → FOutO} (G : GoodO X.prog X.w X.K X.mg X.base k x n f) (c : Cxt X E lv) (ha : DAs X cl E (e :: es) fs) (hg : Gl X x) (hk : k ≤ lv := by decide) (hn : fs.length = n := by rfl) (hdb : (x == ("__debug__" : Str)) = false := by decide)
    (he : starEach (e :: es) X.env = (false, eval e X.env) :: starEach es X.env := by rfl) (hpl : (backTo pos (starEach es X.env)).any (·.1) = false := by rfl) : DO X cl E (.Call (.Name x p) (e :: es) [] pos) (oCall f fs) := by
  obtain ⟨fa, fd, ps, Fn, hm, hkp, hb⟩ := G
  obtain ⟨t, pa, ha⟩ := ha
  refine ⟨_, pe_call Fn (c.room.mono hk) hg hm hkp hb .nil c.pass pa hdb he hpl, fun F H σ ev fp Q d m => ha F H σ ev fp _ d ?_⟩
  unfold oCall at m
  cases e : argsS fs ev with
  | stuck => rw [e] at m; exact m
  | exc k => rw [e] at m; exact m
  | ok ds e1 =>
    rw [e] at m
    simp only [Out.bind_ok] at m
    intro F1 H1 fp1 vs x1 d1 rs
    rw [List.append_nil]
    refine ⟨by rw [rs.length, argsS_len fs e, hn], F1, ds.map Sl.dat, [], ⟨d1.sub, sr_args rs, .nil⟩, ?_⟩
    cases eo : f (ds.map Sl.dat) with
    | stuck => simp only [eo] at m; exact m
    | ok os =>
      simp only [eo] at m
      intro F2 H2 fp2 p bs x2 s2 ow hp fpn nd
      have d2 := d1.behind x2 s2
      have nda := List.nodup_append.mp (show ((p :: bs) ++ fp2).Nodup from by simpa using nd)
      have fr : ∀ b ∈ p :: bs, H1 b = none := fun b hb => by
        rcases x2.fpn b (by
          rcases List.mem_cons.mp hb with z | z
          · rw [z]; exact List.mem_cons_self
          · exact List.mem_cons_of_mem _ (List.mem_append_left _ z)) with q | q
        · cases q
        · exact q
      refine m F2 H2 fp1 p bs (x1.trans ⟨fun b o h _ => x2.keep b o h (by simp), x2.grow, fun b o h f _ => x2.out b o h f (by simp), fun b hb => ?_⟩) d2 ow hp fpn ?_
      · have hb' : b ∈ (p :: bs) ++ fp1 := by simpa using hb
        rcases List.mem_append.mp hb' with z | z
        · exact .inr (fr b z)
        · exact .inl z
      · have : ((p :: bs) ++ fp1).Nodup := List.nodup_append.mpr ⟨nda.1, d1.nd, fun a ha b hb z => by
          subst z
          obtain ⟨_, u, hu⟩ := d1.sr.free a hb
          rw [fr a ha] at hu; cases hu⟩
        simpa using this
/-! ### for bag in ..: -/
def forO (i : Nat) (body : Sx) : List O → List Sl → SOut
  | [], ev => .nx ev
  | o :: os, ev => match body (ev.set i (.own o)) with
    | .nx e2 => forO i body os e2
    | .ct e2 => forO i body os e2
    | .bk e2 => .nx e2
    | r => r
def sForO (f : Ox) (i : Nat) (body : Sx) : Sx := fun ev => match f ev with
  | .ok items e1 => forO i body items e1
  | .exc k => .exc k
  | .stuck => .stuck
theorem Owns.drop {K : PySem.W.Frag} {F H : Hp} : ∀ (n : Nat) {bs : List Addr} {os : List O}, Owns K F H bs os → Owns K F H (bs.drop n) (os.drop n)
  | 0, _, _, h => h
  | _ + 1, _, _, .nil => .nil
  | n + 1, _, _, .cons _ _ t => Owns.drop n t
theorem ds_forO {x : Str} {px : Pos} {iter : Expr} {body : List Stmt} {f : Ox} {i : Nat} {s : Sx} {pos : Pos} (hp : PassesOwn (model X.prog X.w) X.A X.env X.xe) (c : Cxt X E lv) (hi : DO X cl E iter f) (hb : DSs X cl E W body s) (hN : X.N[i]? = some x := by rfl)
    (hx : Loc X.env.scope x := by first | exact Or.inl rfl | exact Or.inr rfl) (hf : X.fn x = true ∨ X.env.scope.names.lookup x = some .local := by first | exact .inl rfl | exact .inr rfl | assumption) (hw : i ∈ W := by decide)
    (hs : ∀ x, foldedSetIterable iter X.env x = pure x := by intro _; rfl) : DSt X cl E W (.For (.Name x px) iter body [] pos) (sForO f i s) := by
  obtain ⟨t, p, hi⟩ := hi
  obtain ⟨tb, pb, hb⟩ := hb
  refine ⟨_, ps_for hp c.calm (pi_list p) (pg_name c.nd hN hx hf) pb hs, fun F H σ ev fp D d m => ?_⟩
  unfold sForO at m
  refine hi F H σ ev fp _ d ?_
  cases e : f ev with
  | stuck => rw [e] at m; exact m
  | exc k => rw [e] at m; exact m
  | ok os e1 =>
  rw [e] at m
  intro F1 H1 fp1 p bs x1 d1 ow hp fpn nd
  refine ⟨p, rfl, ⟨_, SqL.of hp⟩, ?_⟩
  have ndd := List.nodup_cons.mp nd
  have ndb := List.nodup_append.mp ndd.2
  have x1' : Evo F H fp F1 H1 fp1 := x1.fewer fun b hb => List.mem_cons_of_mem _ (List.mem_append_right _ hb)
  refine for_list (xs := bs.map V.ref) (fun k σ' H' => ∃ F' ev' fp', DS X.K F' H' σ' ev' fp' ∧ Evo F H fp F' H' fp' ∧ Frm W σ σ' ∧ H' p = some (.lst (bs.map V.ref)) ∧ p ∉ fp' ∧ F' p = none ∧ Owns X.K F' H' (bs.drop k) (os.drop k) ∧ (∀ b ∈ bs.drop k, b ∉ fp' ∧ b ≠ p ∧ (b ∈ fp ∨ H b = none)) ∧ (bs.drop k).Nodup ∧ MeetS X.K cl E W σ F H fp D (forO i s (os.drop k) ev')) ?_ ?_ ?_ ?_
  · exact ⟨F1, e1, fp1, d1, x1', Frm.refl _ _, hp, fun z => ndd.1 (List.mem_append_right _ z), fpn, ow, fun b hb => ⟨fun z => ndb.2.2 b hb b z rfl, fun z => ndd.1 (by rw [← z]; exact List.mem_append_left _ hb), x1.fpn b (List.mem_cons_of_mem _ (List.mem_append_left _ hb))⟩, ndb.1, m⟩
  · rintro k σ' H' _ ⟨F', ev', fp', d', x', f', hp', _⟩
    exact SqL.of hp'
  · rintro k v σ' H' hv ⟨F', ev', fp', d', x', f', hp', np, nF, ow', nb, nk, m'⟩
    have hk : k < bs.length := by
      have := (List.getElem?_eq_some_iff.mp hv).1
      simpa using this
    have hko : k < os.length := by rw [← ow.len]; exact hk
    have e1b : bs.drop k = bs[k] :: bs.drop (k + 1) := List.drop_eq_getElem_cons hk
    have e1o : os.drop k = os[k] :: os.drop (k + 1) := List.drop_eq_getElem_cons hko
    have hve : v = .ref bs[k] := by
      rw [List.getElem?_map, List.getElem?_eq_getElem hk] at hv
      exact (Option.some.inj hv).symm
    subst hve
    rw [e1b] at nk nb
    rw [e1b, e1o] at ow'
    rw [e1o] at m'
    unfold forO at m'
    cases ow' with
    | cons w0 f0 ow2 =>
    have nb0 := nb _ List.mem_cons_self
    obtain ⟨fp2, s2, n2, m2⟩ := d'.sr.setOwn w0 f0 i
    have d2 : DS X.K F' H' (σ'.set i (some (.ref bs[k]))) (ev'.set i (.own os[k])) fp2 := ⟨d'.sub, s2, n2 d'.nd nb0.1⟩
    have x2 : Evo F H fp F' H' fp2 := ⟨x'.keep, x'.grow, x'.out, fun b hb => by
      rcases m2 b hb with z | z
      · rw [z]; exact nb0.2.2
      · exact x'.fpn b z⟩
    have f2 : Frm W σ (σ'.set i (some (.ref bs[k]))) := f'.trans (Frm.set hw _)
    have np2 : p ∉ fp2 := fun z => (m2 p z).elim (fun q => nb0.2.1 q.symm) np
    have nk2 := List.nodup_cons.mp nk
    have nb2 : ∀ b ∈ bs.drop (k + 1), b ∉ fp2 := fun b hb z => (m2 b z).elim (fun q => nk2.1 (by rw [← q]; exact hb)) (nb b (List.mem_cons_of_mem _ hb)).1
    refine hb F' H' _ _ fp2 _ d2 ?_
    have again : ∀ e3, MeetS X.K cl E W σ F H fp D (forO i s (os.drop (k + 1)) e3) → ∀ F4 H4 σ4 fp4, Evo F' H' fp2 F4 H4 fp4 → DS X.K F4 H4 σ4 e3 fp4 → Frm W (σ'.set i (some (.ref bs[k]))) σ4 → ∃ F' ev' fp', DS X.K F' H4 σ4 ev' fp' ∧ Evo F H fp F' H4 fp' ∧ Frm W σ σ4 ∧ H4 p = some (.lst (bs.map V.ref)) ∧ p ∉ fp' ∧ F' p = none ∧ Owns X.K F' H4 (bs.drop (k + 1)) (os.drop (k + 1)) ∧ (∀ b ∈ bs.drop (k + 1), b ∉ fp' ∧ b ≠ p ∧ (b ∈ fp ∨ H b = none)) ∧ (bs.drop (k + 1)).Nodup ∧ MeetS X.K cl E W σ F H fp D (forO i s (os.drop (k + 1)) ev') := fun e3 m3 F4 H4 σ4 fp4 x4 d4 f4 => by
      obtain ⟨ow4, nb4⟩ := ow2.evo x4 nb2
      exact ⟨F4, e3, fp4, d4, x2.trans x4, f2.trans f4, x4.keep _ _ hp' np2, fun z => (x4.fpn _ z).elim np2 (fun q => by rw [hp'] at q; exact nomatch q), x4.out _ _ hp' nF np2, ow4, fun b hb => ⟨nb4 b hb, (nb b (List.mem_cons_of_mem _ hb)).2⟩, nk2.2, m3⟩
    cases es : s (ev'.set i (.own os[k])) with
    | nx e3 =>
      simp only [es] at m'
      exact again e3 m'
    | ct e3 =>
      simp only [es] at m'
      exact again e3 m'
    | bk e3 =>
      simp only [es] at m'
      exact fun F4 H4 σ4 fp4 x4 d4 f4 => m' F4 H4 σ4 fp4 (x2.trans x4) d4 (f2.trans f4)
    | rt r e3 =>
      simp only [es] at m'
      exact fun F4 H4 σ4 fp4 v tp x4 d4 f4 rv nd => m' F4 H4 σ4 fp4 v tp (x2.trans x4) d4 (f2.trans f4) rv nd
    | exc k =>
      simp only [es] at m'
      exact ExcOk.shift x2 m'
    | stuck =>
      simp only [es] at m'
      exact m'
  · rintro σ' H' ⟨F', ev', fp', d', x', f', hp', np, nF, ow', nb, nk, m'⟩
    have e0 : os.drop (bs.map V.ref).length = [] := by rw [List.length_map, ow.len, List.drop_length]
    rw [e0] at m'
    exact m' F' H' σ' fp' x' d' f'

/-! ### zip of two tuples, of two lists -/
def zipD : List D → List D → List D
  | x :: xs, y :: ys => .tup [x, y] :: zipD xs ys
  | _, _ => []
theorem zipD_len : ∀ (xs ys : List D), (zipD xs ys).length = min xs.length ys.length
  | [], _ => by simp [zipD]
  | _ :: _, [] => by simp [zipD]
  | x :: xs, y :: ys => by simp [zipD, zipD_len xs ys]
theorem zipD_get : ∀ {xs ys : List D} {i : Nat} {x y : D}, xs[i]? = some x → ys[i]? = some y → (zipD xs ys)[i]? = some (.tup [x, y])
  | [], _, _, _, _, h, _ => by simp at h
  | _ :: _, [], _, _, _, _, h => by simp at h
  | a :: xs, b :: ys, 0, x, y, h, h' => by simp at h h'; subst h h'; rfl
  | a :: xs, b :: ys, i + 1, x, y, h, h' => by
    simp only [zipD, List.getElem?_cons_succ]
    exact zipD_get (by simpa using h) (by simpa using h')
theorem walk_zipT {K : PySem.W.Frag} {a b : Addr} {xs ys : List V} {n : Nat} (hn : n = min xs.length ys.length) : Walk (RZ.ItzT K a b) n (fun H => SqT K H a xs ∧ SqT K H b ys) (YPair (fun i => xs[i]?) (fun i => ys[i]?)) := by
  refine ⟨fun i H hi h => ?_, fun H h => ?_, fun i H x H' hi h y => ?_⟩
  · exact ⟨xs, ys, xs[i]'(by omega), ys[i]'(by omega), h.1, h.2, List.getElem?_eq_getElem _, List.getElem?_eq_getElem _⟩
  · exact ⟨xs, ys, h.1, h.2, by omega⟩
  · obtain ⟨T, u, w, e1, n1, e2, f1, f2⟩ := y
    exact ⟨T, u, w, e1, n1, e2, f1 _ h.1, f2 _ h.2⟩
theorem pair_rp {K : PySem.W.Frag} {F H : Hp} {fp : List Addr} {xs ys : List D} {vs ws : List V} {J : It} {G : Hp → Prop} (r : RpL K F vs xs) (r' : RpL K F ws ys) (w : Walk J (min vs.length ws.length) G (YPair (fun i => vs[i]?) (fun i => ws[i]?))) (hg : ∀ F2 H2 fp2, Evo F H fp F2 H2 fp2 → Sub F2 H2 → G H2) : Itr' K F H fp (zipD xs ys) J := by
  refine ⟨G, _, by rw [zipD_len, ← r.length, ← r'.length]; exact w, hg, fun i F2 H2 fp2 x H3 hi ev s y => ?_⟩
  obtain ⟨T, u, w', rfl, nT, rfl, e1, e2⟩ := y
  obtain ⟨d, h1, h2⟩ := r.getV e1
  obtain ⟨d', h1', h2'⟩ := r'.getV e2
  have nF := s.none nT
  exact ⟨upd F2 T (.tup [u, w']), _, zipD_get h1 h1', ext_new s nT, .tup (.inl (.inl upd_same)) (.cons (h2.mono fun _ _ => (ev.grow.trans (grow_upd nF)).rd) (.one (h2'.mono fun _ _ => (ev.grow.trans (grow_upd nF)).rd)))⟩
def iZip (fs : List Ex) : Ix := fun ev => (argsS fs ev).bind fun ds e1 => match ds with
  | [.tup xs, .tup ys] => .ok (zipD xs ys) e1
  | [.lst xs, .lst ys] => .ok (zipD xs ys) e1
  | _ => .stuck
theorem di_zip {e e2 : Expr} {fs : List Ex} {p pos tpos : Pos} {elts : List Expr} {kk : Nat} (hg : Gl X "zip") (hm : X.mg "zip" = none) (ha : DAs X cl E [e, e2] fs)
    (pi : ∀ ta, PA X [e, e2] ta → PI X (.Tuple elts kk tpos) (.Call (.Name "zip" p) [e, e2] [] pos) (RZ.iZipA X.K ta)) : DI X cl E (.Tuple elts kk tpos) (.Call (.Name "zip" p) [e, e2] [] pos) (iZip fs) := by
  obtain ⟨t, pa, ha⟩ := ha
  refine ⟨_, pi _ pa, fun F H σ ev fp R d m => ha F H σ ev fp _ d ?_⟩
  unfold iZip at m
  cases e : argsS fs ev with
  | stuck => rw [e] at m; exact m
  | exc k => rw [e] at m; exact m
  | ok ds e1 =>
    rw [e] at m
    simp only [Out.bind_ok] at m
    intro F1 H1 fp1 vs x1 d1 rs
    split at m
    · rename_i xs ys
      cases rs with
      | cons r t =>
      cases t with
      | cons r' t =>
      cases t
      cases r with
      | tup q r =>
      cases r' with
      | tup q' r' =>
      exact ⟨_, _, _, _, rfl, .inr ⟨Sub.seqT d1.sub q, Sub.seqT d1.sub q', m F1 H1 fp1 _ x1 d1 (pair_rp r r' (walk_zipT rfl) fun F2 H2 fp2 ev s => ⟨Sub.seqT s (Sub.seqT (fun _ _ => ev.grow.rd) q), Sub.seqT s (Sub.seqT (fun _ _ => ev.grow.rd) q')⟩)⟩⟩
    · rename_i xs ys
      cases rs with
      | cons r t =>
      cases t with
      | cons r' t =>
      cases t
      cases r with
      | lst q r =>
      cases r' with
      | lst q' r' =>
      exact ⟨_, _, _, _, rfl, .inl ⟨Sub.seqL d1.sub q, Sub.seqL d1.sub q', m F1 H1 fp1 _ x1 d1 (pair_rp r r' (walk_zip rfl) fun F2 H2 fp2 ev s => ⟨Sub.seqL s (Sub.seqL (fun _ _ => ev.grow.rd) q), Sub.seqL s (Sub.seqL (fun _ _ => ev.grow.rd) q')⟩)⟩⟩
    · exact m.elim
end
end GW

set_option Elab.async false
set_option linter.all false
set_option maxRecDepth 100000
namespace GW
open PySem PySem.Spec L2

/-! ### -x -/
def dNeg : D → Option R
  | .int i => some (.dat (.int (-i)))
  | _ => none
theorem neg_D {X : Cx} : Op1 X (rU fun i => .int (-i)) dNeg := by
  intro F H x dx Q out s rx e g
  unfold dNeg at e
  split at e
  · cases e
    have hx := rx.int
    subst hx
    exact ⟨_, rfl, give_val g s (.int _)⟩
  · cases e

/-! ### * -/
def rMulD (K : PySem.W.Frag) : R2 := fun x y H Q => rI CMul (fun i j => .int (i * j)) x y H Q ∨ rRepT K x y H Q
theorem op_mulD {X : Cx} : OpR X (binaryOp .Mult) (rMulD X.K) := op_mul.or op_repT
def dMul : D → D → Option R
  | .int i, .int j => (iMul i j).map fun k => .dat (.int k)
  | .tup xs, .int k => if xs ≠ [] ∧ 2 ≤ k ∧ k ≤ 1000 ∧ xs.length ≤ 1000 then some (.dat (.tup (List.replicate k.toNat xs).flatten)) else none
  | _, _ => none
theorem RpL.rep {K : PySem.W.Frag} {F : Hp} {vs : List V} {xs : List D} (r : RpL K F vs xs) : ∀ k : Nat, RpL K F (List.replicate k vs).flatten (List.replicate k xs).flatten
  | 0 => .nil
  | k + 1 => by
    rw [List.replicate_succ, List.replicate_succ, List.flatten_cons, List.flatten_cons]
    exact r.append (RpL.rep r k)
theorem mulD_D {X : Cx} : Op2 X (rMulD X.K) dMul := by
  intro F H x y dx dy Q out s rx ry e g
  unfold dMul at e
  split at e
  · rename_i i j
    cases q : iMul i j with
    | none => rw [q] at e; cases e
    | some k =>
      rw [q] at e; cases e
      have hx := rx.int
      have hy := ry.int
      subst hx hy
      unfold iMul at q
      split at q
      · rename_i c
        cases q
        exact .inl ⟨_, _, rfl, rfl, c, give_val g s (.int _)⟩
      · cases q
  · split at e
    · rename_i xs k h
      cases e
      obtain ⟨a, vs, rfl, h1, r1, p1⟩ := rx.tup s
      have hy := ry.int
      subst hy
      have hl := r1.length
      refine .inr ⟨a, k, vs, rfl, rfl, h1, fun z => h.1 ?_, h.2.1, h.2.2.1, by rw [hl]; exact h.2.2.2, give_tup g s (r1.rep _)⟩
      subst z
      exact List.eq_nil_of_length_eq_zero hl.symm
    · cases e
  · cases e
end GW

set_option Elab.async false
set_option linter.all false
set_option maxRecDepth 100000
namespace GW
open PySem PySem.Spec L2
theorem cx_false {P : Program} {w : World} {l : List Env} {H : Hp} {s : Shared} {e : Value} {s' : Shared} (h : L2N.CX P w l H s (fun _ _ _ => False) e s') : False := by
  obtain ⟨_, _, _, _, _, _, _, _, _, _, _, _, z⟩ := h
  exact z.elim
def onlyAt (H : Hp) (a : Addr) : Hp := fun b => if b = a then H b else none
theorem onlyAt_same {H : Hp} {a : Addr} : onlyAt H a a = H a := if_pos rfl
theorem onlyAt_some {H : Hp} {a b : Addr} {o : HO} (h : onlyAt H a b = some o) : H b = some o := by
  unfold onlyAt at h
  split at h
  · exact h
  · cases h
/-- the law's promise, from what its sem gives of the script -/
theorem law_end {K : PySem.W.Frag} {cl : Cls} {f : FS} {H : Hp} {a : Addr} {ns : List Int} (hS : SqL K H a (ns.map V.int)) (h : f [.dat (.lst (ns.map D.int))] = .ok (.dat (.bl true)) none) :
    spD K cl 1 f [.ref a] H (fun v _ => v = .bl true) fun _ _ _ => False := by
  refine ⟨rfl, onlyAt H a, [.dat (.lst (ns.map D.int))], [], ⟨fun b u r => ?_, ?_, .nil⟩, ?_⟩
  · rcases r with r | ⟨o, r⟩
    · exact .inl (onlyAt_some r)
    · exact .inr ⟨o, onlyAt_some r⟩
  · refine .dat (.lst (vs := ns.map V.int) ?_ (RpL.of_ints ns)) .nil
    rcases hS with (q | ⟨o, q⟩) | q
    · exact .inl (.inl (onlyAt_same.trans q))
    · exact .inl (.inr ⟨o, onlyAt_same.trans q⟩)
    · exact .inr q
  · rw [h]
    intro F' H' v tp fp' x s pv nd
    cases pv with
    | dat r => cases r; rfl
end GW

set_option Elab.async false
set_option linter.all false
set_option maxRecDepth 100000
namespace GW
open PySem PySem.Spec L2

/-! ### sum of a tuple -/
section
variable {prog : Program} {w : World} {A : Around} {E : Value → Shared → Prop} {s : Shared} {l : Addr}
theorem sum_intTup {xs : Array (Int × Tok)} {Q : Value → Shared → Prop} (hh : A.handled = none) (hl : s.heap.IsTuple l (intItems xs))
    (h : ∀ h' tk t', (∀ b o, s.heap.get? b = some o → h'.get? b = some o) → Q (.int (preSum (numAt xs) xs.size) t') { s with heap := h', toks := tk }) :
    wpAny (model prog w) A (call (.builtin "sum") [.ref l]) Q E s := by
  refine call_sum_walkG (wpAny_pyIter_tuple hl ?_)
  have hlt : l < s.heap.objs.size := by obtain ⟨_, e, _⟩ := hl; exact Heap.lt_size e
  refine ⟨_, _, _, _, _, _, numAt xs, rfl, Walks.tuple (A := A.in1) hh _ l (Nat.ne_of_lt hlt) (intItems xs), ⟨⟨_, Heap.get?_push_size _ rfl, rfl, rfl⟩, ?_⟩, ?_, (fun _ _ => intItems_at), fun h' tk t' hk => ?_⟩
  · obtain ⟨o, e, r⟩ := hl
    exact ⟨o, Heap.get?_push_of_some _ e, r⟩
  · intro b hb
    show b < (s.heap.push _).objs.size
    rw [Heap.size_push]
    rcases List.mem_cons.mp hb with rfl | hb
    · exact Nat.lt_succ_self _
    · rcases List.mem_cons.mp hb with rfl | hb
      · exact Nat.lt_succ_of_lt hlt
      · cases hb
  · have := h h' tk t' fun b o e => by
      refine hk b o (fun hm => ?_) (Heap.get?_push_of_some _ e)
      rcases List.mem_cons.mp hm with e1 | hm
      · exact absurd (e1 ▸ Heap.lt_size e) (Nat.lt_irrefl _)
      · cases hm
    simpa [intItems] using this
theorem sum_rawT {its : List Value} {ns : List Int} {Q : Value → Shared → Prop} (hh : A.handled = none) (hl : s.heap.IsTuple l its.toArray) (hi : PyProof.Rows.IntsAre its ns)
    (h : ∀ h' tk t', (∀ b o, s.heap.get? b = some o → h'.get? b = some o) → Q (.int ns.sum t') { s with heap := h', toks := tk }) : wpAny (model prog w) A (call (.builtin "sum") [.ref l]) Q E s := by
  obtain ⟨xs, e⟩ := hi.allInts.items
  have hn : numsOf (intItems xs).toList = ns := by rw [← e]; exact hi.numsOf
  rw [nums_intItems] at hn
  rw [e] at hl
  refine sum_intTup hh hl fun h' tk t' hk => ?_
  have := h h' tk t' hk
  rw [preSum_eq, List.take_of_length_le (by simp), hn]; exact this
end
section
variable {X : Cx}
def rSumT (K : PySem.W.Frag) : List V → Hp → VK → Prop := fun vs H Q => ∃ (a : Addr) (ns : List Int), vs = [V.ref a] ∧ (SqL K H a (ns.map V.int) ∨ SqT K H a (ns.map V.int)) ∧ Q (.int ns.sum) H
theorem cr_sumT (hc : X.calm = true) : CallR X (.builtin "sum") (rSumT X.K) := by
  intro pins s σ H vs us Q I r h
  obtain ⟨a, ns, rfl, hs, q⟩ := h
  rw [Vals.ref1 r]
  rcases hs with hs | hs
  · obtain ⟨its, rv, hl, _⟩ := I.list hs
    exact sum_raw (I.ok.hd hc) hl.isList rv.ints fun h' tk t' hk => ⟨.int _, H, I.kept hk, ⟨_, rfl⟩, q⟩
  · obtain ⟨its, rv, hl, _⟩ := I.tuple hs
    exact sum_rawT (I.ok.hd hc) hl rv.ints fun h' tk t' hk => ⟨.int _, H, I.kept hk, ⟨_, rfl⟩, q⟩
def gSumA : List D → Option R
  | [.lst xs] => (intsOf xs).map fun ns => .dat (.int ns.sum)
  | [.tup xs] => (intsOf xs).map fun ns => .dat (.int ns.sum)
  | _ => none
theorem sumA_D : OpN X (rSumT X.K) gSumA := by
  intro F H xs dxs Q out s rx e g
  unfold gSumA at e
  split at e
  · rename_i ds
    cases q : intsOf ds with
    | none => rw [q] at e; cases e
    | some ns =>
      rw [q] at e; cases e
      have hd := intsOf_eq q
      subst hd
      obtain ⟨v, rfl, r⟩ := rx.one
      obtain ⟨a, vs, rfl, h1, r1⟩ := r.lst s
      have hv := r1.ints
      subst hv
      exact ⟨a, ns, rfl, .inl h1, give_val g s (.int _)⟩
  · rename_i ds
    cases q : intsOf ds with
    | none => rw [q] at e; cases e
    | some ns =>
      rw [q] at e; cases e
      have hd := intsOf_eq q
      subst hd
      obtain ⟨v, rfl, r⟩ := rx.one
      obtain ⟨a, vs, rfl, h1, r1, _⟩ := r.tup s
      have hv := r1.ints
      subst hv
      exact ⟨a, ns, rfl, .inr h1, give_val g s (.int _)⟩
  · cases e
end
end GW

set_option Elab.async false
set_option linter.all false
set_option maxRecDepth 100000
namespace GW
open PySem PySem.Spec L2

/-! ### enumerate of a list -/
def enumD : Nat → List D → List D
  | _, [] => []
  | k, x :: xs => .tup [.int k, x] :: enumD (k + 1) xs
theorem enumD_len : ∀ (k : Nat) (xs : List D), (enumD k xs).length = xs.length
  | _, [] => rfl
  | k, x :: xs => by simp [enumD, enumD_len (k + 1) xs]
theorem enumD_get : ∀ {xs : List D} {k i : Nat} {x : D}, xs[i]? = some x → (enumD k xs)[i]? = some (.tup [.int ((k + i : Nat) : Int), x])
  | [], _, i, _, h => by simp at h
  | x :: xs, k, 0, y, h => by
    simp at h
    subst h
    simp [enumD]
  | x :: xs, k, i + 1, y, h => by
    have := enumD_get (xs := xs) (k := k + 1) (i := i) (x := y) (by simpa using h)
    rw [show k + 1 + i = k + (i + 1) by omega] at this
    simpa [enumD] using this
section
variable {X : Cx} {cl : Cls} {E : XK} {W : List Nat} {tg : Expr}
theorem enum_rp {K : PySem.W.Frag} {F H : Hp} {fp : List Addr} {xs : List D} {vs : List V} {J : It} {G : Hp → Prop} (r : RpL K F vs xs) (w : Walk J vs.length G (YPair (fun i => some (.int (i : Nat))) (fun i => vs[i]?))) (hg : ∀ F2 H2 fp2, Evo F H fp F2 H2 fp2 → Sub F2 H2 → G H2) : Itr' K F H fp (enumD 0 xs) J := by
  refine ⟨G, _, by rw [enumD_len, ← r.length]; exact w, hg, fun i F2 H2 fp2 x H3 hi ev s y => ?_⟩
  obtain ⟨T, u, w', rfl, nT, rfl, e1, e2⟩ := y
  cases e1
  obtain ⟨d', h1', h2'⟩ := r.getV e2
  have nF := s.none nT
  have g := enumD_get (k := 0) h1'
  rw [Nat.zero_add] at g
  exact ⟨upd F2 T (.tup [.int (i : Nat), w']), _, g, ext_new s nT, .tup (.inl (.inl upd_same)) (.cons (.int _) (.one (h2'.mono fun _ _ => (ev.grow.trans (grow_upd nF)).rd)))⟩
def iEnumD (fs : List Ex) : Ix := fun ev => (argsS fs ev).bind fun ds e1 => match ds with
  | [.lst xs] => .ok (enumD 0 xs) e1
  | _ => .stuck
theorem di_enum {e : Expr} {fs : List Ex} {p pos tpos : Pos} {elts : List Expr} {kk : Nat} (hg : Gl X "enumerate") (hm : X.mg "enumerate" = none) (ha : DAs X cl E [e] fs)
    (pi : ∀ ta, PA X [e] ta → PI X (.Tuple elts kk tpos) (.Call (.Name "enumerate" p) [e] [] pos) (iEnum X.K ta)) : DI X cl E (.Tuple elts kk tpos) (.Call (.Name "enumerate" p) [e] [] pos) (iEnumD fs) := by
  obtain ⟨t, pa, ha⟩ := ha
  refine ⟨_, pi _ pa, fun F H σ ev fp R d m => ha F H σ ev fp _ d ?_⟩
  unfold iEnumD at m
  cases e : argsS fs ev with
  | stuck => rw [e] at m; exact m
  | exc k => rw [e] at m; exact m
  | ok ds e1 =>
    rw [e] at m
    simp only [Out.bind_ok] at m
    intro F1 H1 fp1 vs x1 d1 rs
    split at m
    · rename_i xs
      cases rs with
      | cons r t =>
      cases t
      cases r with
      | lst q r =>
      exact ⟨_, _, rfl, Sub.seqL d1.sub q, m F1 H1 fp1 _ x1 d1 (enum_rp r walk_enum fun F2 H2 fp2 ev s => Sub.seqL s (Sub.seqL (fun _ _ => ev.grow.rd) q))⟩
    · exact m.elim
end
section
variable {X : Cx} {cl : Cls} {E : XK} {W : List Nat}
/-- a, b, c = e, e', e'': the later two are data -/
def sSet3 (i j l : Nat) (f : Ex) (gs : List Ex) : Sx := fun ev => match f ev with
  | .ok r e0 => (match keepR r e0 with
    | .ok r' e1 => (match argsS gs e1 with
      | .ok ds e2 => (match ds with
        | [d1, d2] => .nx (((e2.set i (slot r')).set j (.dat d1)).set l (.dat d2))
        | _ => .stuck)
      | .exc k => .exc k
      | .stuck => .stuck)
    | _ => .stuck)
  | .exc k => .exc k
  | .stuck => .stuck
theorem ds_set3 {i j l : Nat} {x y z : Str} {a b c : Expr} {f : Ex} {gs : List Ex} {px py pz pt : Pos} {kt k2 pt2} {pos : Pos} (hc : X.calm = true) (hN : X.N.Nodup) (ha : DE X cl E a f) (hb : DAs X cl E [b, c] gs)
    (hi : X.N[i]? = some x := by rfl) (hj : X.N[j]? = some y := by rfl) (hl : X.N[l]? = some z := by rfl) (hij : i ≠ j := by decide) (hil : i ≠ l := by decide) (hjl : j ≠ l := by decide) (hx : X.env.scope.names.lookup x = some .local := by rfl) (hy : X.env.scope.names.lookup y = some .local := by rfl) (hz : X.env.scope.names.lookup z = some .local := by rfl)
    (hw : swappedStores [.Tuple [.Name x px, .Name y py, .Name z pz] kt pt] (.Tuple [a, b, c] k2 pt2) X.env = pure (some [x, y, z]) := by rfl)
    (hs : swapsWithSole [.Tuple [.Name x px, .Name y py, .Name z pz] kt pt] (.Tuple [a, b, c] k2 pt2) pos.line X.env = pure false := by rfl) 
    (h1 : starEach [a, b, c] X.env = (false, eval a X.env) :: starEach [b, c] X.env := by rfl) (hwi : i ∈ W := by decide) (hwj : j ∈ W := by decide) (hwl : l ∈ W := by decide) :
    DSt X cl E W (.Assign [.Tuple [.Name x px, .Name y py, .Name z pz] kt pt] (.Tuple [a, b, c] k2 pt2) pos) (sSet3 i j l f gs) := by
  obtain ⟨ta, pa, ha⟩ := ha
  obtain ⟨tb, pb, hb⟩ := hb
  refine ⟨_, ps_par3 hc hN hi hj hl hij hil hjl hx hy hz (pa_cons pa pb h1) hw hs, fun F H σ ev fp D d m => ?_⟩
  unfold sSet3 at m
  refine keep_step (cl := cl) (E := E) ha d (fun r e0 r' e1 e es F1 H1 fp1 v tp x1 d1 pv nd => ?_) (fun k e => ?_) (fun e => ?_) (fun r e0 e es => ?_)
  · rw [e] at m
    simp only [es] at m
    have x1' := x1.fewer (fp2 := fp1) fun b h => List.mem_append_right _ h
    refine hb F1 H1 σ e1 fp1 _ d1 ?_
    cases e' : argsS gs e1 with
    | stuck => rw [e'] at m; exact m
    | exc k => rw [e'] at m; exact ExcOk.shift x1' m
    | ok ds e2 =>
      rw [e'] at m
      intro F2 H2 fp2 vs x2 d2 rs
      simp only [] at m
      split at m
      · rename_i da db
        cases rs with
        | cons ra t =>
        cases t with
        | cons rb t =>
        cases t
        obtain ⟨pv1, ap⟩ := pv.evo x2 nd
        have x2' := x1.trans (x2.consL tp)
        obtain ⟨fp3, d3, s3⟩ := pv1.store d2 (List.nodup_append.mpr ⟨(List.nodup_append.mp nd).1, d2.nd, fun a ha b hb z => ap a ha (by rw [z]; exact hb)⟩) i
        obtain ⟨fp4, d4, s4⟩ := (PV.dat ra).store d3 (by simpa using d3.nd) j
        obtain ⟨fp5, d5, s5⟩ := (PV.dat rb).store d4 (by simpa using d4.nd) l
        refine ⟨v, _, _, rfl, m F2 H2 _ fp5 (x2'.fewer fun b hb => ?_) d5 (((Frm.set hwi _).trans (Frm.set hwj _)).trans (Frm.set hwl _))⟩
        have := s5 b hb
        rw [List.nil_append] at this
        have := s4 b this
        rw [List.nil_append] at this
        exact s3 b this
      · exact m.elim
  · rw [e] at m; exact m
  · rw [e] at m; exact m
  · rw [e] at m; simp only [es] at m; exact m
end
end GW

set_option Elab.async false
set_option linter.all false
set_option maxRecDepth 100000
set_option maxHeartbeats 1000000
namespace GW
open PySem PySem.Spec PyProof.Rows GenW L2

/-! ### for in a generator's body -/
section
variable {prog : Program} {w : World} {A : Around} {R : GenEnd} {Y : Protocol} {n : Nat} {s₀ : Shared} {fs : List Frame} {s : Shared} {env : Env}
theorem seg_forLoop {tg : Expr} {it : Value} {body : List Stmt}
    (ex : ∀ (x : Value) (s' : Shared), notedBy (model prog w) (A.over (.forLoop tg it body [] env) fs) env (fun e s'' => Seg (model prog w) A R Y n s₀ (.forLoop tg it body [] env) (.raise e) fs s'') x s' → True)
    (h : wpAny (model prog w) (A.over (.forLoop tg it body [] env) fs) (pyNext it) (fun r s1 => match r with
      | none => Seg (model prog w) A R Y n s₀ (.block [] env) (leafOf (.ok .next)) fs s1
      | some v => wpAny (model prog w) (A.over (.forLoop tg it body [] env) fs) (letOwnedTupleGo tg it v) (fun _ s2 =>
          wpAny (model prog w) (A.over (.forLoop tg it body [] env) fs) (assign tg env v) (fun _ s3 =>
            Seg (model prog w) A R Y n s₀ (.forLoop tg it body [] env) ((execs body env).wrap (fun f => match f with
              | .next | .cont => .pure (.again (.forLoop tg it body [] env))
              | .brk => .pure (.done .next)
              | .ret v => .pure (.done (.ret v))) (fun e => (do noteFrame e env; theTreesLotGoes e : Sem Unit).wrap (fun _ => .raise e) .raise id id) id id) fs s3)
            (fun x s' => Seg (model prog w) A R Y n s₀ (.forLoop tg it body [] env) ((do noteFrame x env; theTreesLotGoes x : Sem Unit).wrap (fun _ => .raise x) .raise id id) fs s') s2)
          (fun x s' => Seg (model prog w) A R Y n s₀ (.forLoop tg it body [] env) ((do noteFrame x env; theTreesLotGoes x : Sem Unit).wrap (fun _ => .raise x) .raise id id) fs s') s1)
      (fun x s' => Seg (model prog w) A R Y n s₀ (.forLoop tg it body [] env) ((do noteFrame x env; theTreesLotGoes x : Sem Unit).wrap (fun _ => .raise x) .raise id id) fs s') s) :
    Seg (model prog w) A R Y n s₀ (.forLoop tg it body [] env) ((model prog w).den (.forLoop tg it body [] env)) fs s := by
  show Seg _ A R Y n s₀ _ ((forTurn tg it body [] env).onRaise (fun x => do noteFrame x env; theTreesLotGoes x)) fs s
  unfold forTurn
  rw [Sem.onRaise_eq_wrap]
  have hH : (fun e => (do noteFrame e env; theTreesLotGoes e : Sem Unit).bind fun _ => (Sem.raise e : Sem PySem.Fin)) = fun e => (do noteFrame e env; theTreesLotGoes e : Sem Unit).wrap (fun _ => .raise e) .raise id id := by
    funext e
    exact Sem.bind_eq_wrap _ _
  rw [hH]
  refine seg_bind_wrap (wpAny_standAt ?_)
  refine seg_bind_wrap (wpAny_onRaise (wpAny_mono h (fun r s1 h1 => ?_) fun x s' hx => wpAny_standAt hx))
  cases r with
  | none => exact seg_again rfl h1
  | some v =>
    refine seg_bind_wrap (wpAny_mono h1 (fun _ s2 h2 => ?_) fun x s' hx => hx)
    refine seg_bind_wrap (wpAny_mono h2 (fun _ s3 h3 => ?_) fun x s' hx => hx)
    rw [Sem.bind_eq_wrap', Sem.wrap_wrap]
    rw [Sem.wrap_congr (execs body env) _ _ (K' := (fun f => match f with
              | .next | .cont => .pure (.again (.forLoop tg it body [] env))
              | .brk => .pure (.done .next)
              | .ret v => .pure (.done (.ret v)) : Flow → Sem PySem.Fin)) (H' := (fun e => (do noteFrame e env; theTreesLotGoes e : Sem Unit).wrap (fun _ => .raise e) .raise id id))
        (fun f => by cases f <;> rfl) (fun e => by rfl)]
    exact h3
end
def tGFor (wi : TI) (g : TG) (tb : TGn) : TGn := fun D ys σ H => wi σ H fun J H1 => ∃ W : Nat → Nat → List V → L2.St → Hp → Prop, (∃ m, W 0 m ys σ H1) ∧ ∀ i m ys σ H, W i m ys σ H →
  (J.stop i H ∧ D.nx ys σ H) ∨ (J.go i H ∧ ∃ N : List V → L2.St → Hp → Prop, (∀ ys' σ' H', N ys' σ' H' → ∃ m', m' < m ∧ W (i + 1) m' ys' σ' H') ∧ ∀ x H', J.yld i H x H' → g x σ H' fun σ2 H2 => tb { D with nx := N, ct := N, bk := D.nx } ys σ2 H2)
section
variable {X : Cx} {tg : Expr}
theorem gs_for {iter : Expr} {body : List Stmt} {wi : TI} {g : TG} {tb : TGn} {pos : Pos} (hp : PassesOwn (model X.prog X.w) X.A X.env X.xe) (hc : X.calm = true) (hi : PI X tg iter wi) (hg : PG X tg g) (hb : GSs X body tb)
    (hs : ∀ x, foldedSetIterable iter X.env x = pure x := by intro _; rfl) : GS X (.For tg iter body [] pos) (tGFor wi g tb) := by
  refine ⟨fun A S ip R n ys s₀ c fs K J gd lv s σ H D gc hn k hI ht => ?_⟩
  obtain ⟨acc, cc, r, I⟩ := hI
  rw [exec_For]
  refine seg_bind_wrap (wpAny_standAt ?_)
  refine seg_bind_wrap ?_
  rw [gc.over]
  refine wpAny_mono (hi.run _ s σ H _ I ht) (fun v s1 h1 => ?_) fun x s' hx => k.exc n s₀ x s' hx
  refine seg_bind_wrap (wpAny_of_eq (hs v) ?_)
  refine seg_bind_wrap (wpAny_standAt ?_)
  refine seg_bind_wrap ?_
  rw [gc.over]
  refine wpAny_holding (wpAny_mono h1 (fun itv s2 h2 => ?_) fun x s' hx => k.exc n s₀ x s' hx)
  obtain ⟨it, fp, tn, Jt, H2, e, I2, T, st2, f2, W, ⟨m0, w0⟩, turn⟩ := h2
  subst e
  refine seg_call fun p => ?_
  have gl := fun (kk : Result → Sem PySem.Fin) => gc_loop (k := kk) (c' := .forLoop tg (.ref it) body [] X.env) (l := lv []) (kp := []) (p := p) gc rfl rfl
  have stat : ∀ {H' : Hp} {acc' : Array Value} {c' : Nat}, (∀ b ∈ fp, H' b = none) → ∀ b ∈ fp, FpOk X ((S, lstObj acc' c') :: ip) H' b := fun {H' acc' c'} hn b hb => by
    obtain ⟨_, a1, a2, a3, a4, a5⟩ := f2 b hb
    refine ⟨hn b hb, a1, a2, a3, a4, fun p hp => ?_⟩
    rcases List.mem_append.mp hp with hp | hp
    · exact a5 p (List.mem_append_left _ hp)
    · rcases List.mem_cons.mp hp with hp | hp
      · rw [hp]; exact a5 (S, lstObj acc cc) (List.mem_append_right _ List.mem_cons_self)
      · exact a5 p (List.mem_append_right _ (List.mem_cons_of_mem _ hp))
  have nS : ∀ b ∈ fp, b ≠ S := fun b hb z => (f2 b hb).2.2.2.2.2 (S, lstObj acc cc) (List.mem_append_right _ List.mem_cons_self) z.symm
  have loop : ∀ (m i n : Nat) (ys : List V) (s₀ s : Shared) (σ : L2.St) (H : Hp), n + ys.length = sizeLine → W i m ys σ H → GI X S ip ys σ H s → tn i s.heap → (∀ b ∈ fp, H b = none) →
      Seg (model X.prog X.w) A R (GY X S) n s₀ (.forLoop tg (.ref it) body [] X.env) ((model X.prog X.w).den (.forLoop tg (.ref it) body [] X.env))
        (.ret (fun r => ((match r with | .ok f => (.pure f : Sem Flow) | .error e => .raise e).onRaise (cameBack X.env)).wrap K J gd lv) none (gd false) (lv []) c p [] :: fs) s := by
    intro m
    induction m using Nat.strongRecOn with
    | ind m ih =>
      intro i n ys s₀ s σ H hn w hI st fr
      have ee : ∀ (n : Nat) (s₀ : Shared) (x : Value) (s' : Shared), X.xe x s' → Seg (model X.prog X.w) A R (GY X S) n s₀ (.forLoop tg (.ref it) body [] X.env)
          ((do noteFrame x X.env; theTreesLotGoes x : Sem Unit).wrap (fun _ => .raise x) .raise id id)
          (.ret (fun r => ((match r with | .ok f => (.pure f : Sem Flow) | .error e => .raise e).onRaise (cameBack X.env)).wrap K J gd lv) none (gd false) (lv []) c p [] :: fs) s' := fun n s₀ x s' hx => by
        refine seg_wrap ?_
        rw [(gl _).over]
        refine wpAny_bind (wpAny_mono (hp x s' hx) (fun _ s'' hcb => wpAny_theTreesLotGoes ?_) fun y s'' hcb => ?_)
        · exact seg_leaf (.error x) (seg_cameBack gc k hcb)
        · exact seg_leaf (.error y) (seg_cameBack gc k hcb)
      obtain ⟨acc1, c1, r1, I1⟩ := hI
      refine seg_forLoop (fun _ _ _ => trivial) ?_
      rw [(gl _).over]
      rcases turn i m ys σ H w with ⟨stop, qn⟩ | ⟨go, N, hN, step⟩
      · refine wpAny_mono (T.done X rfl rfl rfl hc i _ s σ H X.xe I1 (stat fr) st stop) (fun rr s4 h4 => ?_) fun x s' hx => ee n s₀ x s' hx
        obtain ⟨hr, I4⟩ := h4
        subst hr
        exact seg_leaf (.ok .next) (k.ok n ys s₀ s4 .next hn ⟨σ, H, ⟨acc1, c1, r1, I4⟩, qn⟩)
      · refine wpAny_mono (T.item X rfl rfl rfl hc i _ s σ H X.xe I1 (stat fr) st go) (fun rr s4 h4 => ?_) fun x s' hx => ee n s₀ x s' hx
        obtain ⟨u, hr, h4⟩ := h4
        subst hr
        refine wpAny_mono h4 (fun _ s5 h5 => ?_) fun x s' hx => ee n s₀ x s' hx
        obtain ⟨x, H5, I5, r5, y5, st5, fr5⟩ := h5
        have I5' := I5.pinned (stat fr5) (T.obj _ _ st5)
        refine wpAny_mono (hg.run _ s5 σ H5 x u _ I5' r5 (step x H5 y5)) (fun _ s6 h6 => ?_) fun x s' hx => ee n s₀ x s' hx
        obtain ⟨σ6, H6, I6, q6⟩ := h6
        have ipS : ∀ p ∈ ip ++ pinsAt fp s5.heap, p.1 ≠ S := fun q hq => by
          rcases List.mem_append.mp hq with hq | hq
          · exact gc.ip q hq
          · exact nS q.1 (of_pinsAt hq).1
        have gl' : ∀ kk : Result → Sem PySem.Fin, GC X S (ip ++ pinsAt fp s5.heap) A (.forLoop tg (.ref it) body [] X.env) (.ret kk none (gd false) (lv []) c p [] :: fs) id := fun kk =>
          ⟨(gl kk).pn, ipS, (gl kk).apart, (gl kk).over, (gl kk).split, (gl kk).guard, (gl kk).gd⟩
        have back : ∀ {ys' : List V} {σ7 : L2.St} {H7 : Hp} {s7 : Shared}, GI X S (ip ++ pinsAt fp s5.heap) ys' σ7 H7 s7 → GI X S ip ys' σ7 H7 s7 ∧ tn (i + 1) s7.heap ∧ ∀ b ∈ fp, H7 b = none := fun {ys' σ7 H7 s7} h7 => by
          obtain ⟨acc7, c7, r7, I7⟩ := h7
          have I7' : Inv X (((S, lstObj acc7 c7) :: ip) ++ pinsAt fp s5.heap) σ7 H7 s7 := I7
          refine ⟨⟨acc7, c7, r7, I7'.unpinned⟩, T.keep _ _ _ st5 fun b hb o e => (I7'.pin (b, o) (List.mem_append_right _ (List.mem_append_right _ (mem_pinsAt hb e)))).1, fun b hb => ?_⟩
          obtain ⟨o, e, d⟩ := T.obj _ _ st5 b hb
          exact (I7'.pin (b, o) (List.mem_append_right _ (List.mem_append_right _ (mem_pinsAt hb e)))).2.1
        refine hb.run A S (ip ++ pinsAt fp s5.heap) R n ys s₀ _ _ _ _ id id s6 σ6 H6 { D with nx := N, ct := N, bk := D.nx } (gl' _) hn ⟨fun n' ys' s₀' s3 f hn' hs => ?_, fun n' s₀' x s3 hx => ee n' s₀' x s3 hx⟩ ⟨acc1, c1, r1, I6⟩ q6
        cases f with
        | next =>
          obtain ⟨σ3, H3, I3, n3⟩ := hs
          obtain ⟨m', hm, w3⟩ := hN ys' σ3 H3 n3
          obtain ⟨b1, b2, b3⟩ := back I3
          exact seg_again rfl (ih m' hm (i + 1) n' ys' s₀' s3 σ3 H3 hn' w3 b1 b2 b3)
        | cont =>
          obtain ⟨σ3, H3, I3, n3⟩ := hs
          obtain ⟨m', hm, w3⟩ := hN ys' σ3 H3 n3
          obtain ⟨b1, b2, b3⟩ := back I3
          exact seg_again rfl (ih m' hm (i + 1) n' ys' s₀' s3 σ3 H3 hn' w3 b1 b2 b3)
        | brk =>
          obtain ⟨σ3, H3, I3, n3⟩ := hs
          exact seg_leaf (.ok .next) (k.ok n' ys' s₀' s3 .next hn' ⟨σ3, H3, (back I3).1, n3⟩)
        | ret v =>
          obtain ⟨x3, σ3, H3, I3, r3, n3⟩ := hs
          exact seg_leaf (.ok (.ret v)) (k.ok n' ys' s₀' s3 (.ret v) hn' ⟨x3, σ3, H3, (back I3).1, r3, n3⟩)
  exact loop m0 0 n ys s₀ s2 σ H2 hn w0 ⟨acc, cc, r, I2⟩ st2 fun b hb => (f2 b hb).1
end
end GW

set_option Elab.async false
set_option linter.all false
set_option maxRecDepth 100000
namespace GW
open PySem PySem.Spec L2

/-! ### generators: what is handed out, as data -/
def MeetL (K : PySem.W.Frag) (F0 H0 : Hp) (fp0 : List Addr) (Dn : GEnds) : Option (List D) → Prop
  | some ds => ∀ F H σ fp ys, Evo F0 H0 fp0 F H fp → Sub F H → RpL K F ys ds → ys.length ≤ lim → Dn.nx ys σ H
  | none => False
theorem MeetL.shift {K : PySem.W.Frag} {F0 H0 F H : Hp} {fp0 fp : List Addr} {D : GEnds} (x : Evo F0 H0 fp0 F H fp) : ∀ {o : Option (List GW.D)}, MeetL K F0 H0 fp0 D o → MeetL K F H fp D o
  | some _, m => fun F1 H1 σ1 fp1 ys x1 s r l => m F1 H1 σ1 fp1 ys (x.trans x1) s r l
  | none, m => m
abbrev GLx := List D → List Sl → Option (List D)
def DGn (X : Cx) (sts : List Stmt) (g : GLx) : Prop := ∃ t, GSs X sts t ∧ ∀ F H σ ev fp (D : GEnds) ys ds, DS X.K F H σ ev fp → RpL X.K F ys ds → ys.length ≤ lim → MeetL X.K F H fp D (g ds ev) → t D ys σ H
section
variable {X : Cx} {cl : Cls} {E : XK} {W : List Nat} {tg : Expr} {st : Stmt} {rest : List Stmt}
def gThen (s : Sx) (g : GLx) : GLx := fun ds ev => match s ev with
  | .nx e => g ds e
  | _ => none
theorem dg_plain {s : Sx} {g : GLx} (a : DSt X cl E W st s) (b : DGn X rest g) : DGn X (st :: rest) (gThen s g) := by
  obtain ⟨t0, p0, h0⟩ := a
  obtain ⟨t1, p1, h1⟩ := b
  refine ⟨_, gss_cons (gs_ps p0) p1, fun F H σ ev fp D ys ds d rs hl m => ?_⟩
  refine h0 F H σ ev fp _ d ?_
  unfold gThen at m
  cases e : s ev with
  | nx ev1 =>
    simp only [e] at m
    exact fun F1 H1 σ1 fp1 x1 d1 f1 => h1 F1 H1 σ1 ev1 fp1 D ys ds d1 (rs.mono fun _ _ => x1.grow.rd) hl (MeetL.shift x1 m)
  | bk ev1 => simp only [e] at m; exact False.elim m
  | ct ev1 => simp only [e] at m; exact False.elim m
  | rt r ev1 => simp only [e] at m; exact False.elim m
  | exc k => simp only [e] at m; exact False.elim m
  | stuck => simp only [e] at m; exact False.elim m
/-- for .. in ..: yield .. -/
def forY (b : Bx) (fe : Ex) : List D → List D → List Sl → Option (List D)
  | [], ds, _ => some ds
  | x :: xs, ds, ev => match b x ev with
    | some e1 => (match fe e1 with
      | .ok (.dat d) e2 => if ds.length < lim then forY b fe xs (ds ++ [d]) e2 else none
      | _ => none)
    | none => none
def gForY (f : Ix) (b : Bx) (fe : Ex) : GLx := fun ds ev => match f ev with
  | .ok items e1 => forY b fe items ds e1
  | _ => none
theorem dg_for {iter e : Expr} {f : Ix} {b : Bx} {fe : Ex} {pos yp ypos : Pos} (hp : PassesOwn (model X.prog X.w) X.A X.env X.xe) (hc : X.calm = true) (hi : DI X cl E tg iter f) (hg : DG X W tg b) (he : DE X cl E e fe) 
    (hs : ∀ x, foldedSetIterable iter X.env x = pure x := by intro _; rfl) (hco : X.env.scope.isCoroutine = false := by rfl) (hin : interactive X.env = false := by rfl) : DGn X [.For tg iter [.Expr (.Yield (some e) yp) ypos] [] pos] (gForY f b fe) := by
  obtain ⟨wi, pi, hi⟩ := hi
  obtain ⟨g, pg, hg⟩ := hg
  obtain ⟨te, pe, he⟩ := he
  refine ⟨_, gss_cons (gs_for hp hc pi pg (gss_cons (gs_yield pe hco hin) gss_nil) hs) gss_nil, fun F H σ ev fp D ys ds d rs hl m => hi F H σ ev fp _ d ?_⟩
  unfold gForY at m
  cases e : f ev with
  | stuck => rw [e] at m; exact m.elim
  | exc k => rw [e] at m; exact m.elim
  | ok items e1 =>
  rw [e] at m
  intro F1 H1 fp1 J x1 d1 it
  obtain ⟨G, Y, w, hG, hY⟩ := it.ex
  refine ⟨fun i n ys' σ' H' => i ≤ items.length ∧ n = items.length - i ∧ ys'.length ≤ lim ∧ ∃ F' ev' fp' ds', DS X.K F' H' σ' ev' fp' ∧ Evo F1 H1 fp1 F' H' fp' ∧ RpL X.K F' ys' ds' ∧ MeetL X.K F H fp D (forY b fe (items.drop i) ds' ev'),
    ⟨items.length, Nat.zero_le _, rfl, hl, F1, e1, fp1, ds, d1, Evo.refl _ _ _, rs.mono fun _ _ => x1.grow.rd, m⟩, ?_⟩
  rintro i n ys' σ' H' ⟨hi, hn, hl', F', ev', fp', ds', d', x', rs', m'⟩
  by_cases hlt : i < items.length
  · right
    refine ⟨w.goes i H' hlt (hG F' H' fp' x' d'.sub), fun ys2 σ2 H2 => ∃ n', n' < n ∧ (i + 1 ≤ items.length ∧ n' = items.length - (i + 1) ∧ ys2.length ≤ lim ∧ ∃ F' ev' fp' ds', DS X.K F' H2 σ2 ev' fp' ∧ Evo F1 H1 fp1 F' H2 fp' ∧ RpL X.K F' ys2 ds' ∧ MeetL X.K F H fp D (forY b fe (items.drop (i + 1)) ds' ev')), fun ys2 σ2 H2 h => h, fun x H3 yl => ?_⟩
    have y := w.yields i H' x H3 hlt (hG F' H' fp' x' d'.sub) yl
    obtain ⟨F3, dd, hd, ex, rp⟩ := hY i F' H' fp' x H3 hlt x' d'.sub y
    have hdrop : items.drop i = dd :: items.drop (i + 1) := by
      rw [List.drop_eq_getElem_cons hlt]
      have : items[i] = dd := by
        rw [List.getElem?_eq_getElem hlt] at hd
        exact Option.some.inj hd
      rw [this]
    rw [hdrop] at m'
    unfold forY at m'
    cases eb : b dd ev' with
    | none => rw [eb] at m'; exact m'.elim
    | some e2 =>
    rw [eb] at m'
    have d3 := d'.ext ex
    refine hg F3 H3 σ' ev' fp' x dd e2 _ d3 rp eb fun σ2 fp2 d2 s2 f2 => ?_
    have x2 : Evo F1 H1 fp1 F3 H3 fp2 := (x'.trans (ex.evo fp')).fewer s2
    have rs3 := rs'.mono (fun _ _ => (ex.evo fp').grow.rd)
    cases ee : fe e2 with
    | stuck => simp only [ee] at m'; exact m'.elim
    | exc k => simp only [ee] at m'; exact m'.elim
    | ok r e3 =>
    cases r with
    | tmp o => simp only [ee] at m'; exact m'.elim
    | bor j => simp only [ee] at m'; exact m'.elim
    | dat dy =>
    simp only [ee] at m'
    by_cases hlim : ds'.length < lim
    · rw [if_pos hlim] at m'
      have hyl : ys'.length < lim := by rw [rs'.length]; exact hlim
      refine ⟨Nat.lt_of_lt_of_le hyl (by rw [sizeLine_eq]; decide), he F3 H3 σ2 e2 fp2 _ d2 ?_⟩
      rw [ee]
      intro F4 H4 fp4 v tp x4 d4 rv nd
      cases rv with
      | dat rd =>
      show tG0 _ _ _ _
      refine ⟨items.length - (i + 1), by omega, by omega, rfl, by simp; omega, F4, e3, fp4, ds' ++ [dy], d4, x2.trans x4, ?_, m'⟩
      exact (rs3.mono fun _ _ => x4.grow.rd).append (.one rd)
    · rw [if_neg hlim] at m'; exact m'.elim
  · left
    have hi' : i = items.length := by omega
    subst hi'
    rw [List.drop_length] at m'
    refine ⟨w.stops H' (hG F' H' fp' x' d'.sub), ?_⟩
    show tG0 _ _ _ _
    exact m' F' H' σ' fp' ys' (x1.trans x') d'.sub rs' hl'
end
/-! ### generator defs -/
def GenS := List Sl → Option (List D)
def MeetGF (K : PySem.W.Frag) (F H : Hp) (fp : List Addr) (Q : List V → Hp → Prop) : Option (List D) → Prop
  | some ds => ∀ F' H' fp' ys, Evo F H fp F' H' fp' → Sub F' H' → RpL K F' ys ds → ys.length ≤ lim → Q ys H'
  | none => False
def spG (K : PySem.W.Frag) (n : Nat) (f : List Sl → Option (List D)) : SpG := fun vs H Q E => vs.length = n ∧ ∃ F ev fp, DS K F H (vs.map some) ev fp ∧ MeetGF K F H fp Q (f ev)
def genSem (n : Nat) (g : GLx) : List Sl → Option (List D) := fun args => g [] (args ++ List.replicate (n - args.length) .un)
def GoodG (P : Program) (w : World) (K : PySem.W.Frag) (mg : Str → Option Value) (base : Heap) (k : Nat) (x : Str) (n : Nat) (f : List Sl → Option (List D)) : Prop :=
  ∃ fa fd ps, GFn P w K mg base k fa fd ps (spG K n f) ∧ mg x = some (.ref fa) ∧ PySem.W.keepIn K (.ref fa) = true ∧ Binds K fd ps []
theorem gdef_ok {P : Program} {w : World} {K : PySem.W.Frag} {mg : Str → Option Value} {base : Heap} {cl : Cls} {x qual : Str} {st : Stmt} {fa : Addr} {fd : FuncData} {N ps : List Str} {k : Nat} {g : GLx} (F : Fun K x qual st fa fd) (S : GScope N ps (defScope st))
    (hbody : ∀ (cdv : Value) (A : Around) (outer : List Env) (s : Shared) (H : Hp) (E : XK) (pn : List (Addr × Obj)), Cxt (gcxOf P w K mg base N qual (defScope st) fa cdv A outer s H E pn) (fun _ _ _ => False) k →
      PassesOwn (model P w) (gcxOf P w K mg base N qual (defScope st) fa cdv A outer s H E pn).A (gcxOf P w K mg base N qual (defScope st) fa cdv A outer s H E pn).env (gcxOf P w K mg base N qual (defScope st) fa cdv A outer s H E pn).xe →
      DGn (gcxOf P w K mg base N qual (defScope st) fa cdv A outer s H E pn) (defBody st) g) :
    GFn P w K mg base (k + 1) fa fd ps (spG K ps.length (genSem N.length g)) := by
  obtain ⟨oc, od, kV, doc, pm, an, cdv, ct, osl, rfl, lk, hcd⟩ := F.ex
  refine gfn_of lk hcd S (fun vs H Q E h => h.1) fun A outer s H vs Q E pn hr h => ?_
  obtain ⟨hn, F0, args, fp, d, m⟩ := h
  obtain ⟨t, p, hb⟩ := hbody cdv A outer s H E pn ⟨S.nd, rfl, hr, fun _ _ _ _ _ _ _ c => (cx_false c).elim, takesN⟩ owns_gcx
  refine ⟨t, p, ?_⟩
  have la : args.length = vs.length := by have := d.sr.len; simpa using this.symm
  have d0 : DS K F0 H (L2.start N vs) (args ++ List.replicate (N.length - args.length) .un) fp := by
    refine ⟨d.sub, ?_, d.nd⟩
    unfold L2.start
    rw [la]
    exact d.sr.more _
  refine hb F0 H _ _ fp _ [] [] d0 .nil (Nat.zero_le _) ?_
  unfold genSem at m
  cases e : g [] (args ++ List.replicate (N.length - args.length) .un) with
  | none => rw [e] at m; exact m
  | some ds =>
    rw [e] at m
    exact fun F1 H1 σ1 fp1 ys x1 s1 r1 l1 => m F1 H1 fp1 ys x1 s1 r1 l1
/-- list(f(e, ..)) of a generator def f -/
def eListG (f : List Sl → Option (List D)) (fs : List Ex) : Ex := fun ev => (argsS fs ev).bind fun ds e1 => match f (ds.map Sl.dat) with
  | some xs => .ok (.tmp (.lst xs)) e1
  | none => .stuck
section
variable {X : Cx} {cl : Cls} {E : XK} {lv : Nat}
theorem noStop0 {K : PySem.W.Frag} : NoStop K (fun _ _ _ => False) := fun _ _ _ h => h.elim
theorem cx_falseL {P : Program} {w : World} {l : List Env} {H : Hp} {s : Shared} {e : Value} {s' : Shared} (h : L2.CX P w l H s (fun _ _ _ => False) e s') : False := by
  obtain ⟨_, _, _, _, _, _, _, _, _, _, _, _, z⟩ := h
  exact z.elim
theorem de_listG {x : Str} {p p2 pos pos2 : Pos} {e : Expr} {es : List Expr} {fs : List Ex} {k n : Nat} {f : List Sl → Option (List D)} (G : GoodG X.prog X.w X.K X.mg X.base k x n f) (c : Cxt X E lv) (ha : DAs X cl E (e :: es) fs) (hg : Gl X x) (hgl : Gl X "list") (hml : X.mg "list" = none) (hv : bootBuiltins "list" = some (.type "list"))
    (hk : k + 3 ≤ lv := by decide) (hn : fs.length = n := by rfl) (hdb : (x == ("__debug__" : Str)) = false := by decide)
    (he : starEach (e :: es) X.env = (false, eval e X.env) :: starEach es X.env := by rfl) (hpl : (backTo pos2 (starEach es X.env)).any (·.1) = false := by rfl)
    (he2 : starEach [.Call (.Name x p2) (e :: es) [] pos2] X.env = (false, eval (.Call (.Name x p2) (e :: es) [] pos2) X.env) :: starEach [] X.env := by rfl) : DE X cl E (.Call (.Name "list" p) [.Call (.Name x p2) (e :: es) [] pos2] [] pos) (eListG f fs) := by
  obtain ⟨fa, fd, ps, Fn, hm, hkp, hb⟩ := G
  obtain ⟨t, pa, ha⟩ := ha
  refine ⟨_, pe_listG (E := fun _ _ _ => False) (pgen_call Fn (c.room.mono (by omega)) hg hm hkp hb .nil pa hdb he hpl) (fun _ _ _ _ _ _ _ z => (cx_falseL z).elim) noStop0 (c.room.mono hk) hgl hml hv (by decide) (by decide) he2, fun F H σ ev fp Q d m => ha F H σ ev fp _ d ?_⟩
  unfold eListG at m
  cases e : argsS fs ev with
  | stuck => rw [e] at m; exact m
  | exc k => rw [e] at m; exact m
  | ok ds e1 =>
    rw [e] at m
    simp only [Out.bind_ok] at m
    intro F1 H1 fp1 vs x1 d1 rs
    rw [List.append_nil]
    refine ⟨by rw [rs.length, argsS_len fs e, hn], F1, ds.map Sl.dat, [], ⟨d1.sub, sr_args rs, .nil⟩, ?_⟩
    cases eo : f (ds.map Sl.dat) with
    | none => rw [eo] at m; exact m.elim
    | some xs =>
      rw [eo] at m
      intro F2 H2 fp2 ys x2 s2 r2 l2
      have d2 := d1.behind x2 s2
      have xx : Evo F1 H1 fp1 F2 H2 fp1 := ⟨fun b o h _ => x2.keep b o h (by simp), x2.grow, fun b o h f _ => x2.out b o h f (by simp), fun b hb => .inl hb⟩
      exact give_lst (GiveOk.meet (x1.trans xx) d2 (fun i z => nomatch z) m) d2.sub r2
end
end GW

set_option Elab.async false
set_option linter.all false
set_option maxRecDepth 100000
namespace GW
open PySem PySem.Spec L2

/-! ### in, of an int and a row of ints -/
def dIn : D → D → Option R
  | .int i, .lst xs => (intsOf xs).map fun ns => .dat (.bl (decide (i ∈ ns)))
  | .int i, .tup xs => (intsOf xs).map fun ns => .dat (.bl (decide (i ∈ ns)))
  | _, _ => none
def dNotIn : D → D → Option R
  | .int i, .lst xs => (intsOf xs).map fun ns => .dat (.bl (!decide (i ∈ ns)))
  | .int i, .tup xs => (intsOf xs).map fun ns => .dat (.bl (!decide (i ∈ ns)))
  | _, _ => none
theorem inV_ints (i : Int) : ∀ ns : List Int, inV (.int i) (ns.map V.int) = decide (i ∈ ns)
  | [] => by simp [inV]
  | n :: ns => by
    have ih := inV_ints i ns
    unfold inV at ih ⊢
    rw [List.map_cons, List.any_cons, ih]
    by_cases c : n = i
    · subst c; simp [eqV]
    · have c' : ¬ i = n := fun z => c z.symm
      simp [eqV, c, c']
theorem flat_ints (ns : List Int) : (ns.map V.int).all flatV = true := by
  simp [flatV]
theorem in_D {X : Cx} : Op2 X (rIn X.K false) dIn := by
  intro F H x y dx dy Q out s rx ry e g
  unfold dIn at e
  split at e
  · rename_i i ds
    cases q : intsOf ds with
    | none => rw [q] at e; cases e
    | some ns =>
      rw [q] at e; cases e
      have hd := intsOf_eq q
      subst hd
      have hx := rx.int
      subst hx
      obtain ⟨a, vs, rfl, h1, r1⟩ := ry.lst s
      have hv := r1.ints
      subst hv
      refine ⟨a, _, rfl, .inl h1, rfl, flat_ints ns, ?_⟩
      rw [inV_ints]
      exact give_val g s (.bl _)
  · rename_i i ds
    cases q : intsOf ds with
    | none => rw [q] at e; cases e
    | some ns =>
      rw [q] at e; cases e
      have hd := intsOf_eq q
      subst hd
      have hx := rx.int
      subst hx
      obtain ⟨a, vs, rfl, h1, r1, _⟩ := ry.tup s
      have hv := r1.ints
      subst hv
      refine ⟨a, _, rfl, .inr h1, rfl, flat_ints ns, ?_⟩
      rw [inV_ints]
      exact give_val g s (.bl _)
  · cases e
theorem notIn_D {X : Cx} : Op2 X (rIn X.K true) dNotIn := by
  intro F H x y dx dy Q out s rx ry e g
  unfold dNotIn at e
  split at e
  · rename_i i ds
    cases q : intsOf ds with
    | none => rw [q] at e; cases e
    | some ns =>
      rw [q] at e; cases e
      have hd := intsOf_eq q
      subst hd
      have hx := rx.int
      subst hx
      obtain ⟨a, vs, rfl, h1, r1⟩ := ry.lst s
      have hv := r1.ints
      subst hv
      refine ⟨a, _, rfl, .inl h1, rfl, flat_ints ns, ?_⟩
      rw [inV_ints]
      exact give_val g s (.bl _)
  · rename_i i ds
    cases q : intsOf ds with
    | none => rw [q] at e; cases e
    | some ns =>
      rw [q] at e; cases e
      have hd := intsOf_eq q
      subst hd
      have hx := rx.int
      subst hx
      obtain ⟨a, vs, rfl, h1, r1, _⟩ := ry.tup s
      have hv := r1.ints
      subst hv
      refine ⟨a, _, rfl, .inr h1, rfl, flat_ints ns, ?_⟩
      rw [inV_ints]
      exact give_val g s (.bl _)
  · cases e
/-! ### list(range(n)) -/
theorem rp_ints {K : PySem.W.Frag} {F : Hp} {α : Type} (f : α → Int) : ∀ l : List α, RpL K F (l.map fun i => V.int (f i)) (l.map fun i => D.int (f i))
  | [] => .nil
  | x :: l => .cons (.int _) (rp_ints f l)
def eListR (f : Ex) : Ex := fun ev => (f ev).bind fun r e1 => match r with
  | .dat (.int n) => if 0 ≤ n ∧ n ≤ 1000000 then .ok (.tmp (.lst (rangeD 0 n.toNat))) e1 else .stuck
  | _ => .stuck
theorem de_listR {X : Cx} {cl : Cls} {E : XK} {lv : Nat} {a : Expr} {f : Ex} {p p2 pos pos2 : Pos} (c : Cxt X E lv) (h : DE X cl E a f) (hg : Gl X "list") (hm : X.mg "list" = none) (hg2 : Gl X "range") (hm2 : X.mg "range" = none)
    (na : starEach [a] X.env = (false, eval a X.env) :: starEach [] X.env := by rfl)
    (na2 : starEach [.Call (.Name "range" p2) [a] [] pos2] X.env = (false, eval (.Call (.Name "range" p2) [a] [] pos2) X.env) :: starEach [] X.env := by rfl) : DE X cl E (.Call (.Name "list" p) [.Call (.Name "range" p2) [a] [] pos2] [] pos) (eListR f) := by
  obtain ⟨t, pe, h⟩ := h
  refine ⟨_, pe_listRg c.calm hg hm (prg_1 hg2 hm2 pe na) na2, fun F H σ ev fp Q d m => h F H σ ev fp _ d ?_⟩
  unfold eListR at m
  cases e : f ev with
  | stuck => rw [e] at m; exact m
  | exc k => rw [e] at m; exact m
  | ok r e1 =>
    rw [e] at m
    simp only [Out.bind_ok] at m
    intro F1 H1 fp1 v tp x1 d1 rv nd
    split at m
    · rename_i n
      split at m
      · rename_i hn
        cases rv with
        | dat r =>
        cases r
        refine ⟨n, rfl, ⟨by decide, by decide, by omega, by omega, by omega⟩, ?_⟩
        have rr : RpL X.K F1 (rgV 0 n) (rangeD 0 n.toNat) := by
          unfold rgV rangeD
          rw [Int.sub_zero]
          exact rp_ints (fun i : Nat => (0 : Int) + (i : Nat)) _
        exact give_lst (GiveOk.meet x1 d1 (fun i z => nomatch z) m) d1.sub rr
      · exact m.elim
    · exact m.elim
end GW

set_option Elab.async false
set_option linter.all false
set_option maxRecDepth 100000
set_option maxHeartbeats 1000000
namespace PySem
/-! enumerate of a tuple -/
abbrev tupIt (l : Addr) : Obj := { cls := .type "tuple_iterator", data := .fields #[.ref l, .int 0 0] }
abbrev enumOb (it : Addr) : Obj := { cls := .type "enumerate", data := .fields #[.none, .bool false, .ref it, rawInt 0, .none, .none] }
theorem meets_enumT (l : Addr) (items : Array Value) (o : Obj) : Meets (Builtin.«enumerate.__new__» ⟨[.type "enumerate", .ref l], []⟩) (fun _ R s => (s.heap.get? l = some o ∧ s.heap.IsTuple l items) ∧
      R (.ok (.ret (.ref (s.heap.push (tupIt l)).objs.size))) { s with heap := (s.heap.push (tupIt l)).push (enumOb s.heap.objs.size) }) :=
  .of_wp fun prog w A R s h => by
    obtain ⟨h0, g0, d0, t0, o0⟩ := s
    obtain ⟨⟨here, hT⟩, h⟩ := h
    have hsub := sub_enumerate
    wp_walk using wpAny_loadPart' here
    refine wpAny_stack_any fun stack => wpAny_pure ?_
    split
    · rename_i c _ _ _ _ _
      cases own : (c == Value.type "enumerate")
      · wp_walk using wpAny_loadPart' here, wpAny_pyIter_tuple hT
        exact ⟨_, rfl, h⟩
      · wp_walk using wpAny_loadPart' here, wpAny_pyIter_tuple hT
        exact ⟨_, rfl, h⟩
    · wp_walk using wpAny_loadPart' here, wpAny_pyIter_tuple hT
      exact ⟨_, rfl, h⟩
theorem drawsTup {prog : Program} {w : World} {A : Around} (cold : A.handled = none) (it l : Addr) (ap : l ≠ it) (items : Array Value) :
    Draws prog w A it [it, l] items.size (fun i v => items[i]? = some v) (fun i h => h.IsTupleIter it l i ∧ h.IsTuple l items) where
  live := fun _ _ st => by
    obtain ⟨⟨o, q, _⟩, _⟩ := st
    exact ⟨o, q⟩
  frame := fun _ _ _ st k => ⟨st.1.at fun o e => k it (by simp) o e, st.2.at fun o e => k l (by simp) o e⟩
  item := fun i s Q E lt st q => RZ.nextOf_tuple_item st.1 st.2 (x := items[i]) (by simp [lt]) fun g a b => q _ g s.toks (by simp [lt]) ⟨a, st.2.extBut b.extBut ap⟩ b
  done := fun s Q E st q => RZ.nextOf_tuple_end cold st.1 st.2 (by simp) q
theorem drawsEnd {prog : Program} {w : World} {A : Around} (cold : A.handled = none) (it l : Addr) (items : Array Value) (n : Nat) (out : items.size ≤ n) :
    Draws prog w A it [it, l] n (fun _ _ => True) (fun j h => j = n ∧ h.IsTupleIter it l n ∧ h.IsTuple l items) where
  live := fun _ _ st => by
    obtain ⟨_, ⟨o, q, _⟩, _⟩ := st
    exact ⟨o, q⟩
  frame := fun _ _ _ st k => ⟨st.1, st.2.1.at fun o e => k it (by simp) o e, st.2.2.at fun o e => k l (by simp) o e⟩
  item := fun i s Q E lt st _ => absurd st.1 (by omega)
  done := fun s Q E st q => RZ.nextOf_tuple_end cold st.2.1 st.2.2 (by simp; omega) q
theorem call_enumT {prog : Program} {w : World} {A : Around} {E : Value → Shared → Prop} {s : Shared} {l : Addr} {items : Array Value} {Q : Value → Shared → Prop} (T : s.heap.IsTuple l items)
    (q : ∀ g, IsEnum g (s.heap.objs.size + 1) s.heap.objs.size 0 .none → g.IsTupleIter s.heap.objs.size l 0 → (∀ b o, s.heap.get? b = some o → g.get? b = some o) → Q (.ref (s.heap.objs.size + 1)) { s with heap := g }) :
    wpAny (model prog w) A (call (.type "enumerate") [.ref l]) Q E s := by
  obtain ⟨ob, at_, _⟩ := id T
  have z : (s.heap.push (tupIt l)).objs.size = s.heap.objs.size + 1 := Heap.size_push ..
  have en : IsEnum ((s.heap.push (tupIt l)).push (enumOb s.heap.objs.size)) (s.heap.objs.size + 1) s.heap.objs.size 0 .none := by
    have y := Heap.get?_push_size (s.heap.push (tupIt l)) (o := enumOb s.heap.objs.size) rfl
    rw [z] at y
    exact y
  refine callType_new F.called_enumerate (by decide) (F.typeCall_enumerate_1 _) (F.newCall_enumerate_1 _) (fun x => F.args_object_init_2 x _) F.entry_enumerate_new (meets_enumT l items ob) ⟨⟨at_, T⟩, ?_⟩
  show _ ∧ _
  rw [z]
  exact ⟨⟨_, en, rfl⟩, q _ en ⟨_, Heap.get?_push_of_some _ (Heap.get?_push_size _ rfl), rfl, rfl⟩ fun b o x => Heap.get?_push_of_some _ (Heap.get?_push_of_some _ x)⟩
end PySem
namespace GW
open PySem PySem.Spec PyProof.Rows L2
/-- the tuple at a, each item in a new pair -/
def IteT (K : PySem.W.Frag) (a : Addr) : It where
  go := fun i H => ∃ (xs : List V) (x : V), SqT K H a xs ∧ xs[i]? = some x
  yld := fun i H v H' => ∃ T x, v = .ref T ∧ H T = none ∧ H' = upd H T (.tup [.int (i : Nat), x]) ∧ ∀ xs, SqT K H a xs → xs[i]? = some x
  stop := fun i H => ∃ xs : List V, SqT K H a xs ∧ xs.length ≤ i
theorem turn_enumT {P : Program} {w : World} {K : PySem.W.Frag} {elts : List Expr} {kk : Nat} {tpos : Pos} (a e it : Addr) (ap : a ≠ it) (ap2 : a ≠ e) :
    Turn P w K (.Tuple elts kk tpos) (IteT K a) [e, it] e (fun i h => (∃ old, IsEnum h e it ((i : Nat) : Int) old) ∧ h.IsTupleIter it a i ∧ e ≠ it) where
  mem := List.mem_cons_self
  obj := fun i h st b hb => by
    obtain ⟨⟨_, ie⟩, ⟨o, at_, _, dd⟩, _⟩ := st
    rcases List.mem_cons.mp hb with z | z
    · exact ⟨_, by rw [z]; exact ie, fun v q => by cases q⟩
    · exact ⟨o, by rw [List.mem_singleton.mp z]; exact at_, fun v q => by rw [dd] at q; cases q⟩
  keep := fun i h g st k => ⟨st.1.elim fun old ie => ⟨old, k e (by simp) _ ie⟩, st.2.1.at fun o q => k it (by simp) o q, st.2.2⟩
  item := by
    intro X eP eW eK cc i pins s σ H E I fo st go
    subst eP eW eK
    obtain ⟨⟨old, ie⟩, iter, ne⟩ := st
    obtain ⟨xs, x, sq, at_⟩ := go
    obtain ⟨its, rv, tp, _⟩ := I.tuple sq
    obtain ⟨u, hu, ru⟩ := rv.get at_
    have le : e < s.heap.objs.size := Heap.lt_size ie
    have li : it < s.heap.objs.size := iter.elim fun _ q => Heap.lt_size q.1
    have tp' : s.heap.IsTuple a its.toArray := tp
    have lt : i < its.toArray.size := by
      have := (List.getElem?_eq_some_iff.mp hu).1
      simpa using this
    have cold : X.A.in1.handled = none := I.ok.hd cc
    refine wpAny_pyNext_enum_itemD (drawsTup cold it a ap its.toArray) ie ⟨iter, tp'⟩ lt ne (by simp [ne, ap2.symm]) fun y g tk py out st' two sz kp => ?_
    have ey : y = u := by
      have : its[i]? = some y := by simpa using py
      rw [hu] at this
      exact (Option.some.inj this).symm
    subst ey
    refine ⟨_, rfl, wpAny_letOwnedTupleGo_enum (s := { s with heap := g, toks := tk + 1 }) out fun g2 out2 sb => ?_⟩
    have two2 : g2.get? s.heap.objs.size = some { cls := .type "tuple", data := .seq #[.int i tk, y] } := (sb.2 _ (Nat.ne_of_gt le)).trans two
    have made : ObjOk X.prog X.w (upd H s.heap.objs.size (.tup [.int (i : Nat), x])) g2 s.heap.objs.size (.tup [.int (i : Nat), x]) :=
      ⟨by show 2 ≤ sizeLine; decide, [.int i tk, y], .cons ⟨_, rfl⟩ (.cons ru .nil), ⟨_, two2, rfl, _, rfl⟩⟩
    have J : Inv X pins σ (upd H s.heap.objs.size (.tup [.int (i : Nat), x])) { s with heap := g2, toks := tk + 1 } :=
      I.turnedNew (ch := [e, it]) (fun b ob nb q => (sb.2 b (fun z => nb (by simp [z]))).trans (kp b ob (fun z => nb (by simp [z])) (fun z => nb (by simp [z])) q)) fo (Nat.le_refl _) made
    refine ⟨.ref s.heap.objs.size, _, J, rfl, ⟨_, x, rfl, I.hok.fresh (Nat.le_refl _), rfl, fun ys hy => by rw [I.tuple_inj hy sq]; exact at_⟩, ⟨⟨y, ?_⟩, st'.1.at fun o q => (sb.2 it (Ne.symm ne)).trans q, ne⟩, fun b nb => ?_⟩
    · rw [show ((i + 1 : Nat) : Int) = (i : Int) + 1 by omega]
      exact out2
    · have lb : b < s.heap.objs.size := by
        rcases List.mem_cons.mp nb with z | z
        · rw [z]; exact le
        · rw [List.mem_singleton.mp z]; exact li
      rw [upd_ne (Nat.ne_of_lt lb)]
      exact (fo b nb).1
  done := by
    intro X eP eW eK cc i pins s σ H E I fo st go
    subst eP eW eK
    obtain ⟨⟨old, ie⟩, iter, ne⟩ := st
    obtain ⟨xs, sq, stop⟩ := go
    obtain ⟨its, rv, tp, _⟩ := I.tuple sq
    have tp' : s.heap.IsTuple a its.toArray := tp
    have sz : its.toArray.size ≤ i := by
      have ll := rv.length
      simp
      omega
    obtain ⟨f0, f1, f2, f3, f4, f5⟩ := fo it (by simp)
    have cold : X.A.in1.handled = none := I.ok.hd cc
    exact wpAny_pyNext_enum_endD (drawsEnd cold it a its.toArray i sz) ie ⟨rfl, iter, tp'⟩ fun g eb => ⟨rfl, I.turned (t' := s.toks) (fun b o hb q => eb b o hb q) f0 f1 f3 f4 f5⟩
  self := fun A i s Q E st h => st.1.elim fun _ ie => wpAny_pyIter_enum ie h
def iEnumLT (K : PySem.W.Frag) (ta : TA) : TI := fun σ H R => ta σ H fun vs H1 => ∃ a xs, vs = [.ref a] ∧ ((SqL K H1 a xs ∧ R (Ite K a) H1) ∨ (SqT K H1 a xs ∧ R (IteT K a) H1))
theorem pi_enumLT {X : Cx} {e : Expr} {ta : TA} {p pos tpos : Pos} {elts : List Expr} {kk : Nat} (gl : Gl X "enumerate") (un : X.mg "enumerate" = none) (pa : PA X [e] ta) (st : starEach [e] X.env = [(false, eval e X.env)] := by rfl) :
    PI X (.Tuple elts kk tpos) (.Call (.Name "enumerate" p) [e] [] pos) (iEnumLT X.K ta) := by
  refine ⟨fun pins s σ H R I want => ?_⟩
  refine Call_ (ld_blt I gl un boot_enumerate (callWith_type1 (thn (pa.run pos pins s σ H _ I want) fun us s1 ⟨vs, H1, J, rr, a, xs, ev, q⟩ => ?_) st rfl))
  subst ev
  have eu : us = [.ref a] := Vals.ref1 rr
  subst eu
  have own : ∀ b ∈ [s1.heap.objs.size + 1, s1.heap.objs.size], FpOk X pins H1 b := fun b nb => by
    have le : s1.heap.objs.size ≤ b := by
      rcases List.mem_cons.mp nb with z | z
      · rw [z]; exact Nat.le_add_right _ _
      · rw [List.mem_singleton.mp z]; exact Nat.le_refl _
    exact J.fpOk le (J.hok.fresh le)
  rcases q with ⟨sq, q⟩ | ⟨sq, q⟩
  · obtain ⟨its, rv, pl, _⟩ := J.list sq
    exact call_enumerate_list pl.isList fun g en iter _ kp => wpAny_pyIter_enum en ⟨_, _, _, _, H1, rfl, J.kept (t' := s1.toks) kp, turn_enum a _ _, ⟨⟨.none, en⟩, iter, Nat.succ_ne_self _⟩, own, q⟩
  · obtain ⟨its, rv, pl, _⟩ := J.tuple sq
    have pl' : s1.heap.IsTuple a its.toArray := pl
    have la : a < s1.heap.objs.size := pl'.elim fun _ z => Heap.lt_size z.1
    exact call_enumT pl' fun g en iter kp => wpAny_pyIter_enum en ⟨_, _, _, _, H1, rfl, J.kept (t' := s1.toks) kp, turn_enumT a _ _ (Nat.ne_of_lt la) (Nat.ne_of_lt (Nat.lt_succ_of_lt la)), ⟨⟨.none, en⟩, iter, Nat.succ_ne_self _⟩, own, q⟩
end GW

set_option Elab.async false
set_option linter.all false
set_option maxRecDepth 100000
namespace GW
open PySem PySem.Spec L2

/-! ### enumerate of a list or a tuple -/
theorem walk_enumT {K : PySem.W.Frag} {a : Addr} {xs : List V} : Walk (IteT K a) xs.length (fun H => SqT K H a xs) (YPair (fun i => some (.int (i : Nat))) (fun i => xs[i]?)) :=
  ⟨fun i _ hi q => ⟨xs, xs[i], q, by simp [hi]⟩, fun _ q => ⟨xs, q, Nat.le_refl _⟩, fun i H v H' _ q ⟨T, x, h1, h2, h3, h4⟩ => ⟨T, .int (i : Nat), x, h1, h2, h3, rfl, h4 xs q⟩⟩
section
variable {X : Cx} {cl : Cls} {E : XK}
def iEnumX (fs : List Ex) : Ix := fun ev => (argsS fs ev).bind fun ds e1 => match ds with
  | [.lst xs] => .ok (enumD 0 xs) e1
  | [.tup xs] => .ok (enumD 0 xs) e1
  | _ => .stuck
theorem di_enumX {e : Expr} {fs : List Ex} {p pos tpos : Pos} {elts : List Expr} {kk : Nat} (ha : DAs X cl E [e] fs)
    (pi : ∀ ta, PA X [e] ta → PI X (.Tuple elts kk tpos) (.Call (.Name "enumerate" p) [e] [] pos) (iEnumLT X.K ta)) : DI X cl E (.Tuple elts kk tpos) (.Call (.Name "enumerate" p) [e] [] pos) (iEnumX fs) := by
  obtain ⟨t, pa, ha⟩ := ha
  refine ⟨_, pi _ pa, fun F H σ ev fp R d m => ha F H σ ev fp _ d ?_⟩
  unfold iEnumX at m
  cases e : argsS fs ev with
  | stuck => rw [e] at m; exact m
  | exc k => rw [e] at m; exact m
  | ok ds e1 =>
    rw [e] at m
    simp only [Out.bind_ok] at m
    intro F1 H1 fp1 vs x1 d1 rs
    split at m
    · rename_i xs
      cases rs with
      | cons r t =>
      cases t
      cases r with
      | lst q r =>
      exact ⟨_, _, rfl, .inl ⟨Sub.seqL d1.sub q, m F1 H1 fp1 _ x1 d1 (enum_rp r walk_enum fun F2 H2 fp2 ev s => Sub.seqL s (Sub.seqL (fun _ _ => ev.grow.rd) q))⟩⟩
    · rename_i xs
      cases rs with
      | cons r t =>
      cases t
      cases r with
      | tup q r =>
      exact ⟨_, _, rfl, .inr ⟨Sub.seqT d1.sub q, m F1 H1 fp1 _ x1 d1 (enum_rp r walk_enumT fun F2 H2 fp2 ev s => Sub.seqT s (Sub.seqT (fun _ _ => ev.grow.rd) q))⟩⟩
    · exact m.elim
end
/-! ### a display of one pair -/
def eDict1 (i : Int) (f : Ex) : Ex := fun ev => (f ev).bind fun r e1 => (stoR r e1).bind fun d e2 => .ok (.tmp (.dK [(.inl i, d)])) e2
section
variable {X : Cx} {cl : Cls} {E : XK}
theorem de_dict1 {ke ve : Expr} {i : Int} {f : Ex} {pos : Pos} (hk : DE X cl E ke (eC (.int i))) (hv : DE X cl E ve f) : DE X cl E (.Dict [some ke] [ve] pos) (eDict1 i f) := by
  obtain ⟨tk, pk, hk⟩ := hk
  obtain ⟨tv, pv, hv⟩ := hv
  refine ⟨_, pe_disp (pps_cons pk pv pps_nil) rfl rfl (by simp) (by simp), fun F H σ ev fp Q d m => fun p hp => ?_⟩
  have x0 := ext_own (u := .dK []) d.sub hp
  have d0 := d.ext x0
  have Fp : F p = none := d.sub.none hp
  have pf : p ∉ fp := fun z => by
    obtain ⟨_, u, hu⟩ := d.sr.free p z
    rw [hp] at hu; cases hu
  refine hk F _ σ ev fp _ d0 ?_
  intro F1 H1 fp1 v tp x1 d1 rv nd
  cases rv with
  | dat rk =>
  cases rk
  rw [List.nil_append] at x1 nd
  have p1 : H1 p = some (.dK []) := x1.keep p _ upd_same pf
  have F1p : F1 p = none := x1.out p _ upd_same Fp pf
  have pf1 : p ∉ fp1 := fun z => by
    rcases x1.fpn p z with q | q
    · exact pf q
    · rw [upd_same] at q; cases q
  have y1 := (x0.evo fp).trans x1
  refine hv F1 H1 σ ev fp1 _ d1 ?_
  unfold eDict1 at m
  cases e : f ev with
  | stuck => rw [e] at m; exact m
  | exc k => rw [e] at m; exact ExcOk.shift y1 m
  | ok r e1 =>
  rw [e] at m
  simp only [Out.bind_ok] at m
  intro F2 H2 fp2 y tp2 x2 d2 rv2 nd2
  cases es : stoR r e1 with
  | stuck => rw [es] at m; exact m.elim
  | exc k => exact absurd es (by unfold stoR; intro z; split at z <;> (try split at z) <;> cases z)
  | ok dd e2 =>
  rw [es] at m
  simp only [Out.bind_ok] at m
  obtain ⟨F3, fp3, x3, d3, rp⟩ := sto_rv x2 d2 rv2 nd2 es
  have p3 : H2 p = some (.dK []) := x3.keep p _ p1 pf1
  have F3p : F3 p = none := x3.out p _ p1 F1p pf1
  have pf3 : p ∉ fp3 := fun z => by
    rcases x3.fpn p z with q | q
    · exact pf1 q
    · rw [p1] at q; cases q
  refine ⟨p3, [(.inl i, y)], rfl, by simp, ?_⟩
  have y3 := y1.trans x3
  have ne : ∀ b, b ∈ fp3 → b ≠ p := fun b hb z => pf3 (by rw [← z]; exact hb)
  refine m F3 _ fp3 _ [p] ⟨fun b o h n => ?_, y3.grow, y3.out, fun b hb => ?_⟩ ⟨fun a u h => ?_, d3.sr.mono (Grow.refl _) (fun b hb u h => by rw [upd_ne (ne b hb)]; exact h) (fun b hb => (d3.sr.free b hb).1), d3.nd⟩ (.tmp ⟨[(.inl i, y)], upd_same, .cons rp .nil⟩ F3p) (List.nodup_cons.mpr ⟨pf3, d3.nd⟩)
  · rw [upd_ne (ne_of_none h hp)]
    exact y3.keep b o h n
  · rcases List.mem_cons.mp hb with z | z
    · rw [z]; exact .inr hp
    · exact y3.fpn b z
  · have na : a ≠ p := fun z => by
      subst z
      rcases h with h | ⟨o, h⟩ <;> rw [F3p] at h <;> cases h
    rcases d3.sub a u h with q | ⟨o, q⟩
    · exact .inl (by rw [upd_ne na]; exact q)
    · exact .inr ⟨o, by rw [upd_ne na]; exact q⟩
end
end GW

set_option Elab.async false
set_option linter.all false
set_option maxRecDepth 100000
namespace GW
open PySem PySem.Spec L2

/-! ### a walk at one place -/
theorem for_at {X : Cx} {cl : Cls} {E : XK} {W : List Nat} {wi : TI} {g : TG} {tb : TS} {f : Ix} {b : Bx} {s : Sx} {F H : Hp} {σ : L2.St} {ev : List Sl} {fp : List Addr} {D : Ends}
    (walk : ∀ R, MeetI X.K cl E σ F H fp R (f ev) → wi σ H R)
    (hg : ∀ F H σ ev fp v d ev' (Q : L2.St → Hp → Prop), DS X.K F H σ ev fp → Rp X.K F v d → b d ev = some ev' → (∀ σ' fp', DS X.K F H σ' ev' fp' → (∀ a ∈ fp', a ∈ fp) → Frm W σ σ' → Q σ' H) → g v σ H Q)
    (hb : MeansS X cl E W tb s) (m : MeetS X.K cl E W σ F H fp D (sFor f b s ev)) : tFor wi g tb D σ H := by
  refine walk _ ?_
  unfold sFor at m
  cases out : f ev with
  | stuck => rw [out] at m; exact m
  | exc k => rw [out] at m; exact m
  | ok items e1 =>
  rw [out] at m
  intro F1 H1 fp1 J x1 d1 it
  obtain ⟨G, Y, w, hG, hY⟩ := it.ex
  let Inn : Nat → L2.St → Hp → Prop := fun i σ' H' => ∃ F' ev' fp', DS X.K F' H' σ' ev' fp' ∧ Evo F1 H1 fp1 F' H' fp' ∧ Frm W σ σ' ∧ MeetS X.K cl E W σ F H fp D (forS b s (items.drop i) ev')
  refine for_it w Inn ⟨F1, e1, fp1, d1, Evo.refl _ _ _, Frm.refl _ _, m⟩ (fun i σ' H' _ z => ?_) (fun i x σ' H' H3 lt z y => ?_) fun σ' H' z => ?_
  · obtain ⟨F', ev', fp', d', x', _, _⟩ := z
    exact hG F' H' fp' x' d'.sub
  · obtain ⟨F', ev', fp', d', x', f', m'⟩ := z
    obtain ⟨F3, dd, hd, ex, rp⟩ := hY i F' H' fp' x H3 lt x' d'.sub y
    have cut : items.drop i = dd :: items.drop (i + 1) := by
      rw [List.drop_eq_getElem_cons lt]
      rw [List.getElem?_eq_getElem lt] at hd
      rw [Option.some.inj hd]
    rw [cut] at m'
    unfold forS at m'
    cases eb : b dd ev' with
    | none => rw [eb] at m'; exact m'.elim
    | some e2 =>
    rw [eb] at m'
    refine hg F3 H3 σ' ev' fp' x dd e2 _ (d'.ext ex) rp eb fun σ2 fp2 d2 s2 f2 => ?_
    have x2 : Evo F1 H1 fp1 F3 H3 fp2 := (x'.trans (ex.evo fp')).fewer s2
    have ff := f'.trans f2
    refine hb F3 H3 σ2 e2 fp2 _ d2 ?_
    cases es : s e2 with
    | nx e3 => simp only [es] at m'; exact fun F4 H4 σ4 fp4 x4 d4 f4 => ⟨F4, e3, fp4, d4, x2.trans x4, ff.trans f4, m'⟩
    | ct e3 => simp only [es] at m'; exact fun F4 H4 σ4 fp4 x4 d4 f4 => ⟨F4, e3, fp4, d4, x2.trans x4, ff.trans f4, m'⟩
    | bk e3 => simp only [es] at m'; exact fun F4 H4 σ4 fp4 x4 d4 f4 => m' F4 H4 σ4 fp4 (x1.trans (x2.trans x4)) d4 (ff.trans f4)
    | rt r e3 => simp only [es] at m'; exact fun F4 H4 σ4 fp4 v tp x4 d4 f4 rv nd => m' F4 H4 σ4 fp4 v tp (x1.trans (x2.trans x4)) d4 (ff.trans f4) rv nd
    | exc k => simp only [es] at m'; exact ExcOk.shift (x1.trans x2) m'
    | stuck => simp only [es] at m'; exact m'
  · obtain ⟨F', ev', fp', d', x', f', m'⟩ := z
    rw [List.drop_length] at m'
    exact m' F' H' σ' fp' (x1.trans x') d' f'
/-! ### a locked object of the data -/
section
variable {K : PySem.W.Frag} {F H F' H' : Hp} {σ σ' : L2.St} {ev ev' : List Sl} {fp fp' : List Addr} {d : Addr} {u : HO} {od : Obj}
theorem lock_sub (s : Sub F H) (hF : F d = some u) (nz : ∀ o w, u ≠ .frz o w) : Sub F (upd H d (.frz od u)) := fun a w h => by
  by_cases e : a = d
  · subst e
    rcases h with h | ⟨o, h⟩
    · rw [hF] at h; cases h
      exact .inr ⟨od, upd_same⟩
    · rw [hF] at h
      exact absurd (Option.some.inj h) (nz o w)
  · rcases s a w h with h | ⟨o, h⟩
    · exact .inl (by rw [upd_ne e]; exact h)
    · exact .inr ⟨o, by rw [upd_ne e]; exact h⟩
theorem unlock_sub (s : Sub F' H') (hF : F' d = some u) (nz : ∀ o w, u ≠ .frz o w) : Sub F' (upd H' d u) := fun a w h => by
  by_cases e : a = d
  · subst e
    rcases h with h | ⟨o, h⟩
    · rw [hF] at h; cases h
      exact .inl upd_same
    · rw [hF] at h
      exact absurd (Option.some.inj h) (nz o w)
  · rcases s a w h with h | ⟨o, h⟩
    · exact .inl (by rw [upd_ne e]; exact h)
    · exact .inr ⟨o, by rw [upd_ne e]; exact h⟩
theorem own_ne (s : DS K F H σ ev fp) (hF : F d = some u) : ∀ b ∈ fp, b ≠ d := fun b hb z => by
  have := (s.sr.free b hb).1
  rw [z, hF] at this
  cases this
theorem lock_ds (s : DS K F H σ ev fp) (hF : F d = some u) (nz : ∀ o w, u ≠ .frz o w) : DS K F (upd H d (.frz od u)) σ ev fp :=
  ⟨lock_sub s.sub hF nz, s.sr.mono (Grow.refl _) (fun b hb w h => by rw [upd_ne (own_ne s hF b hb)]; exact h) fun b hb => (s.sr.free b hb).1, s.nd⟩
theorem unlock_ds (s : DS K F' H' σ' ev' fp') (hF : F' d = some u) (nz : ∀ o w, u ≠ .frz o w) : DS K F' (upd H' d u) σ' ev' fp' :=
  ⟨unlock_sub s.sub hF nz, s.sr.mono (Grow.refl _) (fun b hb w h => by rw [upd_ne (own_ne s hF b hb)]; exact h) fun b hb => (s.sr.free b hb).1, s.nd⟩
theorem unlock_evo (x : Evo F (upd H d (.frz od u)) fp F' H' fp') (hF : F d = some u) (hH : H d = some u) : Evo F H fp F' (upd H' d u) fp' := by
  refine ⟨fun b o h n => ?_, x.grow, fun b o h f n => ?_, fun b hb => ?_⟩
  · by_cases e : b = d
    · subst e
      rw [hH] at h; cases h
      exact upd_same
    · rw [upd_ne e]
      exact x.keep b o (by rw [upd_ne e]; exact h) n
  · have e : b ≠ d := fun z => by rw [z, hF] at f; cases f
    exact x.out b o (by rw [upd_ne e]; exact h) f n
  · rcases x.fpn b hb with z | z
    · exact .inl z
    · by_cases e : b = d
      · rw [e, upd_same] at z; cases z
      · rw [upd_ne e] at z
        exact .inr z
def lockE (D : Ends) (d : Addr) (od : Obj) (u : HO) : Ends := ⟨fun σ' H' => H' d = some (.frz od u) ∧ D.nx σ' (upd H' d u), fun v H' => H' d = some (.frz od u) ∧ D.rt v (upd H' d u), fun σ' H' => H' d = some (.frz od u) ∧ D.bk σ' (upd H' d u), fun σ' H' => H' d = some (.frz od u) ∧ D.ct σ' (upd H' d u)⟩
theorem lock_meet {cl : Cls} {E : XK} {W : List Nat} {D : Ends} (hF : F d = some u) (hH : H d = some u) (nz : ∀ o w, u ≠ .frz o w) (df : d ∉ fp) : ∀ {o : SOut}, (∀ k, o ≠ .exc k) → MeetS K cl E W σ F H fp D o → MeetS K cl E W σ F (upd H d (.frz od u)) fp (lockE D d od u) o
  | .nx ev, _, m => fun F1 H1 σ1 fp1 x d1 f => ⟨x.keep d _ upd_same df, m F1 _ σ1 fp1 (unlock_evo x hF hH) (unlock_ds d1 (x.grow _ _ hF) nz) f⟩
  | .bk ev, _, m => fun F1 H1 σ1 fp1 x d1 f => ⟨x.keep d _ upd_same df, m F1 _ σ1 fp1 (unlock_evo x hF hH) (unlock_ds d1 (x.grow _ _ hF) nz) f⟩
  | .ct ev, _, m => fun F1 H1 σ1 fp1 x d1 f => ⟨x.keep d _ upd_same df, m F1 _ σ1 fp1 (unlock_evo x hF hH) (unlock_ds d1 (x.grow _ _ hF) nz) f⟩
  | .rt r ev, _, m => fun F1 H1 σ1 fp1 v tp x d1 f rv nd => by
    refine ⟨x.keep d _ upd_same df, m F1 _ σ1 fp1 v tp (unlock_evo x hF hH) (unlock_ds d1 (x.grow _ _ hF) nz) f ?_ nd⟩
    cases rv with
    | dat r => exact .dat r
    | bor a b => exact .bor a b
    | @tmp a o w n =>
      have e : a ≠ d := fun z => by
        have := x.grow _ _ hF
        rw [← z, n] at this
        cases this
      exact .tmp (w.mono (Grow.refl _) fun u h => by rw [upd_ne e]; exact h) n
  | .exc k, n, _ => absurd rfl (n k)
  | .stuck, _, m => m
end
/-! ### for over items -/
def keyD : Key → D
  | .inl i => .int i
  | .inr _ => .non
def intK : Key → Bool
  | .inl _ => true
  | .inr _ => false
def itemD (kv : Key × D) : D := .tup [keyD kv.1, kv.2]
theorem keyD_rp {K : PySem.W.Frag} {F : Hp} : ∀ {k : Key}, intK k = true → Rp K F (kV k) (keyD k)
  | .inl i, _ => .int i
theorem RpK.get {K : PySem.W.Frag} {F : Hp} : ∀ {vs : List (Key × V)} {ds : List (Key × D)}, RpK K F vs ds → ∀ {i : Nat} {k : Key} {v : V}, vs[i]? = some (k, v) → ∃ e, ds[i]? = some (k, e) ∧ Rp K F v e
  | _, _, .nil, i, k, v, h => by simp at h
  | _, _, .cons r t, 0, k, v, h => by
    simp at h
    obtain ⟨rfl, rfl⟩ := h
    exact ⟨_, rfl, r⟩
  | _, _, .cons r t, i + 1, k, v, h => by
    obtain ⟨e, h1, h2⟩ := RpK.get t (i := i) (by simpa using h)
    exact ⟨e, by simpa using h1, h2⟩
theorem RpK.len {K : PySem.W.Frag} {F : Hp} : ∀ {vs : List (Key × V)} {ds : List (Key × D)}, RpK K F vs ds → vs.length = ds.length
  | _, _, .nil => rfl
  | _, _, .cons r t => by simp [RpK.len t]
theorem items_rp {K : PySem.W.Frag} {F H : Hp} {fp : List Addr} {a : Addr} {o : Obj} {vs : List (Key × V)} {ds : List (Key × D)} (r : RpK K F vs ds) (hk : ds.all (fun kv => intK kv.1) = true) (hH : H a = some (.frz o (.dK vs))) (na : a ∉ fp) : Itr' K F H fp (ds.map itemD) (Iti a o vs) := by
  refine ⟨fun H2 => H2 a = some (.frz o (.dK vs)), _, by rw [List.length_map, ← r.len]; exact walk_items, fun F2 H2 fp2 x _ => x.keep a _ hH na, fun i F2 H2 fp2 x H3 hi x2 s y => ?_⟩
  obtain ⟨T, u, w, rfl, nT, rfl, e1, e2⟩ := y
  simp only [] at e1 e2
  cases q : vs[i]? with
  | none => simp [q] at e1
  | some kv =>
  obtain ⟨k, v⟩ := kv
  simp only [q, Option.map_some, Option.some.injEq] at e1 e2
  subst e1 e2
  obtain ⟨e, h1, h2⟩ := r.get q
  have ik : intK k = true := by
    have := List.all_eq_true.mp hk (k, e) (List.mem_of_getElem? h1)
    exact this
  have nF := s.none nT
  exact ⟨upd F2 T (.tup [kV k, v]), itemD (k, e), by rw [List.getElem?_map, h1]; rfl, ext_new s nT, .tup (.inl (.inl upd_same)) (.cons (keyD_rp ik) (.one (h2.mono fun _ _ => (x2.grow.trans (grow_upd nF)).rd)))⟩
def iItemsN (i : Nat) : Ix := fun ev => match ev[i]? with
  | some (.dat (.dK ds)) => if ds.all (fun kv => intK kv.1) = true then .ok (ds.map itemD) ev else .stuck
  | _ => .stuck
def noExc : SOut → SOut
  | .exc _ => .stuck
  | o => o
def sForL (i : Nat) (b : Bx) (s : Sx) : Sx := fun ev => noExc (sFor (iItemsN i) b s ev)
theorem PS.or {X : Cx} {st : Stmt} {t u : TS} (a : PS X st t) (b : PS X st u) : PS X st (fun D σ H => t D σ H ∨ u D σ H) :=
  ⟨fun pins s σ H D I h => h.elim (a.run pins s σ H D I) (b.run pins s σ H D I)⟩
section
variable {X : Cx} {cl : Cls} {E : XK} {W : List Nat}
theorem ds_forItems (i : Nat) {x : Str} {p1 apos cpos tpos pos : Pos} {elts : List Expr} {kk : Nat} {body : List Stmt} {b : Bx} {s : Sx} (po : PassesOwn (model X.prog X.w) X.A X.env X.xe) (hc : X.calm = true) (hg : DG X W (.Tuple elts kk tpos) b) (hb : DSs X cl E W body s)
    (hN : X.N[i]? = some x := by rfl) (hv : Vis X.env.scope x := by first | exact Or.inl rfl | exact Or.inr (Or.inl rfl) | exact Or.inr (Or.inr rfl)) (hd : (x == ("__debug__" : Str)) = false := by decide) (hcd : (x == ("__classdict__" : Str)) = false := by decide)
    (hbase : attributeBase (.Name x p1) "items" X.env (eval (.Name x p1) X.env) = eval (.Name x p1) X.env := by rfl) (hline : (apos.endLine == cpos.line) = true := by rfl)
    (hs : ∀ y, foldedSetIterable (.Call (.Attribute (.Name x p1) "items" apos) [] [] cpos) X.env y = pure y := by intro _; rfl) :
    DSt X cl E W (.For (.Tuple elts kk tpos) (.Call (.Attribute (.Name x p1) "items" apos) [] [] cpos) body [] pos) (sForL i b s) := by
  obtain ⟨g, pg, hg⟩ := hg
  obtain ⟨tb, pb, hb⟩ := hb
  have one := ps_for (pos := pos) po hc (pi_items (pe_var hN hv hd hcd) hbase hline) pg pb hs
  refine ⟨_, PS.or (ps_lock one) one, fun F H σ ev fp D d m => ?_⟩
  unfold sForL at m
  have key : ∃ ds, ev[i]? = some (.dat (.dK ds)) ∧ ds.all (fun kv => intK kv.1) = true := by
    cases e : iItemsN i ev with
    | stuck => unfold sFor at m; rw [e] at m; exact m.elim
    | exc k => unfold sFor at m; rw [e] at m; exact m.elim
    | ok items e1 =>
      unfold iItemsN at e
      split at e
      · rename_i ds q
        split at e
        · rename_i hk
          exact ⟨ds, q, hk⟩
        · cases e
      · cases e
  obtain ⟨ds, q, hk⟩ := key
  have ei : iItemsN i ev = .ok (ds.map itemD) ev := by unfold iItemsN; rw [q]; simp only []; rw [if_pos hk]
  obtain ⟨v, qv, rv⟩ := d.sr.getDat q
  cases rv with
  | dK rd rk =>
  rename_i a vs
  have ne : ∀ k, sFor (iItemsN i) b s ev ≠ .exc k := fun k z => by rw [z] at m; exact m
  have m' : MeetS X.K cl E W σ F H fp D (sFor (iItemsN i) b s ev) := by
    cases z : sFor (iItemsN i) b s ev with
    | exc k => exact absurd z (ne k)
    | nx e => rw [z] at m; exact m
    | bk e => rw [z] at m; exact m
    | ct e => rw [z] at m; exact m
    | rt r e => rw [z] at m; exact m
    | stuck => rw [z] at m; exact m
  have na : a ∉ fp := fun z => by
    have := (d.sr.free a z).1
    rcases rd with r | ⟨o, r⟩ <;> rw [this] at r <;> cases r
  rcases d.sub a _ rd with hH | ⟨o, hH⟩
  · left
    have hF : F a = some (.dK vs) := by
      rcases rd with r | ⟨o, r⟩
      · exact r
      · rcases d.sub a _ (.inl r) with z | ⟨o2, z⟩ <;> rw [hH] at z <;> cases z
    refine ⟨a, .dK vs, hH, trivial, fun od => ?_⟩
    refine for_at (cl := cl) (E := E) (W := W) (F := F) (ev := ev) (fp := fp) (f := iItemsN i) (b := b) (s := s) (fun R mI => ?_) hg hb (lock_meet hF hH (fun _ _ z => by cases z) na ne m')
    rw [ei] at mI
    have dl := lock_ds (od := od) d hF (fun _ _ z => by cases z)
    exact ⟨_, qv, a, od, vs, rfl, upd_same, mI F _ fp _ (Evo.refl _ _ _) dl (items_rp rk hk upd_same na)⟩
  · right
    refine for_at (cl := cl) (E := E) (W := W) (F := F) (ev := ev) (fp := fp) (f := iItemsN i) (b := b) (s := s) (fun R mI => ?_) hg hb m'
    rw [ei] at mI
    exact ⟨_, qv, a, o, vs, rfl, hH, mI F _ fp _ (Evo.refl _ _ _) d (items_rp rk hk hH na)⟩
end
end GW

set_option Elab.async false
set_option linter.all false
set_option maxRecDepth 100000
namespace GW
open PySem PySem.Spec L2

/-! ### a dict's values as data -/
def valD : List (Key × D) → Key → Option D
  | [], _ => none
  | (q, d) :: r, k => if q = k then some d else valD r k
def hasD (ds : List (Key × D)) (k : Key) : Bool := ds.any fun kv => decide (kv.1 = k)
def putD (ds : List (Key × D)) (k : Key) (d : D) : List (Key × D) := if hasD ds k = true then ds.map (fun kv => if kv.1 = k then (kv.1, d) else kv) else ds ++ [(k, d)]
theorem RpK.has {K : PySem.W.Frag} {F : Hp} (k : Key) : ∀ {vs : List (Key × V)} {ds : List (Key × D)}, RpK K F vs ds → (vs.any fun kv => decide (kv.1 = k)) = hasD ds k
  | _, _, .nil => rfl
  | _, _, @RpK.cons _ _ q v vs d ds r t => by
    unfold hasD
    rw [List.any_cons, List.any_cons, RpK.has k t]
    rfl
theorem RpK.snoc {K : PySem.W.Frag} {F : Hp} {k : Key} {v : V} {d : D} (rd : Rp K F v d) : ∀ {vs : List (Key × V)} {ds : List (Key × D)}, RpK K F vs ds → RpK K F (vs ++ [(k, v)]) (ds ++ [(k, d)])
  | _, _, .nil => .cons rd .nil
  | _, _, .cons r t => .cons r (RpK.snoc rd t)
theorem RpK.over {K : PySem.W.Frag} {F : Hp} {k : Key} {v : V} {d : D} (rd : Rp K F v d) : ∀ {vs : List (Key × V)} {ds : List (Key × D)}, RpK K F vs ds → RpK K F (vs.map fun kv => if kv.1 = k then (kv.1, v) else kv) (ds.map fun kv => if kv.1 = k then (kv.1, d) else kv)
  | _, _, .nil => .nil
  | _, _, @RpK.cons _ _ q w vs e ds r t => by
    rw [List.map_cons, List.map_cons]
    by_cases c : q = k
    · simp only [if_pos c]
      exact .cons rd (RpK.over rd t)
    · simp only [if_neg c]
      exact .cons r (RpK.over rd t)
theorem RpK.put {K : PySem.W.Frag} {F : Hp} {k : Key} {v : V} {d : D} {vs : List (Key × V)} {ds : List (Key × D)} (r : RpK K F vs ds) (rd : Rp K F v d) : RpK K F (putK vs k v) (putD ds k d) := by
  unfold putK putD
  rw [r.has k]
  split
  · exact r.over rd
  · exact r.snoc rd
theorem RpK.val {K : PySem.W.Frag} {F : Hp} (k : Key) : ∀ {vs : List (Key × V)} {ds : List (Key × D)}, RpK K F vs ds → (valV vs k = none ∧ valD ds k = none) ∨ ∃ v d, valV vs k = some v ∧ valD ds k = some d ∧ Rp K F v d
  | _, _, .nil => .inl ⟨rfl, rfl⟩
  | _, _, @RpK.cons _ _ q v vs d ds r t => by
    by_cases e : q = k
    · exact .inr ⟨v, d, valV_pos e, by unfold valD; rw [if_pos e], r⟩
    · rcases RpK.val k t with ⟨h1, h2⟩ | ⟨v', d', h1, h2, h3⟩
      · exact .inl ⟨by rw [valV_neg e]; exact h1, by unfold valD; rw [if_neg e]; exact h2⟩
      · exact .inr ⟨v', d', by rw [valV_neg e]; exact h1, by unfold valD; rw [if_neg e]; exact h2, h3⟩
section
variable {X : Cx} {cl : Cls} {E : XK}
/-- NAME.get(e, f) of the own dict at slot i -/
def eGet2 (i : Nat) (f g : Ex) : Ex := fun ev => match ev[i]? with
  | some (.own (.dK _)) => (f ev).bind fun r e1 => (match r with
    | .dat (.int k) => (g e1).bind fun q e2 => (match q with
      | .dat dd => (match e2[i]? with
        | some (.own (.dK kvs)) => .ok (.dat ((valD kvs (.inl k)).getD dd)) e2
        | _ => .stuck)
      | _ => .stuck)
    | _ => .stuck)
  | _ => .stuck
theorem de_get2 (i : Nat) {x : Str} {e f : Expr} {fe ff : Ex} {p1 apos cpos : Pos} (hu : X.A.units + 1 < cLine) (he : DE X cl E e fe) (hf : DE X cl E f ff) (m2 : M2 X (.Name x p1) "get" apos e f cpos)
    (hN : X.N[i]? = some x := by rfl) (hv : Vis X.env.scope x := by first | exact Or.inl rfl | exact Or.inr (Or.inl rfl) | exact Or.inr (Or.inr rfl)) (hd : (x == ("__debug__" : Str)) = false := by decide) (hcd : (x == ("__classdict__" : Str)) = false := by decide) :
    DE X cl E (.Call (.Attribute (.Name x p1) "get" apos) [e, f] [] cpos) (eGet2 i fe ff) := by
  obtain ⟨te, pe, he⟩ := he
  obtain ⟨tf, pf, hf⟩ := hf
  refine ⟨_, pe_dget2 hu (pe_var hN hv hd hcd) pe pf m2, fun F H σ ev fp Q d m => ?_⟩
  unfold eGet2 at m
  split at m
  · rename_i kvs0 q0
    obtain ⟨a, qa, w0, na, ma⟩ := d.sr.getOwn q0
    obtain ⟨vs0, h0, r0⟩ := w0
    refine ⟨.ref a, qa, a, rfl, .inl ⟨vs0, .inl h0⟩, he F H σ ev fp _ d ?_⟩
    cases e1 : fe ev with
    | stuck => rw [e1] at m; exact m
    | exc k => rw [e1] at m; exact m
    | ok r ev1 =>
    rw [e1] at m
    simp only [Out.bind_ok] at m
    intro F1 H1 fp1 v tp x1 d1 rv nd
    split at m
    · rename_i k
      cases rv with
      | dat rk =>
      cases rk
      rw [List.nil_append] at x1
      refine hf F1 H1 σ ev1 fp1 _ d1 ?_
      cases e2 : ff ev1 with
      | stuck => rw [e2] at m; exact m
      | exc k => rw [e2] at m; exact ExcOk.shift x1 m
      | ok q ev2 =>
      rw [e2] at m
      simp only [Out.bind_ok] at m
      intro F2 H2 fp2 z tp2 x2 d2 rv2 nd2
      split at m
      · rename_i dd
        split at m
        · rename_i kvs q2
          cases rv2 with
          | dat rz =>
          rw [List.nil_append] at x2
          obtain ⟨a2, qa2, w2, na2, ma2⟩ := d2.sr.getOwn q2
          rw [qa] at qa2
          cases qa2
          obtain ⟨vs, h2, r2⟩ := w2
          refine ⟨valV vs (.inl k), .inl ⟨vs, .inl k, .inl h2, rfl, rfl⟩, ?_⟩
          rcases r2.val (.inl k) with ⟨c1, c2⟩ | ⟨v', d', c1, c2, c3⟩
          · rw [c1]
            rw [c2] at m
            exact m F2 H2 fp2 z [] (x1.trans x2) d2 (.dat rz) d2.nd
          · rw [c1]
            rw [c2] at m
            exact m F2 H2 fp2 v' [] (x1.trans x2) d2 (.dat c3) d2.nd
        · exact m.elim
      · exact m.elim
    · exact m.elim
  · exact m.elim
/-- NAME[ie] = e of the own dict at slot j -/
def sPutD (j : Nat) (ix f : Ex) : Sx := fun ev => match f ev with
  | .ok r e0 => (match stoR r e0 with
    | .ok d e1 => (match e1[j]? with
      | some (.own (.dK _)) => (match ix e1 with
        | .ok (.dat (.int k)) e2 => (match e2[j]? with
          | some (.own (.dK ds)) => if ds.length < 100000 then .nx (e2.set j (.own (.dK (putD ds (.inl k) d)))) else .stuck
          | _ => .stuck)
        | .exc k => .exc k
        | _ => .stuck)
      | _ => .stuck)
    | _ => .stuck)
  | .exc k => .exc k
  | .stuck => .stuck
theorem ds_putD {W : List Nat} {j : Nat} {x : Str} {e ie : Expr} {f ix : Ex} {p1 p2 pos : Pos} (hu : X.A.units + 1 < cLine) (h : DE X cl E e f) (hix : DE X cl E ie ix) (hN : X.N[j]? = some x := by rfl) (hv : Vis X.env.scope x := by first | exact Or.inl rfl | exact Or.inr (Or.inl rfl) | exact Or.inr (Or.inr rfl)) (hd : (x == ("__debug__" : Str)) = false := by decide)
    (hcd : (x == ("__classdict__" : Str)) = false := by decide) (hs : swapsWith e (some (.Subscript (.Name x p1) ie p2)) pos.line X.env = pure false := by rfl) : DSt X cl E W (.Assign [.Subscript (.Name x p1) ie p2] e pos) (sPutD j ix f) := by
  obtain ⟨t, p, h⟩ := h
  obtain ⟨ti, pix, hix⟩ := hix
  refine ⟨_, ps_dput hu (pe_var hN hv hd hcd) pix p hs, fun F H σ ev fp D d m => ?_⟩
  unfold sPutD at m
  refine sto_step (cl := cl) (E := E) h d (fun r e0 dd e1 e es F1 H1 fp1 v x1 d1 rp => ?_) (fun k e => ?_) (fun e => ?_) (fun r e0 e => ?_)
  · rw [e] at m
    simp only [es] at m
    split at m
    · rename_i ys eo
      obtain ⟨a, q, w, fa, mm⟩ := d1.sr.getOwn eo
      refine ⟨.ref a, q, ?_⟩
      refine hix F1 H1 σ e1 fp1 _ d1 ?_
      cases ei : ix e1 with
      | stuck => rw [ei] at m; exact m
      | exc k => rw [ei] at m; exact ExcOk.shift x1 m
      | ok ri e2 =>
      rw [ei] at m
      intro F2 H2 fp2 vi tp x2 d2 rv nd
      split at m
      · rename_i k e3 ek
        cases ek
        cases rv with
        | dat rr =>
        cases rr
        split at m
        · rename_i ds ex
          split at m
          · rename_i small
            obtain ⟨a2, q2, ⟨vs, hv, rs⟩, f2, mm2⟩ := d2.sr.getOwn ex
            rw [q] at q2
            injection q2 with q2; injection q2 with q2; injection q2 with q2
            subst q2
            obtain ⟨d3, x3⟩ := d2.write (o' := .dK (putD ds (.inl k) dd)) (u := .dK (putK vs (.inl k) v)) q ex ⟨_, upd_same, rs.put (rp.mono fun _ _ => x2.grow.rd)⟩
            exact ⟨a, _, rfl, .inl ⟨vs, .inl k, hv, rfl, by rw [rs.len, sizeLine_eq]; omega, rfl⟩, m F2 _ σ fp2 ((x1.trans x2).trans x3) d3 (Frm.refl _ _)⟩
          · exact m.elim
        · exact m.elim
      · rename_i ek; cases ek
      · exact m.elim
    · exact m.elim
  · rw [e] at m; exact m
  · rw [e] at m; exact m
  · rw [e] at m
    cases es : stoR r e0 with
    | stuck => simp only [es] at m; exact m.elim
    | exc k => simp only [es] at m; exact m.elim
    | ok a b => simp [es]
end
end GW

set_option Elab.async false
set_option linter.all false
set_option maxRecDepth 100000
set_option maxHeartbeats 1000000
namespace GW
open PySem PySem.Spec PyProof.Rows L2

/-! ### max(d.values()) -/
abbrev viewAt (a : Addr) : Obj := { cls := .type "dict_values", data := .fields #[.ref a] }
def tMaxVals (td : TE) : TE := fun σ H Q => td σ H fun x H1 => ∃ a kvs is, x = V.ref a ∧ Rd H1 a (.dK kvs) ∧ kvs.map (·.2) = is.map V.int ∧ is ≠ [] ∧ ∀ m, m ∈ is → (∀ j ∈ is, j ≤ m) → Q (.int m) H1
theorem pe_maxVals {X : Cx} {o : Expr} {p pos apos mpos : Pos} {td : TE} (cold : X.calm = true) (gl : Gl X "max") (un : X.mg "max" = none) (po : PE X o td) (atb : attributeBase o "values" X.env (eval o X.env) = eval o X.env := by rfl) (line : (apos.endLine == mpos.line) = true := by rfl)
    (st : starEach [Expr.Call (.Attribute o "values" apos) [] [] mpos] X.env = [(false, eval (Expr.Call (.Attribute o "values" apos) [] [] mpos) X.env)] := by rfl) :
    PE X (.Call (.Name "max" p) [.Call (.Attribute o "values" apos) [] [] mpos] [] pos) (tMaxVals td) := by
  refine ⟨fun pins s σ H Q I want => ?_⟩
  refine wpAny_Call_Name_kw (ld_blt I gl un (u := .builtin "max") (by first | rfl | decide +kernel) ?_ (by first | decide +kernel | decide) (by first | decide +kernel | decide))
  rw [st]
  refine PySem.callWith_builtin1 (wpAny_Call_method0_late atb line (thn (po.run pins s σ H _ I want) fun v s1 ⟨x, H1, J, rx, a, kvs, is, ex, rd, vals, some_, q⟩ => ?_))
  subst ex
  have ev : v = Value.ref a := rx
  subst ev
  obtain ⟨_, nosys, vs, rel, isd⟩ := dk_rd J.hok rd
  obtain ⟨ep, view⟩ := isd.dictAt
  obtain ⟨ob, es, at_, exact_, _⟩ := id view
  refine ⟨"dict", "dict.values", F.plainAttrs_dict, F.slot_dict_values, F.type_dict_values, ⟨ob, at_, exact_.1⟩, fun b e => ⟨ob, by cases e; exact at_, exact_.2.1⟩, Calls.callWith_builtin rfl (PySem.evalArgs_none ?_)⟩
  refine call_meetsIn F.slot_dict_values ⟨ob, at_, exact_.1⟩ F.entry_dict_values (F.args_dict_values_1 _) (meets_dict_values (mixKind X.prog X.w) a nosys) ⟨⟨vs, isd⟩, ?_⟩
  have kp : ∀ b u, s1.heap.get? b = some u → (s1.heap.push (viewAt a)).get? b = some u := fun b u e => Heap.get?_push_of_some _ e
  have view1 : (s1.heap.push (viewAt a)).DictAt (mixKind X.prog X.w) a vs ep := view.keep kp
  have ll : vs.length = is.length := by
    have y := congrArg List.length vals
    rw [List.length_map, List.length_map] at y
    exact (KV.length rel).symm.trans y
  have pos_ : 0 < vs.length := by
    rw [ll]
    exact List.length_pos_iff.mpr some_
  have each : ∀ (i : Nat) (v : Value), (∃ k, vs[i]? = some (k, v)) → ∃ t, v = Value.int (is.getD i 0) t := fun i v ⟨k, hk⟩ => by
    obtain ⟨x, h1, t⟩ := KV.at' rel hk
    have y : (kvs.map (·.2))[i]? = some x := by rw [List.getElem?_map, h1]; rfl
    rw [vals, List.getElem?_map] at y
    obtain ⟨j, hj, z⟩ := Option.map_eq_some_iff.mp y
    subst z
    obtain ⟨t, w⟩ := t
    exact ⟨t, by rw [w, List.getD_eq_getElem?_getD, hj]; rfl⟩
  have la : a < s1.heap.objs.size := Heap.lt_size at_
  have sz : (s1.heap.push (viewAt a)).objs.size = s1.heap.objs.size + 1 := Heap.size_push _ _
  refine call_max_walk (wpAny_pyIter_values (v := s1.heap.objs.size) (d := a) ⟨_, Heap.get?_push_size _ rfl, rfl, rfl⟩ view1 ?_)
  refine ⟨_, _, _, _, _, _, _, rfl, Walks.dictValues (knd := mixKind X.prog X.w) (A := X.A.in1) (I.ok.hd cold) (s1.heap.push (viewAt a)).objs.size a (by rw [sz]; exact Nat.ne_of_lt (Nat.lt_succ_of_lt la)) vs ep,
    ⟨⟨_, Heap.get?_push_size _ rfl, rfl, rfl⟩, view1.keep fun b u e => Heap.get?_push_of_some _ e⟩, fun b nb => ?_, pos_, CmpOf.ints_gt (fun i => is.getD i 0) each, fun v g tk hP hk => ?_⟩
  · show b < ((s1.heap.push _).push _).objs.size
    rw [Heap.size_push, Heap.size_push]
    rw [sz] at nb
    rcases List.mem_cons.mp nb with z | z
    · rw [z]; exact Nat.lt_succ_self _
    · rw [List.mem_singleton.mp z]; exact Nat.lt_succ_of_lt (Nat.lt_succ_of_lt la)
  · obtain ⟨t, rfl⟩ := each _ v hP
    obtain ⟨b1, b2⟩ := argBest_gt (fun i => is.getD i 0) (vs.length - 1)
    refine ⟨.int _, H1, J.kept (t' := tk) fun b u e => hk b u (fun mm => ?_) (Heap.get?_push_of_some _ (kp b u e)), ⟨t, rfl⟩, q _ ?_ fun j hj => ?_⟩
    · have y := Heap.lt_size e
      rw [List.mem_singleton.mp mm, sz] at y
      exact absurd y (Nat.not_lt.mpr (Nat.le_succ _))
    · exact PySem.getD_mem (by omega)
    · obtain ⟨i, hi, rfl⟩ := mem_getD hj
      exact b2 i (by omega)
end GW

set_option Elab.async false
set_option linter.all false
set_option maxRecDepth 100000
namespace GW
open PySem PySem.Spec L2

theorem RpK.vals {K : PySem.W.Frag} {F : Hp} : ∀ {vs : List (Key × V)} {ds : List (Key × D)}, RpK K F vs ds → RpL K F (vs.map (·.2)) (ds.map (·.2))
  | _, _, .nil => .nil
  | _, _, .cons r t => .cons r (RpK.vals t)
/-- max(NAME.values()) -/
def maxV (ds : List (Key × D)) (ev : List Sl) : Out R := match intsOf (ds.map (·.2)) with
  | some ns => if ns.isEmpty = true then .stuck else .ok (.dat (.int (maxL ns))) ev
  | none => .stuck
def eMaxV (i : Nat) : Ex := fun ev => match ev[i]? with
  | some (.dat (.dK ds)) => maxV ds ev
  | some (.own (.dK ds)) => maxV ds ev
  | _ => .stuck
theorem de_maxV {X : Cx} {cl : Cls} {E : XK} (i : Nat) {x : Str} {p1 p pos apos mpos : Pos} (cold : X.calm = true) (gl : Gl X "max") (un : X.mg "max" = none)
    (hN : X.N[i]? = some x := by rfl) (hv : Vis X.env.scope x := by first | exact Or.inl rfl | exact Or.inr (Or.inl rfl) | exact Or.inr (Or.inr rfl)) (hd : (x == ("__debug__" : Str)) = false := by decide) (hcd : (x == ("__classdict__" : Str)) = false := by decide)
    (atb : attributeBase (.Name x p1) "values" X.env (eval (.Name x p1) X.env) = eval (.Name x p1) X.env := by rfl) (line : (apos.endLine == mpos.line) = true := by rfl)
    (st : starEach [Expr.Call (.Attribute (.Name x p1) "values" apos) [] [] mpos] X.env = [(false, eval (Expr.Call (.Attribute (.Name x p1) "values" apos) [] [] mpos) X.env)] := by rfl) :
    DE X cl E (.Call (.Name "max" p) [.Call (.Attribute (.Name x p1) "values" apos) [] [] mpos] [] pos) (eMaxV i) := by
  refine ⟨_, pe_maxVals cold gl un (pe_var hN hv hd hcd) atb line st, fun F H σ ev fp Q d m => ?_⟩
  have go : ∀ (a : Addr) (vs : List (Key × V)) (ds : List (Key × D)), σ[i]? = some (some (.ref a)) → Rd H a (.dK vs) → RpK X.K F vs ds → MeetE X.K cl E σ F H fp Q (maxV ds ev) → tMaxVals (tVar i) σ H Q := fun a vs ds q rd rk m => by
    unfold maxV at m
    cases e : intsOf (ds.map (·.2)) with
    | none => rw [e] at m; exact m.elim
    | some ns =>
      rw [e] at m
      simp only [] at m
      split at m
      · exact m.elim
      · rename_i ne
        have hds := intsOf_eq e
        have rl := rk.vals
        rw [hds] at rl
        refine ⟨.ref a, q, a, vs, ns, rfl, rd, rl.ints, fun z => ne (by rw [z]; rfl), fun t ht hm => ?_⟩
        have pos_ : 0 < ns.length := List.length_pos_of_mem ht
        obtain ⟨b1, b2⟩ := maxL_spec ns pos_
        have : t = maxL ns := by
          have := hm _ b1
          have := b2 _ ht
          omega
        subst this
        exact m F H fp _ [] (Evo.refl _ _ _) d (.dat (.int _)) d.nd
  unfold eMaxV at m
  split at m
  · rename_i ds q
    obtain ⟨v, qv, rv⟩ := d.sr.getDat q
    cases rv with
    | dK rd rk => exact go _ _ _ qv (d.sub _ _ rd) rk m
  · rename_i ds q
    obtain ⟨a, qa, ⟨vs, h, rk⟩, _, _⟩ := d.sr.getOwn q
    exact go a vs ds qa (.inl h) rk m
  · exact m.elim
end GW

set_option Elab.async false
set_option linter.all false
set_option maxRecDepth 100000
namespace GW
open PySem PySem.Spec L2

/-! ### for over NAME[NAME].items() -/
def iItemsIx (i j : Nat) : Ix := fun ev => match ev[i]? with
  | some (.own (.lst ls)) => (match ev[j]? with
    | some (.dat (.int k)) => (match atI ls k with
      | some (.dK ds) => if ds.all (fun kv => intK kv.1) = true then .ok (ds.map itemD) ev else .stuck
      | _ => .stuck)
    | _ => .stuck)
  | _ => .stuck
def sForIx (i j : Nat) (b : Bx) (s : Sx) : Sx := fun ev => noExc (sFor (iItemsIx i j) b s ev)
section
variable {X : Cx} {cl : Cls} {E : XK} {W : List Nat}
theorem ds_forItemsIx (i j : Nat) {x y : Str} {p1 p2 p3 apos cpos tpos pos : Pos} {elts : List Expr} {kk : Nat} {body : List Stmt} {b : Bx} {s : Sx} (po : PassesOwn (model X.prog X.w) X.A X.env X.xe) (hc : X.calm = true) (hg : DG X W (.Tuple elts kk tpos) b) (hb : DSs X cl E W body s)
    (hN : X.N[i]? = some x := by rfl) (hv : Vis X.env.scope x := by first | exact Or.inl rfl | exact Or.inr (Or.inl rfl) | exact Or.inr (Or.inr rfl)) (hd : (x == ("__debug__" : Str)) = false := by decide) (hcd : (x == ("__classdict__" : Str)) = false := by decide)
    (hN2 : X.N[j]? = some y := by rfl) (hv2 : Vis X.env.scope y := by first | exact Or.inl rfl | exact Or.inr (Or.inl rfl) | exact Or.inr (Or.inr rfl)) (hd2 : (y == ("__debug__" : Str)) = false := by decide) (hcd2 : (y == ("__classdict__" : Str)) = false := by decide)
    (hbase : attributeBase (.Subscript (.Name x p1) (.Name y p2) p3) "items" X.env (eval (.Subscript (.Name x p1) (.Name y p2) p3) X.env) = eval (.Subscript (.Name x p1) (.Name y p2) p3) X.env := by rfl) (hline : (apos.endLine == cpos.line) = true := by rfl)
    (hs : ∀ z, foldedSetIterable (.Call (.Attribute (.Subscript (.Name x p1) (.Name y p2) p3) "items" apos) [] [] cpos) X.env z = pure z := by intro _; rfl) :
    DSt X cl E W (.For (.Tuple elts kk tpos) (.Call (.Attribute (.Subscript (.Name x p1) (.Name y p2) p3) "items" apos) [] [] cpos) body [] pos) (sForIx i j b s) := by
  obtain ⟨g, pg, hg⟩ := hg
  obtain ⟨tb, pb, hb⟩ := hb
  have one := ps_for (pos := pos) po hc (pi_items (pe_ix ix_list (pe_var hN hv hd hcd) (pe_var hN2 hv2 hd2 hcd2) (fun _ _ => rfl)) hbase hline) pg pb hs
  refine ⟨_, PS.or (ps_lock one) one, fun F H σ ev fp D d m => ?_⟩
  unfold sForIx at m
  have key : ∃ ls k ds, ev[i]? = some (.own (.lst ls)) ∧ ev[j]? = some (.dat (.int k)) ∧ atI ls k = some (.dK ds) ∧ ds.all (fun kv => intK kv.1) = true := by
    cases e : iItemsIx i j ev with
    | stuck => unfold sFor at m; rw [e] at m; exact m.elim
    | exc k => unfold sFor at m; rw [e] at m; exact m.elim
    | ok items e1 =>
      unfold iItemsIx at e
      split at e
      · rename_i ls q
        split at e
        · rename_i k q2
          split at e
          · rename_i ds q3
            split at e
            · rename_i hk
              exact ⟨ls, k, ds, q, q2, q3, hk⟩
            · cases e
          · cases e
        · cases e
      · cases e
  obtain ⟨ls, k, ds, q1, q2, q3, hk⟩ := key
  have ei : iItemsIx i j ev = .ok (ds.map itemD) ev := by unfold iItemsIx; rw [q1]; simp only []; rw [q2]; simp only []; rw [q3]; simp only []; rw [if_pos hk]
  obtain ⟨l, ql, ⟨vs0, hl, rl⟩, nl, ml⟩ := d.sr.getOwn q1
  obtain ⟨vk, qk, rk0⟩ := d.sr.getDat q2
  cases rk0
  obtain ⟨v, qv, rv⟩ := atI_rp rl q3
  cases rv with
  | dK rd rk =>
  rename_i a vs
  have ne : ∀ k, sFor (iItemsIx i j) b s ev ≠ .exc k := fun k z => by rw [z] at m; exact m
  have m' : MeetS X.K cl E W σ F H fp D (sFor (iItemsIx i j) b s ev) := by
    cases z : sFor (iItemsIx i j) b s ev with
    | exc k => exact absurd z (ne k)
    | nx e => rw [z] at m; exact m
    | bk e => rw [z] at m; exact m
    | ct e => rw [z] at m; exact m
    | rt r e => rw [z] at m; exact m
    | stuck => rw [z] at m; exact m
  have na : a ∉ fp := fun z => by
    have := (d.sr.free a z).1
    rcases rd with r | ⟨o, r⟩ <;> rw [this] at r <;> cases r
  rcases d.sub a _ rd with hH | ⟨o, hH⟩
  · left
    have hF : F a = some (.dK vs) := by
      rcases rd with r | ⟨o, r⟩
      · exact r
      · rcases d.sub a _ (.inl r) with z | ⟨o2, z⟩ <;> rw [hH] at z <;> cases z
    have la : l ≠ a := fun z => by rw [z, hH] at hl; cases hl
    refine ⟨a, .dK vs, hH, trivial, fun od => ?_⟩
    refine for_at (cl := cl) (E := E) (W := W) (F := F) (ev := ev) (fp := fp) (f := iItemsIx i j) (b := b) (s := s) (fun R mI => ?_) hg hb (lock_meet hF hH (fun _ _ z => by cases z) na ne m')
    rw [ei] at mI
    have dl := lock_ds (od := od) d hF (fun _ _ z => by cases z)
    exact ⟨_, ql, _, qk, l, vs0, k, _, rfl, rfl, SqL.of (by rw [upd_ne la]; exact hl), qv, a, od, vs, rfl, upd_same, mI F _ fp _ (Evo.refl _ _ _) dl (items_rp rk hk upd_same na)⟩
  · right
    refine for_at (cl := cl) (E := E) (W := W) (F := F) (ev := ev) (fp := fp) (f := iItemsIx i j) (b := b) (s := s) (fun R mI => ?_) hg hb m'
    rw [ei] at mI
    exact ⟨_, ql, _, qk, l, vs0, k, _, rfl, rfl, SqL.of hl, qv, a, o, vs, rfl, hH, mI F _ fp _ (Evo.refl _ _ _) d (items_rp rk hk hH na)⟩
end
end GW

set_option Elab.async false
set_option linter.all false
set_option maxRecDepth 100000
namespace GW
open PySem PySem.Spec PyProof.Rows L2

/-! ### tuple * 1 -/
theorem tuple_mulOne (l : Addr) (items : Array Value) (n : Nat) (dd : Option Addr) (sl : Array (Option Value)) (u : Tok) :
    Meets (Builtin.«tuple.__mul__» ⟨[.ref l, .int 1 u], []⟩) (fun _ R s => s.heap.get? l = some { cls := .type "tuple", dict := dd, data := .seq items n, slots := sl } ∧ R (.ok (.ret (Value.ref l))) s) :=
  .of_wp fun prog w A R s want => by
    obtain ⟨h0, g0, d0, t0, o0⟩ := s
    obtain ⟨here, want⟩ := want
    have f1 := AutoSeq1.idx_int
    wp_walk using AutoSeq1.wpAny_loadPart' here
    exact ⟨_, rfl, want⟩
def rRep1 (K : PySem.W.Frag) : R2 := fun x y H Q => ∃ l xs, x = .ref l ∧ y = .int 1 ∧ SqT K H l xs ∧ Q (.ref l) H
theorem op_rep1 {X : Cx} : OpR X (binaryOp .Mult) (rRep1 X.K) := by
  intro pins s σ H x y v u Q I rx ry want
  obtain ⟨l, xs, rfl, rfl, sq, q⟩ := want
  cases rx
  obtain ⟨t, rfl⟩ := ry
  obtain ⟨its, _, ⟨⟨cls, dd, data, sl⟩, at_, cc, n, dt⟩, _⟩ := I.tuple sq
  simp only at cc dt
  subst cc dt
  exact wpAny_binaryOp_repeat_ref (T := "tuple") (U := "int") (by decide) ⟨_, at_, rfl⟩ (fun s' => typeIs_int s' 1 t) noFill_tuple_mul F.fills_int_mul F.slot_int_rmul repeat_tuple F.slot_int_index.lookup
    (call_meets F.slot_int_rmul (typeIs_int s 1 t) F.entry_int_rmul (F.args_int_rmul_2 _ _) (int_rmul_tuple 1 t l its.toArray n dd sl)
      ⟨at_, rfl, ⟨_, at_, rfl⟩, call_meets F.slot_tuple_mul ⟨_, at_, rfl⟩ F.entry_tuple_mul (F.args_tuple_mul_2 _ _) (tuple_mulOne l its.toArray n dd sl t) ⟨at_, .ref l, H, I, rfl, q⟩⟩)
/-- x * y: ints; a tuple some times -/
def dMulX : D → D → Option R
  | .tup xs, .int k => if k = 1 then some (.dat (.tup xs)) else dMul (.tup xs) (.int k)
  | x, y => dMul x y
theorem op_mulX {X : Cx} : OpR X (binaryOp .Mult) (fun x y H Q => rMulD X.K x y H Q ∨ rRep1 X.K x y H Q) := op_mulD.or op_rep1
theorem mulX_D {X : Cx} : Op2 X (fun x y H Q => rMulD X.K x y H Q ∨ rRep1 X.K x y H Q) dMulX := by
  intro F H x y dx dy Q out s rx ry e g
  unfold dMulX at e
  split at e
  · rename_i xs k
    split at e
    · rename_i one
      subst one
      cases e
      obtain ⟨a, vs, rfl, h1, r1, p1⟩ := rx.tup s
      have hy := ry.int
      subst hy
      exact .inr ⟨a, vs, rfl, rfl, h1, give_val g s p1⟩
    · exact .inl (mulD_D F H _ _ _ _ Q out s rx ry e g)
  · exact .inl (mulD_D F H _ _ _ _ Q out s rx ry e g)
end GW

set_option Elab.async false
set_option linter.all false
set_option maxRecDepth 100000
namespace GW
open PySem PySem.Spec PyProof.Rows L2

/-! ### a[k] and k in a of a dict with int keys -/
def rDGet : R2 := fun x y H Q => ∃ a v, x = .ref a ∧ DGet H a y (some v) ∧ Q v H
theorem ix_dict {X : Cx} (hu : X.A.units + 1 < cLine) : IxR X rDGet := by
  intro value slice pins s σ H x y v u Q I rx ry h hs
  obtain ⟨a, z, rfl, g, q⟩ := h
  obtain rfl : v = Value.ref a := rx
  unfold subscriptTail
  refine wpAny_bind ?_
  have hT := dict_typeIs I g
  rw [getitemInPython_of_ne hT.not_modules]
  refine wpAny_bind (wpAny_specialOf hT PySem.F.slot_dict_getitem.lookup ?_)
  have fin : wpAny (model X.prog X.w) X.A (subscripted slice false (Value.ref a) u) (fun r s₃ => wpAny (model X.prog X.w) X.A (letTemporaryGo value (Value.ref a) r >>= fun _ => pure r) (EP X pins σ Q) X.xe s₃) X.xe s := by
    rw [hs]
    exact wpAny_operating (wpAny_mono (d_getItem (Q := EP X pins σ Q) hu I g ry fun w' s3 I3 rw' => ⟨z, H, I3, rw', q⟩) (fun r s₃ h₃ => wpAny_bind (wpAny_letTemporaryGo (wpAny_pure h₃))) fun _ _ x => x)
  first
    | exact wpAny_pure (wpAny_bind fin)
    | exact wpAny_bind (wpAny_pure (wpAny_bind fin))
    | exact wpAny_bind fin
/-- a[k], a an own dict -/
def dIxK : D → D → Option R
  | .dK ds, .int k => (valD ds (.inl k)).map R.dat
  | _, _ => none
theorem RX.dK {K : PySem.W.Frag} {F H : Hp} {v : V} {ds : List (Key × D)} (s : Sub F H) (r : RX K F H v (.dK ds)) : ∃ a vs, v = .ref a ∧ Rd H a (.dK vs) ∧ RpK K F vs ds := by
  rcases r with r | ⟨a, o, rfl, w, e⟩
  · cases r with
    | dK h r => exact ⟨_, _, rfl, s _ _ h, r⟩
  · cases o with
    | lst xs => cases e
    | dK xs =>
      cases e
      obtain ⟨vs, h, r⟩ := w
      exact ⟨a, vs, rfl, .inl h, r⟩
    | dT xs => cases e
theorem ixK_ok {X : Cx} : Op2 X rDGet dIxK := by
  intro F H x y dx dy Q out s rx ry e g
  unfold dIxK at e
  split at e
  · rename_i ds k
    obtain ⟨a, vs, rfl, h1, r1⟩ := rx.dK s
    have hy := ry.int
    subst hy
    rcases r1.val (.inl k) with ⟨_, c2⟩ | ⟨v, d, c1, c2, c3⟩
    · rw [c2] at e; cases e
    · rw [c2] at e
      cases e
      exact ⟨a, v, rfl, .inl ⟨vs, .inl k, h1, rfl, c1.symm⟩, give_val g s c3⟩
  · cases e
def rDNotIn : R2 := fun y x H Q => ∃ a o, x = .ref a ∧ DGet H a y o ∧ Q (.bl (!o.isSome)) H
theorem op_dnotin {X : Cx} (hu : X.A.units + 1 < cLine) : OpR X (compareOp .NotIn) rDNotIn := by
  intro pins s σ H y x v u Q I ry rx h
  obtain ⟨a, o, rfl, g, q⟩ := h
  obtain rfl : u = Value.ref a := rx
  exact d_notIn (Q := EP X pins σ Q) hu I g ry fun s3 I3 => ⟨.bl (!o.isSome), H, I3, rfl, q⟩
def dNotInK : D → D → Option R
  | .int k, .dK ds => some (.dat (.bl (!(valD ds (.inl k)).isSome)))
  | _, _ => none
theorem notInK_ok {X : Cx} : Op2 X rDNotIn dNotInK := by
  intro F H y x dy dx Q out s ry rx e g
  unfold dNotInK at e
  split at e
  · rename_i k ds
    cases e
    obtain ⟨a, vs, rfl, h1, r1⟩ := rx.dK s
    have hy := ry.int
    subst hy
    refine ⟨a, valV vs (.inl k), rfl, .inl ⟨vs, .inl k, h1, rfl, rfl⟩, ?_⟩
    have e : (valV vs (.inl k)).isSome = (valD ds (.inl k)).isSome := by
      rcases r1.val (.inl k) with ⟨c1, c2⟩ | ⟨v, d, c1, c2, c3⟩
      · rw [c1, c2]; rfl
      · rw [c1, c2]; rfl
    rw [e]
    exact give_val g s (.bl _)
  · cases e
/-! ### for .. in NAME.values() -/
theorem vals_rp {K : PySem.W.Frag} {F H : Hp} {fp : List Addr} {a : Addr} {o : Obj} {vs : List (Key × V)} {ds : List (Key × D)} (r : RpK K F vs ds) (hH : H a = some (.frz o (.dK vs))) (na : a ∉ fp) : Itr' K F H fp (ds.map (·.2)) (Itd a o vs) := by
  refine ⟨fun H2 => H2 a = some (.frz o (.dK vs)), _, by rw [List.length_map, ← r.len]; exact walk_values, fun F2 H2 fp2 x _ => x.keep a _ hH na, fun i F2 H2 fp2 x H3 hi x2 s y => ?_⟩
  obtain ⟨rfl, k, e1⟩ := y
  obtain ⟨e, h1, h2⟩ := r.get e1
  exact ⟨F2, e, by rw [List.getElem?_map, h1]; rfl, Ext.refl s, h2.mono fun _ _ => x2.grow.rd⟩
def iValsN (i : Nat) : Ix := fun ev => match ev[i]? with
  | some (.dat (.dK ds)) => .ok (ds.map (·.2)) ev
  | _ => .stuck
def sForV (i : Nat) (b : Bx) (s : Sx) : Sx := fun ev => noExc (sFor (iValsN i) b s ev)
section
variable {X : Cx} {cl : Cls} {E : XK} {W : List Nat}
theorem ds_forVals (i : Nat) {x : Str} {p1 apos cpos pos : Pos} {tg : Expr} {body : List Stmt} {b : Bx} {s : Sx} (po : PassesOwn (model X.prog X.w) X.A X.env X.xe) (hc : X.calm = true) (hg : DG X W tg b) (hb : DSs X cl E W body s)
    (hN : X.N[i]? = some x := by rfl) (hv : Vis X.env.scope x := by first | exact Or.inl rfl | exact Or.inr (Or.inl rfl) | exact Or.inr (Or.inr rfl)) (hd : (x == ("__debug__" : Str)) = false := by decide) (hcd : (x == ("__classdict__" : Str)) = false := by decide)
    (hbase : attributeBase (.Name x p1) "values" X.env (eval (.Name x p1) X.env) = eval (.Name x p1) X.env := by rfl) (hline : (apos.endLine == cpos.line) = true := by rfl)
    (hs : ∀ y, foldedSetIterable (.Call (.Attribute (.Name x p1) "values" apos) [] [] cpos) X.env y = pure y := by intro _; rfl) :
    DSt X cl E W (.For tg (.Call (.Attribute (.Name x p1) "values" apos) [] [] cpos) body [] pos) (sForV i b s) := by
  obtain ⟨g, pg, hg⟩ := hg
  obtain ⟨tb, pb, hb⟩ := hb
  have one := ps_for (pos := pos) po hc (pi_values (pe_var hN hv hd hcd) hbase hline) pg pb hs
  refine ⟨_, PS.or (ps_lock one) one, fun F H σ ev fp D d m => ?_⟩
  unfold sForV at m
  have key : ∃ ds, ev[i]? = some (.dat (.dK ds)) := by
    cases e : iValsN i ev with
    | stuck => unfold sFor at m; rw [e] at m; exact m.elim
    | exc k => unfold sFor at m; rw [e] at m; exact m.elim
    | ok items e1 =>
      unfold iValsN at e
      split at e
      · rename_i ds q
        exact ⟨ds, q⟩
      · cases e
  obtain ⟨ds, q⟩ := key
  have ei : iValsN i ev = .ok (ds.map (·.2)) ev := by unfold iValsN; rw [q]
  obtain ⟨v, qv, rv⟩ := d.sr.getDat q
  cases rv with
  | dK rd rk =>
  rename_i a vs
  have ne : ∀ k, sFor (iValsN i) b s ev ≠ .exc k := fun k z => by rw [z] at m; exact m
  have m' : MeetS X.K cl E W σ F H fp D (sFor (iValsN i) b s ev) := by
    cases z : sFor (iValsN i) b s ev with
    | exc k => exact absurd z (ne k)
    | nx e => rw [z] at m; exact m
    | bk e => rw [z] at m; exact m
    | ct e => rw [z] at m; exact m
    | rt r e => rw [z] at m; exact m
    | stuck => rw [z] at m; exact m
  have na : a ∉ fp := fun z => by
    have := (d.sr.free a z).1
    rcases rd with r | ⟨o, r⟩ <;> rw [this] at r <;> cases r
  rcases d.sub a _ rd with hH | ⟨o, hH⟩
  · left
    have hF : F a = some (.dK vs) := by
      rcases rd with r | ⟨o, r⟩
      · exact r
      · rcases d.sub a _ (.inl r) with z | ⟨o2, z⟩ <;> rw [hH] at z <;> cases z
    refine ⟨a, .dK vs, hH, trivial, fun od => ?_⟩
    refine for_at (cl := cl) (E := E) (W := W) (F := F) (ev := ev) (fp := fp) (f := iValsN i) (b := b) (s := s) (fun R mI => ?_) hg hb (lock_meet hF hH (fun _ _ z => by cases z) na ne m')
    rw [ei] at mI
    have dl := lock_ds (od := od) d hF (fun _ _ z => by cases z)
    exact ⟨_, qv, a, od, vs, rfl, upd_same, mI F _ fp _ (Evo.refl _ _ _) dl (vals_rp rk upd_same na)⟩
  · right
    refine for_at (cl := cl) (E := E) (W := W) (F := F) (ev := ev) (fp := fp) (f := iValsN i) (b := b) (s := s) (fun R mI => ?_) hg hb m'
    rw [ei] at mI
    exact ⟨_, qv, a, o, vs, rfl, hH, mI F _ fp _ (Evo.refl _ _ _) d (vals_rp rk hH na)⟩
end
end GW

set_option Elab.async false
set_option linter.all false
set_option maxRecDepth 100000
namespace GW
open PySem PySem.Spec PyProof.Rows L2

/-! ### for .. in enumerate(NAME): .. of an own list that the body leaves alone -/
section
variable {K : PySem.W.Frag} {F H : Hp} {σ : L2.St} {ev : List Sl} {fp : List Addr}
theorem SR.forgetOwn (s : SR K F H σ ev fp) : ∀ {i : Nat} {o : O} {a : Addr}, ev[i]? = some (.own o) → σ[i]? = some (some (.ref a)) → fp.Nodup → ∃ fp', SR K F H σ (ev.set i .un) fp' ∧ fp'.Sublist fp ∧ a ∉ fp' := by
  induction s with
  | @tabd v' d' a' σ ev fp r t nn h ih =>
    intro i o a e q n
    have n2 := List.nodup_cons.mp n
    cases i with
    | zero => simp at e
    | succ i =>
      have e' : ev[i]? = some (.own o) := by simpa using e
      have q' : σ[i]? = some (some (.ref a)) := by simpa using q
      obtain ⟨fp', x, y, z⟩ := ih e' q' n2.2
      refine ⟨a' :: fp', .tabd r t nn x, y.cons_cons _, fun w => ?_⟩
      rcases List.mem_cons.mp w with e3 | e3
      · obtain ⟨a2, e2, _, _, m⟩ := h.getOwn e'
        rw [q'] at e2
        injection e2 with e2; injection e2 with e2; injection e2 with e2
        subst e2
        exact n2.1 (by rw [← e3]; exact m)
      · exact z e3
  | nil => intro i o a h; simp at h
  | un h ih =>
    intro i o a e q n
    cases i with
    | zero => simp at e
    | succ i => obtain ⟨fp', x, y, z⟩ := ih (i := i) (by simpa using e) (by simpa using q) n; exact ⟨fp', .un x, y, z⟩
  | dat r h ih =>
    intro i o a e q n
    cases i with
    | zero => simp at e
    | succ i => obtain ⟨fp', x, y, z⟩ := ih (i := i) (by simpa using e) (by simpa using q) n; exact ⟨fp', .dat r x, y, z⟩
  | @own a' o0 σ ev fp r f h ih =>
    intro i o a e q n
    have n2 := List.nodup_cons.mp n
    cases i with
    | zero =>
      simp at q
      subst q
      exact ⟨fp, .un h, List.sublist_cons_self _ _, n2.1⟩
    | succ i =>
      have e' : ev[i]? = some (.own o) := by simpa using e
      have q' : σ[i]? = some (some (.ref a)) := by simpa using q
      obtain ⟨fp', x, y, z⟩ := ih e' q' n2.2
      refine ⟨a' :: fp', .own r f x, y.cons_cons _, fun w => ?_⟩
      rcases List.mem_cons.mp w with e3 | e3
      · obtain ⟨a2, e2, _, _, m⟩ := h.getOwn e'
        rw [q'] at e2
        injection e2 with e2; injection e2 with e2; injection e2 with e2
        subst e2
        exact n2.1 (by rw [← e3]; exact m)
      · exact z e3
end
def putO (i : Nat) (o : O) : SOut → SOut
  | .nx e => .nx (e.set i (.own o))
  | _ => .stuck
def sForEnO (i : Nat) (b : Bx) (s : Sx) : Sx := fun ev => match ev[i]? with
  | some (.own (.lst xs)) => putO i (.lst xs) (forS b s (enumD 0 xs) (ev.set i .un))
  | _ => .stuck
theorem put_meet {K : PySem.W.Frag} {cl : Cls} {E : XK} {W W' : List Nat} {σ : L2.St} {F H : Hp} {fp fp' : List Addr} {D : Ends} {i : Nat} {a : Addr} {xs : List GW.D} (hw : ∀ j ∈ W', j ∈ W) (ni : i ∉ W') (ha : σ[i]? = some (some (.ref a))) (w : OwnAt K F H a (.lst xs)) (nF : F a = none) (na : a ∉ fp') (ma : a ∈ fp) (sb : ∀ b ∈ fp', b ∈ fp) :
    ∀ {out : SOut}, MeetS K cl E W σ F H fp D (putO i (.lst xs) out) → MeetS K cl E W' σ F H fp' D out
  | .nx e, m => fun F1 H1 σ1 fp1 x d f => by
    obtain ⟨u, hu⟩ := w.there
    have hu1 := x.keep a u hu na
    have nF1 := x.out a u hu nF na
    have n1 : a ∉ fp1 := fun z => by
      rcases x.fpn a z with q | q
      · exact na q
      · rw [hu] at q; cases q
    have w1 : OwnAt K F1 H1 a (.lst xs) := w.mono x.grow fun v hv => by rw [hu] at hv; cases hv; exact hu1
    obtain ⟨fp2, s2, n2, b2⟩ := d.sr.setOwn w1 nF1 i
    have si : σ1[i]? = some (some (.ref a)) := (f.get i ni).trans ha
    have es : σ1.set i (some (.ref a)) = σ1 := by
      apply List.ext_getElem?
      intro j
      rw [List.getElem?_set]
      split
      · rename_i hj
        subst hj
        split
        · exact si.symm
        · rename_i hl
          rw [List.getElem?_eq_none (by omega)] at si
          cases si
      · rfl
    rw [es] at s2
    have y := x.more sb
    refine m F1 H1 σ1 fp2 ⟨y.keep, y.grow, y.out, fun b hb => ?_⟩ ⟨d.sub, s2, n2 d.nd n1⟩ ⟨f.len, fun j hj => f.get j fun z => hj (hw j z)⟩
    rcases b2 b hb with q | q
    · rw [q]; exact .inl ma
    · exact y.fpn b q
  | .bk _, m => m.elim
  | .ct _, m => m.elim
  | .rt _ _, m => m.elim
  | .exc _, m => m.elim
  | .stuck, m => m.elim
section
variable {X : Cx} {cl : Cls} {E : XK} {W W' : List Nat}
theorem ds_forEnO (i : Nat) {x : Str} {p1 p2 tpos cpos pos : Pos} {elts : List Expr} {kk : Nat} {body : List Stmt} {b : Bx} {s : Sx} (po : PassesOwn (model X.prog X.w) X.A X.env X.xe) (hc : X.calm = true) (gl : Gl X "enumerate") (un : X.mg "enumerate" = none)
    (hg : DG X W' (.Tuple elts kk tpos) b) (hb : DSs X cl E W' body s)
    (hN : X.N[i]? = some x := by rfl) (hv : Vis X.env.scope x := by first | exact Or.inl rfl | exact Or.inr (Or.inl rfl) | exact Or.inr (Or.inr rfl)) (hd : (x == ("__debug__" : Str)) = false := by decide) (hcd : (x == ("__classdict__" : Str)) = false := by decide)
    (hw : ∀ j ∈ W', j ∈ W := by decide) (ni : i ∉ W' := by decide)
    (st : starEach [Expr.Name x p1] X.env = [(false, eval (.Name x p1) X.env)] := by rfl)
    (hs : ∀ y, foldedSetIterable (.Call (.Name "enumerate" p2) [.Name x p1] [] cpos) X.env y = pure y := by intro _; rfl) :
    DSt X cl E W (.For (.Tuple elts kk tpos) (.Call (.Name "enumerate" p2) [.Name x p1] [] cpos) body [] pos) (sForEnO i b s) := by
  obtain ⟨g, pg, hg⟩ := hg
  obtain ⟨tb, pb, hb⟩ := hb
  have one := ps_for (pos := pos) po hc (pi_enumLT gl un (pa_cons (pe_var hN hv hd hcd) pa_nil) st) pg pb hs
  refine ⟨_, one, fun F H σ ev fp D d m => ?_⟩
  unfold sForEnO at m
  split at m
  · rename_i xs q
    obtain ⟨a, qa, w, nF, ma⟩ := d.sr.getOwn q
    obtain ⟨fp', s', sl, na⟩ := d.sr.forgetOwn q qa d.nd
    have m' := put_meet (W := W) (W' := W') hw ni qa w nF na ma (fun b hb => sl.subset hb) m
    obtain ⟨vs, hH, rl⟩ := w
    have d' : DS X.K F H σ (ev.set i .un) fp' := ⟨d.sub, s', d.nd.sublist sl⟩
    refine for_at (cl := cl) (E := E) (W := W') (F := F) (ev := ev.set i .un) (fp := fp') (f := fun e => .ok (enumD 0 xs) e) (b := b) (s := s) (fun R mI => ?_) hg hb m'
    refine ⟨_, qa, a, vs, rfl, .inl ⟨SqL.of hH, mI F H fp' _ (Evo.refl _ _ _) d' (enum_rp rl walk_enum fun F2 H2 fp2 ev s => SqL.of (ev.keep a _ hH na))⟩⟩
  · exact m.elim
end
end GW

set_option Elab.async false
set_option linter.all false
set_option maxRecDepth 100000
namespace GW
open PySem PySem.Spec PyProof.Rows L2

/-! ### def f(a, .., *v) and its calls -/
theorem args_len : ∀ (fs : List Ex) ev ds e1, argsS fs ev = .ok ds e1 → ds.length = fs.length := by
  intro fs
  induction fs with
  | nil => intro ev ds e1 h; unfold argsS at h; cases h; rfl
  | cons f fs ih =>
    intro ev ds e1 h
    unfold argsS at h
    cases h1 : f ev with
    | stuck => rw [h1] at h; cases h
    | exc k => rw [h1] at h; cases h
    | ok r e0 =>
    rw [h1] at h
    simp only [Out.bind_ok] at h
    cases h2 : stoR r e0 with
    | stuck => rw [h2] at h; cases h
    | exc k => rw [h2] at h; cases h
    | ok dd e2 =>
    rw [h2] at h
    simp only [Out.bind_ok] at h
    cases h3 : argsS fs e2 with
    | stuck => rw [h3] at h; cases h
    | exc k => rw [h3] at h; cases h
    | ok ds2 e3 =>
    rw [h3] at h
    cases h
    simp [ih _ _ _ h3]
def spS (K : PySem.W.Frag) (cl : Cls) (n : Nat) (f : FS) : Sp := fun vs H Q E => ∃ ws rest, vs = ws ++ rest ∧ ws.length = n ∧ rest.length ≤ sizeLine ∧ ∀ p, H p = none → spD K cl (n + 1) f (ws ++ [V.ref p]) (upd H p (.tup rest)) Q E
/-- a def with a star parameter -/
def GoodS (P : Program) (w : World) (K : PySem.W.Frag) (mg : Str → Option Value) (base : Heap) (cl : Cls) (k : Nat) (x : Str) (n : Nat) (f : FS) : Prop :=
  ∃ fa, FnR P w K mg base (L2N.CX P w) k fa (spS K cl n f) ∧ mg x = some (.ref fa) ∧ PySem.W.keepIn K (.ref fa) = true
theorem cxUpN {P : Program} {w : World} : StX.CXUp (L2N.CX P w) := by
  intro outer s H s2 H2 E e s' un kp ho h
  obtain ⟨a, B, H', cls, d, ea, fl, hok, ub, na, os, ag, he⟩ := h
  have U : UB (frs outer) H H' s.heap B s'.heap := by
    constructor
    · intro b o q n hb
      exact ub.keep b o (kp b o q) (un.free b o q n (by simp)) hb
    · intro b o q hb
      exact ub.slot b o (kp b o q) hb
    · intro b o q n
      exact ub.free b o (kp b o q) (un.free b o q n (by simp))
    · intro b o q hb
      exact ub.there b o (kp b o q) hb
    · exact fun b xs q => ub.tups b xs (un.tups b xs q)
    · exact fun b o xs q => ub.frzs b o xs (un.frzs b o xs q)
    · intro b ps q
      obtain ⟨m1, e1⟩ := un.tbls b ps q
      obtain ⟨m2, e2⟩ := ub.tbls b _ e1
      exact ⟨m1 ++ m2, by rw [e2, Array.append_assoc]⟩
  exact ⟨a, B, H', cls, d, ea, fl, hok, U, na, os.trans ho, ag, he⟩
theorem starDef_ok {P : Program} {w : World} {K : PySem.W.Frag} {mg : Str → Option Value} {base : Heap} {cl : Cls} {x qual pv : Str} {st : Stmt} {fa : Addr} {fd : FuncData} {N ps : List Str} (Wn : List Nat) {k : Nat} {b : Sx} (F : Fun K x qual st fa fd) (S : FnScope N (ps ++ [pv]) (defScope st))
    (hb : ∀ us rest : List Value, us.length = ps.length → bindArgs fd ⟨us ++ rest, []⟩ = (newTuple rest >>= fun t => pure (ps.zip us ++ [(pv, t)])))
    (hbody : ∀ (cdv : Value) (A : Around) (outer : List Env) (s : Shared) (H : Hp) (E : XK), Cxt (cxOf (L2N.CX P w) P w K mg base N qual (defScope st) fa cdv A outer s H E) E k →
      PassesOwn (model P w) (cxOf (L2N.CX P w) P w K mg base N qual (defScope st) fa cdv A outer s H E).A (cxOf (L2N.CX P w) P w K mg base N qual (defScope st) fa cdv A outer s H E).env (cxOf (L2N.CX P w) P w K mg base N qual (defScope st) fa cdv A outer s H E).xe →
      DSs (cxOf (L2N.CX P w) P w K mg base N qual (defScope st) fa cdv A outer s H E) cl E Wn (defBody st) b) :
    FnR P w K mg base (L2N.CX P w) (k + 1) fa (spS K cl ps.length (fnSem N.length false b)) := by
  obtain ⟨oc, od, kV, doc, pm, an, cdv, ct, osl, rfl, lk, hcd⟩ := F.ex
  refine StX.fn_star (sp := spD K cl (ps.length + 1) (fnSem N.length false b)) lk hcd S cxUpN hb fun A outer s H vs Q E hr h => ?_
  obtain ⟨hn, F0, args, fp, d, m⟩ := h
  have tk : L2N.Takes (cxOf (L2N.CX P w) P w K mg base N qual (defScope st) fa cdv A outer s H E) (fun c d _ H => E c d H) := L2N.takes_of rfl rfl rfl rfl
  have po : PassesOwn (model P w) (cxOf (L2N.CX P w) P w K mg base N qual (defScope st) fa cdv A outer s H E).A (cxOf (L2N.CX P w) P w K mg base N qual (defScope st) fa cdv A outer s H E).env (cxOf (L2N.CX P w) P w K mg base N qual (defScope st) fa cdv A outer s H E).xe := passes_of rfl
  obtain ⟨t, p, hb⟩ := hbody cdv A outer s H E ⟨S.nd, rfl, hr, L2N.passes_call tk fun _ _ _ _ h => h, tk⟩ po
  refine ⟨t, p, ?_⟩
  have la : args.length = vs.length := by have := d.sr.len; simpa using this.symm
  have d0 : DS K F0 H (L2.start N vs) (args ++ List.replicate (N.length - args.length) .un) fp := by
    refine ⟨d.sub, ?_, d.nd⟩
    unfold L2.start
    rw [la]
    exact d.sr.more _
  have hσ : ∀ i, i < vs.length → (L2.start N vs)[i]? = (vs.map some)[i]? := fun i hi => by
    unfold L2.start
    rw [List.getElem?_append_left (by simpa using hi)]
  refine hb F0 H _ _ fp _ d0 ?_
  unfold fnSem at m
  cases e : b (args ++ List.replicate (N.length - args.length) .un) with
  | nx ev1 =>
    simp only [e] at m
    exact fun F1 H1 σ1 fp1 x1 d1 f1 => fin_meet (X := cxOf (L2N.CX P w) P w K mg base N qual (defScope st) fa cdv A outer s H E) hσ (io := false) (by simp) (by simp) (tp := []) x1 d1 f1 (.dat .non) d1.nd m
  | bk ev1 => simp only [e] at m; exact False.elim m
  | ct ev1 => simp only [e] at m; exact False.elim m
  | rt r ev1 =>
    simp only [e] at m
    intro F1 H1 σ1 fp1 v tp x1 d1 f1 rv nd
    cases rv with
    | dat r => exact fin_meet (X := cxOf (L2N.CX P w) P w K mg base N qual (defScope st) fa cdv A outer s H E) hσ (io := false) (by simp) (by simp) x1 d1 f1 (.dat r) nd m
    | tmp o f => exact fin_meet (X := cxOf (L2N.CX P w) P w K mg base N qual (defScope st) fa cdv A outer s H E) hσ (io := false) (by simp) (by simp) x1 d1 f1 (.tmp o f) nd m
    | bor _ _ => exact False.elim m
  | exc k => simp only [e] at m; exact m
  | stuck => simp only [e] at m; exact False.elim m
def eCallS (n : Nat) (f : FS) (fs : List Ex) : Ex := fun ev => (argsS fs ev).bind fun ds e1 => if ds.length < n ∨ 1000 < ds.length then .stuck else backF (f ((ds.take n).map Sl.dat ++ [.dat (.tup (ds.drop n))])) e1
section
variable {X : Cx} {cl : Cls} {E : XK} {W : List Nat} {lv : Nat}
theorem pe_callR {CX : CXT} {k : Nat} {f : Addr} {sp : Sp} {E : XK} {x : Str} {p pos : Pos} {e : Expr} {es : List Expr} {t : TA} (F : FnR X.prog X.w X.K X.mg X.base CX k f sp) (hr : Room k X.A) (hg : Gl X x) (hm : X.mg x = some (.ref f)) (hk : PySem.W.keepIn X.K (.ref f) = true) (hx : Passes CX X E)
    (ha : PA X (e :: es) t) (hdb : (x == ("__debug__" : Str)) = false := by decide) (he : starEach (e :: es) X.env = (false, eval e X.env) :: starEach es X.env := by rfl) (hpl : (backTo pos (starEach es X.env)).any (·.1) = false := by rfl) :
    PE X (.Call (.Name x p) (e :: es) [] pos) (fun σ H Q => t σ H fun vs H1 => sp vs H1 Q E) := by
  refine ⟨fun pins s σ H Q I h => ?_⟩
  refine wpAny_Call_Name_kw (ld_glob I hg hm ?_ hdb)
  refine PySem.W.callWith_K (h₀ := X.base) I.ok.mod.kin hk (thn (ha.run pos pins s σ H _ I h) fun us s1 ⟨vs, H1, I1, r, q⟩ => ⟨I1.kIn, ?_⟩) he hpl
  exact wpAny_call (run_fnR F hr hx I1 r q)
theorem de_callS {x : Str} {p pos : Pos} {e : Expr} {es : List Expr} {fs : List Ex} {k n : Nat} {f : FS} (G : GoodS X.prog X.w X.K X.mg X.base cl k x n f) (c : Cxt X E lv) (ha : DAs X cl E (e :: es) fs) (hg : Gl X x) (hk : k ≤ lv := by decide) (hdb : (x == ("__debug__" : Str)) = false := by decide)
    (he : starEach (e :: es) X.env = (false, eval e X.env) :: starEach es X.env := by rfl) (hpl : (backTo pos (starEach es X.env)).any (·.1) = false := by rfl) : DE X cl E (.Call (.Name x p) (e :: es) [] pos) (eCallS n f fs) := by
  obtain ⟨fa, Fn, hm, hkp⟩ := G
  obtain ⟨t, pa, ha⟩ := ha
  refine ⟨_, pe_callR Fn (c.room.mono hk) hg hm hkp c.pass pa hdb he hpl, fun F H σ ev fp Q d m => ha F H σ ev fp _ d ?_⟩
  unfold eCallS at m
  cases e : argsS fs ev with
  | stuck => rw [e] at m; exact m
  | exc k => rw [e] at m; exact m
  | ok ds e1 =>
    rw [e] at m
    simp only [Out.bind_ok] at m
    intro F1 H1 fp1 vs x1 d1 rs
    by_cases c : ds.length < n ∨ 1000 < ds.length
    · rw [if_pos c] at m; exact m.elim
    rw [if_neg c] at m
    have hl := rs.length
    refine ⟨vs.take n, vs.drop n, by rw [List.take_append_drop], by rw [List.length_take]; omega, by rw [List.length_drop, sizeLine_eq]; omega, fun p hp => ⟨by rw [List.length_append, List.length_take, List.length_singleton]; omega, ?_⟩⟩
    have nF : F1 p = none := d1.sub.none hp
    have y := ext_new (u := .tup (vs.drop n)) d1.sub hp
    have rt : RpL X.K (upd F1 p (.tup (vs.drop n))) (vs.take n ++ [V.ref p]) (ds.take n ++ [.tup (ds.drop n)]) :=
      ((rs.take n).mono fun _ _ => y.grow.rd).append (.one (.tup (.inl (.inl upd_same)) ((rs.drop n).mono fun _ _ => y.grow.rd)))
    refine ⟨upd F1 p (.tup (vs.drop n)), (ds.take n ++ [D.tup (ds.drop n)]).map Sl.dat, [], ⟨y.sub, sr_args rt, .nil⟩, ?_⟩
    have d1' := d1.ext y
    have x1' := x1.trans (y.evo fp1)
    rw [show (ds.take n ++ [D.tup (ds.drop n)]).map Sl.dat = (ds.take n).map Sl.dat ++ [Sl.dat (D.tup (ds.drop n))] by simp]
    unfold backF at m
    cases eo : f ((ds.take n).map Sl.dat ++ [.dat (.tup (ds.drop n))]) with
    | stuck => simp only [eo] at m; exact m
    | exc k =>
      simp only [eo] at m
      intro H' q
      exact ExcOk.shift x1' m H' fun b o h _ => q b o h (by simp)
    | ok r io =>
      cases io with
      | some o =>
        simp only [eo] at m
        cases r <;> exact m.elim
      | none =>
        rw [eo] at m
        intro F2 H2 v tp fp2 x2 s2 pv nd
        have d2 := d1'.behind x2 s2
        have xx : Evo (upd F1 p (.tup (vs.drop n))) (upd H1 p (.tup (vs.drop n))) fp1 F2 H2 (tp ++ fp1) := ⟨fun b o h _ => x2.keep b o h (by simp), x2.grow, fun b o h f _ => x2.out b o h f (by simp), fun b hb => by
          rcases List.mem_append.mp hb with z | z
          · rcases x2.fpn b (List.mem_append_left _ z) with q | q
            · cases q
            · exact .inr q
          · exact .inl z⟩
        have nda : (tp ++ fp1).Nodup := List.nodup_append.mpr ⟨(List.nodup_append.mp nd).1, d1'.nd, fun a ha b hb z => by
          subst z
          rcases x2.fpn a (List.mem_append_left _ ha) with q | q
          · cases q
          · obtain ⟨_, u, hu⟩ := d1'.sr.free a hb
            rw [q] at hu; cases hu⟩
        cases pv with
        | dat r => exact m F2 H2 fp1 v [] (x1'.trans xx) d2 (.dat r) nda
        | tmp o f => exact m F2 H2 fp1 _ _ (x1'.trans xx) d2 (.tmp o f) nda
end
end GW

set_option Elab.async false
set_option linter.all false
set_option maxRecDepth 100000
set_option maxHeartbeats 1000000

/-! ### sorted(t) of a tuple of ints -/
namespace GWS
open PySem PySem.Spec PyProof.Rows SrtO
variable {prog : Program} {w : World} {A : Around} {E : Value → Shared → Prop} {s : Shared}
theorem collect_tup {l : Addr} {vs : List Value} {Q : List Value → Shared → Prop} (hl : s.heap.IsTuple l vs.toArray)
    (h : Q vs { s with heap := (s.heap.push (seqObj "list" #[] 0)).update s.heap.objs.size (Obj.mapSeq (· ++ vs.toArray)) }) (hsz : vs.length ≤ sizeLine) :
    wpAny (model prog w) A (collect (.ref l)) Q E s := by
  obtain ⟨o, ho, hc, n, hd⟩ := id hl
  unfold collect
  refine wpAny_bind (wpAny_runValue (codeAny_builtin entry_proto_collect' ?_))
  show wpAny _ _ (do again (.builtin "list.__iadd__" ⟨[← newList [], .ref l], []⟩)) _ _ s
  refine wpAny_bind (wpAny_newList (wpAny_pure ⟨Code.quiet_builtin _ (by decide +kernel), codeAny_builtin entry_list_iadd' ?_⟩))
  show wpAny _ _ (Builtin.List.listExtendWith (.ref s.heap.objs.size) (.ref l) (.ref s.heap.objs.size)) _ _ { s with heap := s.heap.push (seqObj "list" #[] 0) }
  unfold Builtin.List.listExtendWith
  have ho' : (s.heap.push (seqObj "list" #[] 0)).get? l = some o := Heap.get?_push_of_some _ ho
  refine wpAny_bind (wpAny_typeOf (T := "tuple") ⟨o, ho', hc⟩ ?_)
  have ht : (Value.type "tuple" == Value.type "tuple") = true := by rfl
  rw [if_pos (by rw [ht]; simp)]
  refine wpAny_bind (listItems_at ho' hd ?_)
  refine wpAny_bind (listItems_at (xs := #[]) (n := 0) (Heap.get?_push_size _ rfl) rfl ?_)
  rw [if_neg (by simp)]
  refine wpAny_bind (listUpdate_at (xs := #[]) (n := 0) (Heap.get?_push_size _ rfl) rfl ?_ (Nat.zero_le _) (by show (#[] ++ vs.toArray).size ≤ sizeLine + 1; simp only [Array.size_append, List.size_toArray, List.length_nil]; omega))
  refine wpAny_pure ?_
  show wpAny (model prog w) A (do
      let o ← load s.heap.objs.size
      match o.data with
      | .seq xs _ => pure xs.toList
      | _ => unsupported "internal:collect") Q E { s with heap := (s.heap.push (seqObj "list" #[] 0)).update s.heap.objs.size (Obj.mapSeq (· ++ vs.toArray)) }
  refine wpAny_bind (wpAny_load (get?_update_seq (Heap.get?_push_size _ rfl) _) ?_)
  show wpAny _ _ (pure ((#[] : Array Value) ++ vs.toArray).toList) Q E _
  rw [show ((#[] : Array Value) ++ vs.toArray).toList = vs by simp]
  exact wpAny_pure h
theorem sorted_ordT {l : Addr} {vs : List Value} {ltv : Value → Value → Bool} {Q : Value → Shared → Prop} (O : Swo ltv) (hl : s.heap.IsTuple l vs.toArray) (hz : vs.length ≤ sizeLine)
    (hS : 2 ≤ vs.length → ∀ (h₁ : Heap) (a : Addr), h₁.get? a = some (seqObj "list" vs.toArray 0) → (∀ b o, s.heap.get? b = some o → b ≠ a ∧ h₁.get? b = some o) → SortableO prog w A.in1.in1 { s with heap := h₁ } a vs ltv)
    (h : ∀ out : List Value, Srtd ltv out → Stb ltv out vs → Q (.ref (s.heap.objs.size + 1)) { s with heap := sortedAll s.heap vs out.toArray }) :
    wpAny (model prog w) A (call (.builtin "sorted") [.ref l]) Q E s := by
  refine Calls.call_function_entry kind_sorted plain_sorted entry_sorted (args_sorted1 _) ?_
  unfold Builtin.«sorted»
  refine wpAny_bind (m := checkCount "sorted" 1 1 _) (wpAny_pure ?_)
  refine wpAny_bind (collect_tup hl ?_ hz)
  refine wpAny_bind (wpAny_newList ?_ hz)
  have hsz : ((s.heap.push (seqObj "list" #[] 0)).update s.heap.objs.size (Obj.mapSeq (· ++ vs.toArray))).objs.size = s.heap.objs.size + 1 := by
    rw [Heap.size_update, size_push']
  have hoL : (((s.heap.push (seqObj "list" #[] 0)).update s.heap.objs.size (Obj.mapSeq (· ++ vs.toArray))).push (seqObj "list" vs.toArray 0)).get? (s.heap.objs.size + 1) = some (seqObj "list" vs.toArray 0) := by
    rw [← hsz]; exact Heap.get?_push_size _ rfl
  have keep : ∀ b o, s.heap.get? b = some o → b ≠ s.heap.objs.size + 1 ∧ (((s.heap.push (seqObj "list" #[] 0)).update s.heap.objs.size (Obj.mapSeq (· ++ vs.toArray))).push (seqObj "list" vs.toArray 0)).get? b = some o := fun b o q => by
    have hlt : b < s.heap.objs.size := Heap.lt_size q
    refine ⟨Nat.ne_of_lt (Nat.lt_succ_of_lt hlt), Heap.get?_push_of_some _ ?_⟩
    rw [Heap.get?_update_ne _ _ _ _ (Nat.ne_of_lt hlt)]
    exact Heap.get?_push_of_some _ q
  show wpAny _ _ _ _ _ { s with heap := ((s.heap.push (seqObj "list" #[] 0)).update s.heap.objs.size (Obj.mapSeq (· ++ vs.toArray))).push (seqObj "list" vs.toArray 0) }
  rw [hsz]
  refine wpAny_bind (wpAny_holding (wpAny_call_entry slot_list_sort ⟨_, hoL, rfl⟩ entry_list_sort (list_sort_ord O hoL hz (fun h2 => hS h2 _ _ hoL keep) fun out hs hb => ⟨_, rfl, ?_⟩) (args_list_sort _)))
  exact wpAny_pure ⟨_, rfl, h out hs hb⟩
end GWS
namespace GW
open PySem PySem.Spec PyProof.Rows L2
def rSortedTI (K : PySem.W.Frag) : List V → Hp → VK → Prop := fun vs H Q => ∃ (a : Addr) (ns : List Int), vs = [V.ref a] ∧ SqT K H a (ns.map V.int) ∧
  ∀ (ns' : List Int) (p : Addr), ns'.Perm ns → ns'.Pairwise (· ≤ ·) → H p = none → Q (.ref p) (upd H p (.lst (ns'.map V.int)))
theorem cr_sortedTI {X : Cx} : CallR X (.builtin "sorted") (rSortedTI X.K) := by
  intro pins s σ H vs us Q I r h
  obtain ⟨a, ns, rfl, hs, q⟩ := h
  obtain ⟨its, rv, hl, hz⟩ := I.tuple hs
  rw [Vals.ref1 r]
  have hi := rv.ints
  refine GWS.sorted_ordT SrtO.swo_int hl (by rw [← rv.length]; exact hz) (fun h2 h₁ a' _ _ => SrtO.ints_sortable hi h2) fun out h1 h2 => ?_
  obtain ⟨k1, k2, k3⟩ := SrtO.ints_out hi h1 h2
  obtain ⟨ep, he'⟩ := PyProof.Rows.sortedAll_at s.heap its out.toArray
  have hlen : ((out.map SrtO.iv).map V.int).length ≤ sizeLine := by
    rw [List.length_map, k2.length_eq]
    rw [List.length_map] at hz
    exact hz
  exact ⟨.ref _, upd H (s.heap.objs.size + 1) (.lst ((out.map SrtO.iv).map V.int)), I.laid (t' := s.toks) (fun _ _ => PyProof.Rows.sortedAll_old) (Nat.le_succ _) ⟨hlen, out, ep, vals_of_ints k1, he'⟩, rfl, q _ _ k2 k3 (I.hok.fresh (Nat.le_succ _))⟩
/-- the ints in their order -/
def insI (x : Int) : List Int → List Int
  | [] => [x]
  | y :: r => if x ≤ y then x :: y :: r else y :: insI x r
def sortI : List Int → List Int
  | [] => []
  | x :: r => insI x (sortI r)
theorem insI_perm (x : Int) : ∀ l : List Int, (insI x l).Perm (x :: l)
  | [] => .refl _
  | y :: r => by
    unfold insI
    split
    · exact .refl _
    · exact ((insI_perm x r).cons y).trans (.swap x y r)
theorem sortI_perm : ∀ l : List Int, (sortI l).Perm l
  | [] => .nil
  | x :: r => (insI_perm x _).trans ((sortI_perm r).cons x)
theorem insI_up (x : Int) : ∀ {l : List Int}, l.Pairwise (· ≤ ·) → (insI x l).Pairwise (· ≤ ·)
  | [], _ => by simp [insI]
  | y :: r, h => by
    have h' := List.pairwise_cons.mp h
    unfold insI
    split
    · rename_i c
      refine List.pairwise_cons.mpr ⟨fun z hz => ?_, h⟩
      rcases List.mem_cons.mp hz with e | e
      · rw [e]; exact c
      · exact Int.le_trans c (h'.1 z e)
    · rename_i c
      refine List.pairwise_cons.mpr ⟨fun z hz => ?_, insI_up x h'.2⟩
      rcases List.mem_cons.mp ((insI_perm x r).mem_iff.mp hz) with e | e
      · rw [e]; omega
      · exact h'.1 z e
theorem sortI_up : ∀ l : List Int, (sortI l).Pairwise (· ≤ ·)
  | [] => .nil
  | x :: r => insI_up x (sortI_up r)
theorem up_uniq : ∀ {l m : List Int}, l.Perm m → l.Pairwise (· ≤ ·) → m.Pairwise (· ≤ ·) → l = m
  | [], m, p, _, _ => (List.nil_perm.mp p).symm
  | x :: l, [], p, _, _ => by cases List.perm_nil.mp p
  | x :: l, y :: m, p, h, g => by
    have h' := List.pairwise_cons.mp h
    have g' := List.pairwise_cons.mp g
    have e : x = y := by
      have a : x ∈ y :: m := p.mem_iff.mp List.mem_cons_self
      have b : y ∈ x :: l := p.mem_iff.mpr List.mem_cons_self
      rcases List.mem_cons.mp a with a | a
      · exact a
      · rcases List.mem_cons.mp b with b | b
        · exact b.symm
        · exact Int.le_antisymm (h'.1 y b) (g'.1 x a)
    subst e
    rw [up_uniq (List.Perm.cons_inv p) h'.2 g'.2]
def gSorted : List D → Option R
  | [.tup ds] => (intsOf ds).map fun ns => .tmp (.lst ((sortI ns).map D.int))
  | [.lst ds] => (intsOf ds).map fun ns => .tmp (.lst ((sortI ns).map D.int))
  | _ => none
theorem cr_sortedLT {X : Cx} : CallR X (.builtin "sorted") (fun vs H Q => rSortedTI X.K vs H Q ∨ rSortedI X.K vs H Q) := by
  intro pins s σ H vs us Q I r h
  rcases h with h | h
  · exact cr_sortedTI pins s σ H vs us Q I r h
  · exact cr_sortedI pins s σ H vs us Q I r h
theorem sorted_D {X : Cx} : OpN X (fun vs H Q => rSortedTI X.K vs H Q ∨ rSortedI X.K vs H Q) gSorted := by
  intro F H xs dxs Q out s rx e g
  unfold gSorted at e
  split at e
  · rename_i ds
    cases q : intsOf ds with
    | none => rw [q] at e; cases e
    | some ns =>
      rw [q] at e; cases e
      have hd := intsOf_eq q
      subst hd
      obtain ⟨v, rfl, r⟩ := rx.one
      obtain ⟨a, vs, rfl, h1, r1, _⟩ := r.tup s
      have hv := r1.ints
      subst hv
      refine .inl ⟨a, ns, rfl, h1, fun ns' p hp hu hn => ?_⟩
      rw [up_uniq (hp.trans (sortI_perm ns).symm) hu (sortI_up ns)]
      exact give_lst g s (RpL.of_ints _) p hn
  · rename_i ds
    cases q : intsOf ds with
    | none => rw [q] at e; cases e
    | some ns =>
      rw [q] at e; cases e
      have hd := intsOf_eq q
      subst hd
      obtain ⟨v, rfl, r⟩ := rx.one
      obtain ⟨a, vs, rfl, h1, r1⟩ := r.lst s
      have hv := r1.ints
      subst hv
      refine .inr ⟨a, ns, rfl, h1, fun ns' p hp hu hn => ?_⟩
      rw [up_uniq (hp.trans (sortI_perm ns).symm) hu (sortI_up ns)]
      exact give_lst g s (RpL.of_ints _) p hn
  · cases e
end GW

set_option Elab.async false
set_option linter.all false
set_option maxRecDepth 100000
set_option maxHeartbeats 1000000
namespace GW
open PySem PySem.Spec PyProof.Rows L2

/-! ### sorted(set(t)) of a tuple of ints -/
def insS (x : Int) : List Int → List Int
  | [] => [x]
  | y :: r => if x < y then x :: y :: r else if x = y then y :: r else y :: insS x r
def setI : List Int → List Int
  | [] => []
  | x :: r => insS x (setI r)
theorem insS_mem (x k : Int) : ∀ l : List Int, k ∈ insS x l ↔ k = x ∨ k ∈ l
  | [] => by simp [insS]
  | y :: r => by
    unfold insS
    split
    · simp
    · split
      · rename_i h
        subst h
        simp
      · rw [List.mem_cons, insS_mem x k r, List.mem_cons]
        constructor
        · rintro (h | h | h)
          · exact .inr (.inl h)
          · exact .inl h
          · exact .inr (.inr h)
        · rintro (h | h | h)
          · exact .inr (.inl h)
          · exact .inl h
          · exact .inr (.inr h)
theorem setI_mem (k : Int) : ∀ l : List Int, k ∈ setI l ↔ k ∈ l
  | [] => by simp [setI]
  | x :: r => by rw [setI, insS_mem, setI_mem k r, List.mem_cons]
theorem insS_up (x : Int) : ∀ {l : List Int}, l.Pairwise (· < ·) → (insS x l).Pairwise (· < ·)
  | [], _ => by simp [insS]
  | y :: r, h => by
    have h' := List.pairwise_cons.mp h
    unfold insS
    split
    · rename_i c
      refine List.pairwise_cons.mpr ⟨fun z hz => ?_, h⟩
      rcases List.mem_cons.mp hz with e | e
      · rw [e]; exact c
      · exact Int.lt_trans c (h'.1 z e)
    · split
      · exact h
      · refine List.pairwise_cons.mpr ⟨fun z hz => ?_, insS_up x h'.2⟩
        rcases (insS_mem x z r).mp hz with e | e
        · rw [e]; omega
        · exact h'.1 z e
theorem setI_up : ∀ l : List Int, (setI l).Pairwise (· < ·)
  | [] => .nil
  | x :: r => insS_up x (setI_up r)
theorem asc_uniq : ∀ {l m : List Int}, l.Pairwise (· < ·) → m.Pairwise (· < ·) → (∀ k, k ∈ l ↔ k ∈ m) → l = m
  | [], [], _, _, _ => rfl
  | [], y :: m, _, _, h => absurd ((h y).mpr List.mem_cons_self) (by simp)
  | x :: l, [], _, _, h => absurd ((h x).mp List.mem_cons_self) (by simp)
  | x :: l, y :: m, hl, hm, h => by
    have l' := List.pairwise_cons.mp hl
    have m' := List.pairwise_cons.mp hm
    have e : x = y := by
      rcases List.mem_cons.mp ((h x).mp List.mem_cons_self) with a | a
      · exact a
      · rcases List.mem_cons.mp ((h y).mpr List.mem_cons_self) with b | b
        · exact b.symm
        · have := m'.1 x a
          have := l'.1 y b
          omega
    subst e
    rw [asc_uniq l'.2 m'.2 fun k => ?_]
    constructor
    · intro hk
      rcases List.mem_cons.mp ((h k).mp (List.mem_cons_of_mem _ hk)) with a | a
      · have := l'.1 k hk
        omega
      · exact a
    · intro hk
      rcases List.mem_cons.mp ((h k).mpr (List.mem_cons_of_mem _ hk)) with a | a
      · have := m'.1 k hk
        omega
      · exact a
def rSetTI (K : PySem.W.Frag) (w : World) : List V → Hp → VK → Prop := fun vs H Q => ∃ (a : Addr) (ns : List Int), vs = [V.ref a] ∧ SqT K H a (ns.map V.int) ∧ ns.length ≤ 60 ∧
  ∀ (p : Addr) (c : Nat), c ≤ ns.length → H p = none → Q (.ref p) (upd H p (SetO w p (fun j => decide (j ∈ ns)) c))
theorem cr_setTI {X : Cx} (hc : X.calm = true) : CallR X (.type "set") (rSetTI X.K X.w) := by
  intro pins s σ H vs us Q I r h
  obtain ⟨a, ns, rfl, hs, hl, q⟩ := h
  obtain ⟨its, rv, pt, hz⟩ := I.tuple hs
  rw [Vals.ref1 r]
  have hi : IntsAre its.toArray.toList ns := ints_of_vals rv
  refine call_set_tupI ns (I.ok.hd hc) (show s.heap.IsTuple a its.toArray from pt) hi (by unfold scanBound; omega) fun h' tk c R1 hcn k => ?_
  exact ⟨.ref s.heap.objs.size, upd H s.heap.objs.size (SetO X.w s.heap.objs.size (fun j => decide (j ∈ ns)) c), I.laid (t' := tk) k (Nat.le_refl _) (setO_new R1), rfl, q _ c hcn (I.hok.fresh (Nat.le_refl _))⟩
def eSortSet (f : Ex) : Ex := fun ev => (f ev).bind fun r e1 => match r with
  | .dat (.tup ds) => (match intsOf ds with
    | some ns => if ns.length ≤ 60 then .ok (.tmp (.lst ((setI ns).map D.int))) e1 else .stuck
    | none => .stuck)
  | _ => .stuck
theorem de_sortSet {X : Cx} {cl : Cls} {E : XK} {lv : Nat} {a : Expr} {f : Ex} {p p2 pos pos2 : Pos} (c : Cxt X E lv) (h : DE X cl E a f) (hg : Gl X "sorted") (hm : X.mg "sorted" = none) (hg2 : Gl X "set") (hm2 : X.mg "set" = none)
    (hv : bootBuiltins "sorted" = some (.builtin "sorted") := by decide +kernel) (hv2 : bootBuiltins "set" = some (.type "set") := by decide +kernel)
    (na : starEach [a] X.env = (false, eval a X.env) :: starEach [] X.env := by rfl)
    (na2 : starEach [.Call (.Name "set" p2) [a] [] pos2] X.env = (false, eval (.Call (.Name "set" p2) [a] [] pos2) X.env) :: starEach [] X.env := by rfl) : DE X cl E (.Call (.Name "sorted" p) [.Call (.Name "set" p2) [a] [] pos2] [] pos) (eSortSet f) := by
  obtain ⟨t, pe, h⟩ := h
  refine ⟨_, pe_callB (cr_sortedSet c.calm) hg hm hv (pa_cons (pe_callTy (cr_setTI c.calm) hg2 hm2 hv2 (pa_cons pe pa_nil na) (by decide) (by decide) na rfl) pa_nil na2) (by decide) (by decide) na2 rfl, fun F H σ ev fp Q d m => h F H σ ev fp _ d ?_⟩
  unfold eSortSet at m
  cases e : f ev with
  | stuck => rw [e] at m; exact m
  | exc k => rw [e] at m; exact m
  | ok r e1 =>
    rw [e] at m
    simp only [Out.bind_ok] at m
    intro F1 H1 fp1 v tp x1 d1 rv nd
    split at m
    · rename_i ds
      split at m
      · rename_i ns hq
        split at m
        · rename_i hn
          have hd := intsOf_eq hq
          subst hd
          cases rv with
          | dat r =>
          cases r with
          | tup hs rl =>
          rename_i b vs
          have hvs := rl.ints
          subst hvs
          refine ⟨b, ns, rfl, Sub.seqT d1.sub hs, hn, fun p1 c1 hc1 hp1 => ?_⟩
          refine ⟨p1, _, c1, rfl, upd_same, by omega, fun ns' q1 up mem _ hq1 => ?_⟩
          have en : ns' = setI ns := asc_uniq up (setI_up ns) fun k => by rw [mem k, setI_mem, decide_eq_true_eq]
          subst en
          have x2 := ext_own (u := SetO X.w p1 (fun j => decide (j ∈ ns)) c1) d1.sub hp1
          have d2 := d1.ext x2
          have x3 := x1.trans (x2.evo fp1)
          exact give_lst (GiveOk.meet x3 d2 (fun i z => nomatch z) m) d2.sub (RpL.of_ints _) q1 hq1
        · exact m.elim
      · exact m.elim
    · exact m.elim
end GW

set_option Elab.async false
set_option linter.all false
set_option maxRecDepth 100000
set_option maxHeartbeats 1000000
namespace GW
open PySem PySem.Spec PyProof.Rows L2

/-! ### {(i, j): v}: one pair, its key a tuple -/
def tDispT (tk tv : TE) : TE := fun σ H Q => ∀ p, H p = none → tPairs [(tk, tv)] σ (upd H p (.dT [])) fun ps H2 => ∃ y b ks, ps = [(V.ref b, y)] ∧ H2 b = some (.tup (ks.map kV)) ∧ H2 p = some (.dT []) ∧ Q (.ref p) (upd H2 p (.dT [(ks, y)]))
theorem pe_dispT {X : Cx} {k v : Expr} {tk tv : TE} {pos : Pos} (hu : X.A.units + 1 < cLine) (hk : PE X k tk) (hv : PE X v tv) : PE X (.Dict [some k] [v] pos) (tDispT tk tv) := by
  refine ⟨fun pins s σ H Q I q => ?_⟩
  have hn := I.hok.fresh (Nat.le_refl s.heap.objs.size)
  have I1 := I.laid (a := s.heap.objs.size) (o := .dT []) (h' := s.heap.push { cls := .type "dict", data := .dict #[] }) (t' := s.toks) (fun _ _ q => Heap.get?_push_of_some _ q) (Nat.le_refl _) (dt_empty s.heap I.big)
  rw [arm_eval_Dict, zip_pairTrees [some k] [v] X.env pos rfl rfl, dictDisplay_pairs (pairTrees [some k] [v] X.env pos) (by simp [pairTrees]) (by simp [pairTrees])]
  refine wpAny_bind (wpAny_standAt (wpAny_bind ?_))
  unfold subDict
  refine wpAny_bind (wpAny_alloc ?_)
  refine wpAny_bind (wpAny_holding ?_)
  rw [if_pos (by simp [pairTrees])]
  refine wpAny_bind (wpAny_mono ((pps_cons hk hv pps_nil).run pins _ σ _ _ I1 (q _ hn)) (fun vs s1 h1 => ?_) fun _ _ e => e)
  obtain ⟨ps, H2, I2, rel, y, b, ks, rfl, eb, ep, q2⟩ := h1
  cases rel with
  | @cons a b' as bs h t =>
  cases t
  obtain ⟨u, w2⟩ := b'
  obtain ⟨hu1, hw⟩ := h
  cases (show u = Value.ref b from hu1)
  obtain ⟨z, hd, xs, rl, dd⟩ := dt_of I2.hok ep
  cases rl
  refine wpAny_holding ?_
  rw [List.forIn_cons]
  refine wpAny_bind (wpAny_bind (wpAny_bind (wpAny_dictSet_heap (hsz := Nat.zero_le _) (show (tupleKind (mixKind X.prog X.w)).room X.A from ?_) (key_of I2.hok eb) dd fun h' dd' hs => wpAny_pure ?_)))
  · show X.A.units < cLine
    omega
  · dsimp only
    rw [List.forIn_nil]
    refine wpAny_pure (wpAny_pure (wpAny_pure (wpAny_pure ⟨.ref s.heap.objs.size, upd H2 s.heap.objs.size (.dT [(ks, y)]), ?_, rfl, q2⟩)))
    obtain ⟨q0, es, ep0, hq, h2, h3, h4, g, h5⟩ := dd'
    refine d_write I2 (by rw [ep]; exact True.intro) hs ⟨q0, hq⟩ ⟨by rw [sizeLine_eq, List.length_singleton]; decide, hd, [(ks, b, w2)], .cons ⟨rfl, ?_, hw⟩ .nil, q0, es, ep0, hq, h2, h3, h4, h5⟩
    rw [upd_ne (ne_of eb ep (fun z => nomatch z))]
    exact eb
/-- the own dict {(i, j): f} -/
def eDictT (i j : Int) (f : Ex) : Ex := fun ev => (f ev).bind fun r e1 => match r with
  | .dat d => .ok (.tmp (.dT [([.inl i, .inl j], d)])) e1
  | _ => .stuck
theorem de_dictT {X : Cx} {cl : Cls} {E : XK} {k1 k2 ve : Expr} {i j : Int} {f : Ex} {x1} {p1 pos : Pos} (hu : X.A.units + 1 < cLine) (h1 : PE X k1 (tC (.int i))) (h2 : PE X k2 (tC (.int j))) (hv : DE X cl E ve f)
    (na : starEach [k1, k2] X.env = (false, eval k1 X.env) :: starEach [k2] X.env := by rfl) (na2 : starEach [k2] X.env = (false, eval k2 X.env) :: starEach [] X.env := by rfl) : DE X cl E (.Dict [some (.Tuple [k1, k2] x1 p1)] [ve] pos) (eDictT i j f) := by
  obtain ⟨tv, pv, hv⟩ := hv
  refine ⟨_, pe_dispT hu (pe_tup (pa_cons h1 (pa_cons h2 pa_nil na2) na)) pv, fun F H σ ev fp Q d m => fun p hp => ?_⟩
  have x0 := ext_own (u := .dT []) d.sub hp
  have d0 := d.ext x0
  have Fp : F p = none := d.sub.none hp
  have pf : p ∉ fp := fun z => by
    obtain ⟨_, u, hu⟩ := d.sr.free p z
    rw [hp] at hu; cases hu
  show tTup _ σ (upd H p (.dT [])) _
  refine ⟨by rw [sizeLine_eq, List.length_cons, List.length_singleton]; decide, fun b hb => ?_⟩
  have x1' := ext_new (u := .tup [V.int i, V.int j]) d0.sub hb
  have d1 := d0.ext x1'
  have nb : b ≠ p := fun z => by rw [z, upd_same] at hb; cases hb
  refine hv _ _ σ ev fp _ d1 ?_
  unfold eDictT at m
  cases e : f ev with
  | stuck => rw [e] at m; exact m
  | exc k => rw [e] at m; exact ExcOk.shift ((x0.evo fp).trans (x1'.evo fp)) m
  | ok r e1 =>
  rw [e] at m
  simp only [Out.bind_ok] at m
  intro F1 H1 fp1 v tp y1 d2 rv nd
  split at m
  · rename_i dd
    cases rv with
    | dat rd =>
    rw [List.nil_append] at y1
    have pb : (upd (upd H p (.dT [])) b (.tup [V.int i, V.int j])) p = some (.dT []) := by rw [upd_ne (Ne.symm nb), upd_same]
    have p1 : H1 p = some (.dT []) := y1.keep p _ pb pf
    have bf : b ∉ fp := fun z => by
      obtain ⟨_, u, hu⟩ := d0.sr.free b z
      rw [hb] at hu; cases hu
    have b1 : H1 b = some (.tup [V.int i, V.int j]) := y1.keep b _ upd_same bf
    refine ⟨v, b, [.inl i, .inl j], rfl, b1, p1, ?_⟩
    have Fp1 : (upd F b (.tup [V.int i, V.int j])) p = none := by rw [upd_ne (Ne.symm nb)]; exact Fp
    have F3p : F1 p = none := y1.out p _ pb Fp1 pf
    have pf3 : p ∉ fp1 := fun z => by
      rcases y1.fpn p z with q | q
      · exact pf q
      · rw [pb] at q; cases q
    have y3 := ((x0.evo fp).trans (x1'.evo fp)).trans y1
    have ne : ∀ b, b ∈ fp1 → b ≠ p := fun b hb z => pf3 (by rw [← z]; exact hb)
    refine m F1 _ fp1 _ [p] ⟨fun b o h n => ?_, y3.grow, y3.out, fun b hb => ?_⟩ ⟨fun a u h => ?_, d2.sr.mono (Grow.refl _) (fun b hb u h => by rw [upd_ne (ne b hb)]; exact h) (fun b hb => (d2.sr.free b hb).1), d2.nd⟩ (.tmp ⟨[([.inl i, .inl j], v)], upd_same, .cons rd .nil⟩ F3p) (List.nodup_cons.mpr ⟨pf3, d2.nd⟩)
    · rw [upd_ne (ne_of_none h hp)]
      exact y3.keep b o h n
    · rcases List.mem_cons.mp hb with z | z
      · rw [z]; exact .inr hp
      · exact y3.fpn b z
    · have na : a ≠ p := fun z => by
        subst z
        rcases h with h | ⟨o, h⟩ <;> rw [F3p] at h <;> cases h
      rcases d2.sub a u h with q | ⟨o, q⟩
      · exact .inl (by rw [upd_ne na]; exact q)
      · exact .inr ⟨o, by rw [upd_ne na]; exact q⟩
  · exact m.elim
end GW

set_option Elab.async false
set_option linter.all false
set_option maxRecDepth 100000
set_option maxHeartbeats 1000000
namespace GW
open PySem PySem.Spec PyProof.Rows L2

/-! ### key = (e, f); if key not in NAME: NAME[key] = True; .. -/
def hasT2 (ds : List (List Key × D)) (k : List Key) : Bool := ds.any fun kv => decide (kv.1 = k)
theorem RpT.has {K : PySem.W.Frag} {F : Hp} (k : List Key) : ∀ {vs : List (List Key × V)} {ds : List (List Key × D)}, RpT K F vs ds → (valV vs k).isSome = hasT2 ds k
  | _, _, .nil => rfl
  | _, _, @RpT.cons _ _ q v vs d ds r t => by
    unfold hasT2
    rw [List.any_cons]
    by_cases e : q = k
    · rw [valV_pos e]
      simp [e]
    · rw [valV_neg e, RpT.has k t]
      simp [e, hasT2]
theorem RpT.snoc {K : PySem.W.Frag} {F : Hp} {k : List Key} {v : V} {d : D} (rd : Rp K F v d) : ∀ {vs : List (List Key × V)} {ds : List (List Key × D)}, RpT K F vs ds → RpT K F (vs ++ [(k, v)]) (ds ++ [(k, d)])
  | _, _, .nil => .cons rd .nil
  | _, _, .cons r t => .cons r (RpT.snoc rd t)
theorem RpT.len {K : PySem.W.Frag} {F : Hp} : ∀ {vs : List (List Key × V)} {ds : List (List Key × D)}, RpT K F vs ds → vs.length = ds.length
  | _, _, .nil => rfl
  | _, _, .cons r t => by simp [RpT.len t]
/-- slot i is the key's, slot j the own dict's -/
def sKeyPut (i j : Nat) (fs : List Ex) (s : Sx) : Sx := fun ev => match argsS fs ev with
  | .ok [.int a, .int b] e1 => (match e1[j]? with
    | some (.own (.dT kvs)) => if i < e1.length ∧ kvs.length < 100000 then
        (if hasT2 kvs [.inl a, .inl b] = true then .nx (e1.set i (.dat (.tup [.int a, .int b]))) else s ((e1.set i (.dat (.tup [.int a, .int b]))).set j (.own (.dT (kvs ++ [([.inl a, .inl b], .bl true)])))))
        else .stuck
    | _ => .stuck)
  | .exc k => .exc k
  | _ => .stuck
section
variable {X : Cx} {cl : Cls} {E : XK} {W : List Nat}
theorem dss_keyPut {i j : Nat} {y x : Str} {es : List Expr} {fs : List Ex} {rest : List Stmt} {s : Sx} {x1 j0 : Nat} {py p1 py2 px px2 py3 p2 p3 p4 p5 p6 p7 : Pos} (hu : X.A.units + 1 < cLine) (nd : X.N.Nodup) (he : DAs X cl E es fs) (hr : DSs X cl E W rest s)
    (hi : X.N[i]? = some y := by rfl) (hix : Loc X.env.scope y := by first | exact Or.inl rfl | exact Or.inr rfl) (hif : X.fn y = true ∨ X.env.scope.names.lookup y = some .local := by first | exact .inl rfl | exact .inr rfl | assumption)
    (hw : i ∈ W := by decide) (ij : i ≠ j := by decide)
    (hy : Vis X.env.scope y := by first | exact Or.inl rfl | exact Or.inr (Or.inl rfl) | exact Or.inr (Or.inr rfl)) (hyd : (y == ("__debug__" : Str)) = false := by decide) (hyc : (y == ("__classdict__" : Str)) = false := by decide)
    (hj : X.N[j]? = some x := by rfl) (hx : Vis X.env.scope x := by first | exact Or.inl rfl | exact Or.inr (Or.inl rfl) | exact Or.inr (Or.inr rfl)) (hxd : (x == ("__debug__" : Str)) = false := by decide) (hxc : (x == ("__classdict__" : Str)) = false := by decide)
    (hs : swapsWith (.Tuple es x1 p1) (some (.Name y py)) p2.line X.env = pure false := by rfl)
    (hs2 : swapsWith (.Constant (.bool true) j0 p5) (some (.Subscript (.Name x px2) (.Name y py3) p6)) p4.line X.env = pure false := by rfl) (hm : behindInMarks .NotIn (.Name x px) = false := by rfl) :
    DSs X cl E W [.Assign [.Name y py] (.Tuple es x1 p1) p2, .If (.Compare (.Name y py2) [.NotIn] [.Name x px] p3) (.Assign [.Subscript (.Name x px2) (.Name y py3) p6] (.Constant (.bool true) j0 p5) p4 :: rest) [] p7] (sKeyPut i j fs s) := by
  obtain ⟨ta, pa, he⟩ := he
  obtain ⟨tr, pr, hr⟩ := hr
  refine ⟨_, pss_cons (ps_set nd hi hix (pe_tup pa) hs hif) (pss_one (ps_if (pt_cmpR (op_dnotin hu) (pe_var hi hy hyd hyc) (pe_var hj hx hxd hxc) hm) (pss_cons (ps_dput hu (pe_var hj hx hxd hxc) (pe_var hi hy hyd hyc) pe_bl hs2) pr) pss_nil)), fun F H σ ev fp D d m => ?_⟩
  refine he F H σ ev fp _ d ?_
  unfold sKeyPut at m
  cases e : argsS fs ev with
  | stuck => rw [e] at m; exact m
  | exc k => rw [e] at m; exact m
  | ok ds e1 =>
  rw [e] at m
  intro F1 H1 fp1 vs x1 d1 rs
  split at m
  · rename_i a b e1' eq
    cases eq
    split at m
    · rename_i kvs q
      split at m
      · rename_i hlen
        cases rs with
        | cons r1 t =>
        cases t with
        | cons r2 t =>
        cases t
        cases r1
        cases r2
        refine ⟨by rw [sizeLine_eq, List.length_cons, List.length_singleton]; decide, fun p hp => ?_⟩
        have y := ext_new (u := .tup [V.int a, V.int b]) d1.sub hp
        have d2 := d1.ext y
        have rp : Rp X.K (upd F1 p (.tup [V.int a, V.int b])) (.ref p) (.tup [.int a, .int b]) := .tup (.inl (.inl upd_same)) (.cons (.int a) (.one (.int b)))
        obtain ⟨fp2, s2, sl⟩ := d2.sr.setDat i rp
        have d3 : DS X.K (upd F1 p (.tup [V.int a, V.int b])) (upd H1 p (.tup [V.int a, V.int b])) (σ.set i (some (.ref p))) (e1.set i (.dat (.tup [.int a, .int b]))) fp2 := ⟨d2.sub, s2, d2.nd.sublist sl⟩
        have x3 : Evo F H fp _ _ fp2 := (x1.trans (y.evo fp1)).fewer fun b hb => sl.subset hb
        have q' : (e1.set i (.dat (.tup [.int a, .int b])))[j]? = some (.own (.dT kvs)) := by rw [List.getElem?_set_ne ij]; exact q
        obtain ⟨aa, qa, ⟨vs2, hH, rt⟩, na, ma⟩ := d3.sr.getOwn q'
        have il : i < σ.length := by
          have h1 := d1.sr.len
          omega
        have qi : (σ.set i (some (V.ref p)))[i]? = some (some (.ref p)) := List.getElem?_set_self il
        have hb : (upd H1 p (.tup [V.int a, V.int b])) p = some (.tup ([Sum.inl a, Sum.inl b].map kV)) := upd_same
        refine ⟨.ref p, qi, .ref aa, qa, aa, valV vs2 [.inl a, .inl b], rfl, .inr ⟨vs2, [.inl a, .inl b], p, .inl hH, rfl, hb, rfl⟩, _, rfl, ?_⟩
        rw [rt.has]
        cases hh : hasT2 kvs [.inl a, .inl b] with
        | true =>
          rw [hh] at m
          simp only [if_true] at m
          rw [if_neg (by simp)]
          exact m _ _ _ fp2 x3 d3 (Frm.set hw _)
        | false =>
          rw [hh] at m
          simp only [Bool.false_eq_true, if_false] at m
          rw [if_pos (by rfl)]
          have hv : valV vs2 [.inl a, .inl b] = none := by
            have := rt.has [.inl a, .inl b]
            rw [hh] at this
            cases z : valV vs2 [.inl a, .inl b] with
            | none => rfl
            | some _ => rw [z] at this; cases this
          have hl : vs2.length < sizeLine := by rw [rt.len, sizeLine_eq]; omega
          refine ⟨.ref aa, qa, .ref p, qi, aa, _, rfl, .inr ⟨vs2, [.inl a, .inl b], p, hH, rfl, hb, hl, rfl⟩, ?_⟩
          rw [putK_new _ hv]
          obtain ⟨d4, x4⟩ := d3.write (u := .dT (vs2 ++ [([.inl a, .inl b], V.bl true)])) (o' := .dT (kvs ++ [([.inl a, .inl b], .bl true)])) qa q' ⟨_, upd_same, rt.snoc (.bl true)⟩
          exact hr _ _ _ _ fp2 D d4 (MeetS.shift (x3.trans x4) (Frm.set hw _) m)
      · exact m.elim
    · exact m.elim
  · rename_i k eq
    cases eq
  · exact m.elim
end
end GW

set_option Elab.async false
set_option linter.all false
set_option maxRecDepth 100000
namespace GW
open PySem PySem.Spec PyProof.Rows L2

/-! ### in, not in: an item of any kind and a list -/
def dInX : D → D → Option R
  | x, .lst ys => match x with
    | .int i => dIn (.int i) (.lst ys)
    | x => if okD 16 x = true ∧ okD 16 (.lst ys) = true ∧ SeqAt.shaped (toPy x) = true ∧ SeqAt.shaped (toPy (.lst ys)) = true then some (.dat (.bl (ys.any fun z => eqD z x))) else none
  | x, y => dIn x y
def dNotInX : D → D → Option R
  | x, .lst ys => match x with
    | .int i => dNotIn (.int i) (.lst ys)
    | x => if okD 16 x = true ∧ okD 16 (.lst ys) = true ∧ SeqAt.shaped (toPy x) = true ∧ SeqAt.shaped (toPy (.lst ys)) = true then some (.dat (.bl (!ys.any fun z => eqD z x))) else none
  | x, y => dNotIn x y
theorem any_py {x : D} (hx : okD 16 x = true) : ∀ ys : List D, (∀ y ∈ ys, okD 15 y = true) → ((toPys ys).any fun z => PyData.eqv z (toPy x)) = ys.any fun z => eqD z x
  | [], _ => rfl
  | y :: ys, h => by
    have := any_py hx ys fun z hz => h z (List.mem_cons_of_mem _ hz)
    simp only [toPys, List.any_cons, this]
    rw [eqD_py 15 16 y x (h y List.mem_cons_self) hx]
def rInX (X : Cx) : R2 := fun x y H Q => rIn X.K false x y H Q ∨ rInD X.K x y H Q
def rNotInX (X : Cx) : R2 := fun x y H Q => rIn X.K true x y H Q ∨ rNotInD X.K x y H Q
theorem op_inX {X : Cx} (hu : X.A.units + 65 < cLine) : OpR X (compareOp .In) (rInX X) := op_in_seq.or (op_inD hu)
theorem op_notInX {X : Cx} (hu : X.A.units + 65 < cLine) : OpR X (compareOp .NotIn) (rNotInX X) := op_notIn_seq.or (op_notInD hu)
theorem inX_D {X : Cx} : Op2 X (rInX X) dInX := by
  intro F H x y dx dy Q out s rx ry e g
  unfold dInX at e
  split at e
  · rename_i ys
    split at e
    · exact .inl (in_D F H _ _ _ _ Q out s rx ry e g)
    · split at e
      · rename_i h
        injection e with e; subst e
        refine .inr ⟨_, _, rx.dp s h.1, ry.dp s h.2.1, h.2.2.1, h.2.2.2, ?_⟩
        rw [any_py h.1 ys (by simpa [okD] using h.2.1)]
        exact give_val g s (.bl _)
      · cases e
  · exact .inl (in_D F H _ _ _ _ Q out s rx ry e g)
theorem notInX_D {X : Cx} : Op2 X (rNotInX X) dNotInX := by
  intro F H x y dx dy Q out s rx ry e g
  unfold dNotInX at e
  split at e
  · rename_i ys
    split at e
    · exact .inl (notIn_D F H _ _ _ _ Q out s rx ry e g)
    · split at e
      · rename_i h
        injection e with e; subst e
        refine .inr ⟨_, _, rx.dp s h.1, ry.dp s h.2.1, h.2.2.1, h.2.2.2, ?_⟩
        rw [any_py h.1 ys (by simpa [okD] using h.2.1)]
        exact give_val g s (.bl _)
      · cases e
  · exact .inl (notIn_D F H _ _ _ _ Q out s rx ry e g)
end GW

set_option Elab.async false
set_option linter.all false
set_option maxRecDepth 100000
set_option maxHeartbeats 1000000
namespace GW
open PySem PySem.Spec PyProof.Rows L2

/-! ### tuple * 0 -/
theorem tuple_mulNil (l : Addr) (items : Array Value) (n : Nat) (dd : Option Addr) (sl : Array (Option Value)) (u : Tok) (c1 : (items.isEmpty || (0 : Int) == 1) = false) :
    Meets (Builtin.«tuple.__mul__» ⟨[.ref l, .int 0 u], []⟩) (fun _ R s => s.heap.get? l = some { cls := .type "tuple", dict := dd, data := .seq items n, slots := sl } ∧
      R (.ok (.ret (Value.ref s.heap.objs.size))) { s with heap := s.heap.push { cls := Value.type "tuple", data := Data.seq #[] }, toks := s.toks }) :=
  .of_wp fun prog w A R s h => by
    obtain ⟨hp, g, d, tk, os⟩ := s
    obtain ⟨hl, h⟩ := h
    have f1 := AutoSeq1.idx_int
    wp_walk using wpAny_loadPart' hl
    repeat (first
      | (refine wpAny_ite_false (decide_eq_false (by rw [c1]; exact Bool.false_ne_true)) ?_; wp_walk using wpAny_loadPart' hl)
      | (refine wpAny_ite_true ?_ ?_ <;> wp_walk using wpAny_loadPart' hl))
    exact ⟨_, rfl, h⟩
def rRep0 (K : PySem.W.Frag) : R2 := fun x y H Q => ∃ l xs, x = .ref l ∧ y = .int 0 ∧ SqT K H l xs ∧ xs ≠ [] ∧ ∀ p, H p = none → Q (.ref p) (upd H p (.tup []))
theorem op_rep0 {X : Cx} : OpR X (binaryOp .Mult) (rRep0 X.K) := by
  intro pins s σ H x y v u Q I rx ry want
  obtain ⟨l, xs, rfl, rfl, sq, hne, q⟩ := want
  cases rx
  obtain ⟨t, rfl⟩ := ry
  obtain ⟨its, r, ⟨⟨cls, dd, data, sl⟩, at_, cc, n, dt⟩, _⟩ := I.tuple sq
  simp only at cc dt
  subst cc dt
  have hle : its.length = xs.length := r.length.symm
  have hi : its.toArray.isEmpty = false := by
    cases its with
    | nil => exact absurd (List.eq_nil_of_length_eq_zero hle.symm) hne
    | cons a b => rfl
  have c1 : (its.toArray.isEmpty || (0 : Int) == 1) = false := by rw [hi]; rfl
  refine wpAny_binaryOp_repeat_ref (T := "tuple") (U := "int") (by decide) ⟨_, at_, rfl⟩ (fun s' => typeIs_int s' 0 t) noFill_tuple_mul F.fills_int_mul F.slot_int_rmul repeat_tuple F.slot_int_index.lookup
    (call_meets F.slot_int_rmul (typeIs_int s 0 t) F.entry_int_rmul (F.args_int_rmul_2 _ _) (int_rmul_tuple 0 t l its.toArray n dd sl)
      ⟨at_, rfl, ⟨_, at_, rfl⟩, call_meets F.slot_tuple_mul ⟨_, at_, rfl⟩ F.entry_tuple_mul (F.args_tuple_mul_2 _ _) (tuple_mulNil l its.toArray n dd sl t c1) ⟨at_, ?_⟩⟩)
  refine ⟨.ref s.heap.objs.size, _, I.laid (t' := s.toks) (o := .tup []) (fun b ob q => Heap.get?_push_of_some _ q) (Nat.le_refl _) ?_, rfl, q _ (I.hok.fresh (Nat.le_refl _))⟩
  exact ⟨by rw [sizeLine_eq]; decide, _, .nil, IsTup.new _ _⟩
/-- x * y: ints; a tuple some times, or not at all -/
def dMulZ : D → D → Option R
  | .tup xs, .int k => if k = 0 ∧ xs ≠ [] then some (.dat (.tup [])) else dMulX (.tup xs) (.int k)
  | x, y => dMulX x y
def rMulZ (X : Cx) : R2 := fun x y H Q => (rMulD X.K x y H Q ∨ rRep1 X.K x y H Q) ∨ rRep0 X.K x y H Q
theorem op_mulZ {X : Cx} : OpR X (binaryOp .Mult) (rMulZ X) := op_mulX.or op_rep0
theorem mulZ_D {X : Cx} : Op2 X (rMulZ X) dMulZ := by
  intro F H x y dx dy Q out s rx ry e g
  unfold dMulZ at e
  split at e
  · rename_i xs k
    split at e
    · rename_i c
      obtain ⟨one, hne⟩ := c
      subst one
      cases e
      obtain ⟨a, vs, rfl, h1, r1, p1⟩ := rx.tup s
      have hy := ry.int
      subst hy
      have hl := r1.length
      exact .inr ⟨a, vs, rfl, rfl, h1, fun z => hne (by subst z; exact List.eq_nil_of_length_eq_zero hl.symm), give_tup g s .nil⟩
    · exact .inl (mulX_D F H _ _ _ _ Q out s rx ry e g)
  · exact .inl (mulX_D F H _ _ _ _ Q out s rx ry e g)

/-! ### a op b op' c op'' d -/
def tChain3 (r r' r2 : R2) (ta tb tc td : TE) : TE := fun σ H Q => ta σ H fun x H1 => tb σ H1 fun y H2 => r x y H2 fun z H3 => ∃ k, z = .bl k ∧
  (if k = true then tc σ H3 fun w' H4 => r' y w' H4 fun z' H5 => ∃ k', z' = .bl k' ∧ (if k' = true then td σ H5 fun u' H6 => r2 w' u' H6 Q else Q (.bl false) H5) else Q (.bl false) H3)
section
variable {X : Cx} {a b c d : Expr} {pos : Pos} {ta tb tc td : TE}
theorem pe_chain3 {op op' op2 : CmpOp} {r r' r2 : R2} (ho : OpR X (compareOp op) r) (ho' : OpR X (compareOp op') r') (ho2 : OpR X (compareOp op2) r2) (ha : PE X a ta) (hb : PE X b tb) (hc : PE X c tc) (hd : PE X d td)
    (hm : lastMarks [op, op', op2] [b, c, d] = false := by with_unfolding_all rfl) : PE X (.Compare a [op, op', op2] [b, c, d] pos) (tChain3 r r' r2 ta tb tc td) := by
  refine ⟨fun pins s σ H Q I h => ?_⟩
  refine Compare_chain (thn (ha.run pins s σ H _ I h) fun v s1 ⟨x, H1, I1, r1, q1⟩ => chain_link (thn (hb.run pins s1 σ H1 _ I1 q1) fun u s2 ⟨y, H2, I2, r2, q2⟩ =>
    thn (ho pins s2 σ H2 x y v u _ I2 r1 r2 q2) fun dd s3 ⟨z, H3, I3, r3, k, e, q3⟩ => ?_)) hm
  subst e
  cases r3
  refine wpAny_truthy_bool ?_
  cases k with
  | false => exact ite_ff ⟨.bl false, H3, I3, rfl, q3⟩
  | true =>
    refine ite_tt (chain_link (thn (hc.run pins s3 σ H3 _ I3 q3) fun w' s4 ⟨z', H4, I4, r4, q4⟩ => thn (ho' pins s4 σ H4 y z' u w' _ I4 r2 r4 q4) fun d' s5 ⟨z2, H5, I5, r5, k2, e2, q5⟩ => ?_))
    subst e2
    cases r5
    refine wpAny_truthy_bool ?_
    cases k2 with
    | false => exact ite_ff ⟨.bl false, H5, I5, rfl, q5⟩
    | true => exact ite_tt (chain_last (thn (hd.run pins s5 σ H5 _ I5 q5) fun w2 s6 ⟨z3, H6, I6, r6, q6⟩ => ho2 pins s6 σ H6 z' z3 w' w2 Q I6 r4 r6 q6))
theorem pt_chain3 {op op' op2 : CmpOp} {r r' r2 : R2} (ho : OpR X (compareOp op) r) (ho' : OpR X (compareOp op') r') (ho2 : OpR X (compareOp op2) r2) (ha : PE X a ta) (hb : PE X b tb) (hc : PE X c tc) (hd : PE X d td)
    (hm : lastMarks [op, op', op2] [b, c, d] = false := by with_unfolding_all rfl) : PT X (.Compare a [op, op', op2] [b, c, d] pos) (tTest (tChain3 r r' r2 ta tb tc td)) := by
  refine ⟨fun pins s σ H Q I h => ?_⟩
  refine isTrue_chain (thn (ha.run pins s σ H _ I h) fun v s1 ⟨x, H1, I1, r1, q1⟩ => test_link (thn (hb.run pins s1 σ H1 _ I1 q1) fun u s2 ⟨y, H2, I2, r2, q2⟩ =>
    thn (ho pins s2 σ H2 x y v u _ I2 r1 r2 q2) fun dd s3 ⟨z, H3, I3, r3, k, e, q3⟩ => ?_)) hm
  subst e
  cases r3
  refine wpAny_truthy_bool ?_
  cases k with
  | false =>
    obtain ⟨k', e', q'⟩ := q3
    cases e'
    exact ite_ff ⟨H3, I3, q'⟩
  | true =>
    refine ite_tt (test_link (thn (hc.run pins s3 σ H3 _ I3 q3) fun w' s4 ⟨z', H4, I4, r4, q4⟩ => thn (ho' pins s4 σ H4 y z' u w' _ I4 r2 r4 q4) fun d' s5 ⟨z2, H5, I5, r5, k2, e2, q5⟩ => ?_))
    subst e2
    cases r5
    refine wpAny_truthy_bool ?_
    cases k2 with
    | false =>
      obtain ⟨k', e', q'⟩ := q5
      cases e'
      exact ite_ff ⟨H5, I5, q'⟩
    | true =>
      refine ite_tt (test_last (thn (hd.run pins s5 σ H5 _ I5 q5) fun w2 s6 ⟨z3, H6, I6, r6, q6⟩ => thn (ho2 pins s6 σ H6 z' z3 w' w2 _ I6 r4 r6 q6) fun d2 s7 ⟨z4, H7, I7, r7, k3, e3, q7⟩ => ?_))
      subst e3
      cases r7
      exact wpAny_truthy_bool ⟨H7, I7, q7⟩
end
def eChain3 (g g' g2 : Int → Int → Bool) (fa fb fc fd : Ex) : Ex := fun ev => (fa ev).bind fun ra e1 => (fb e1).bind fun rb e2 =>
  match ra, rb with
  | .dat (.int i), .dat (.int j) => if g i j = true then (fc e2).bind fun rc e3 => (match rc with
      | .dat (.int k) => if g' j k = true then (fd e3).bind fun rd e4 => (match rd with
          | .dat (.int l) => .ok (.dat (.bl (g2 k l))) e4
          | _ => .stuck) else .ok (.dat (.bl false)) e3
      | _ => .stuck) else .ok (.dat (.bl false)) e2
  | _, _ => .stuck
section
variable {X : Cx} {cl : Cls} {E : XK}
theorem chain3_ok {ta tb tc td : TE} {fa fb fc fd : Ex} {g g' g2 : Int → Int → Bool} (ha : Means X cl E ta fa) (hb : Means X cl E tb fb) (hc : Means X cl E tc fc) (hd : Means X cl E td fd) :
    Means X cl E (tChain3 (rI0 fun i j => .bl (g i j)) (rI0 fun i j => .bl (g' i j)) (rI0 fun i j => .bl (g2 i j)) ta tb tc td) (eChain3 g g' g2 fa fb fc fd) := fun F H σ ev fp Q d m => by
  unfold eChain3 at m
  refine ha F H σ ev fp _ d ?_
  cases e : fa ev with
  | stuck => rw [e] at m; exact m
  | exc k => rw [e] at m; exact m
  | ok ra e1 =>
  rw [e] at m
  simp only [Out.bind_ok] at m
  intro F1 H1 fp1 v1 tp1 x1 d1 rv1 nd1
  have m1 := m
  cases rv1 with
  | bor _ _ =>
    refine hb F1 H1 σ e1 _ _ d1 ?_
    cases e' : fb e1 with
    | stuck => rw [e'] at m; exact m
    | exc k => rw [e'] at m; exact ExcOk.shift x1 m
    | ok rb e2 => rw [e'] at m; exact m.elim
  | tmp o f =>
    refine hb F1 H1 σ e1 fp1 _ d1 ?_
    have x1' := x1.fewer (fp2 := fp1) fun b h => List.mem_append_right _ h
    cases e' : fb e1 with
    | stuck => rw [e'] at m; exact m
    | exc k => rw [e'] at m; exact ExcOk.shift x1' m
    | ok rb e2 => rw [e'] at m; exact m.elim
  | @dat _ dv r1 =>
  refine hb F1 H1 σ e1 _ _ d1 ?_
  cases e' : fb e1 with
  | stuck => rw [e'] at m; exact m
  | exc k => rw [e'] at m; exact ExcOk.shift x1 m
  | ok rb e2 =>
  rw [e'] at m
  simp only [Out.bind_ok] at m
  intro F2 H2 fp2 v2 tp2 x2 d2 rv2 nd2
  split at m
  · rename_i i j hi
    injection hi with hi
    subst hi
    cases r1
    cases rv2 with
    | dat r2 =>
    cases r2
    refine ⟨i, j, rfl, rfl, g i j, rfl, ?_⟩
    cases hg : g i j with
    | true =>
      rw [hg] at m
      simp only [if_true] at m ⊢
      refine hc F2 H2 σ e2 _ _ d2 ?_
      cases e'' : fc e2 with
      | stuck => rw [e''] at m; exact m
      | exc k => rw [e''] at m; exact ExcOk.shift (x1.trans x2) m
      | ok rc e3 =>
      rw [e''] at m
      simp only [Out.bind_ok] at m
      intro F3 H3 fp3 v3 tp3 x3 d3 rv3 nd3
      split at m
      · rename_i k
        cases rv3 with
        | dat r3 =>
        cases r3
        refine ⟨j, k, rfl, rfl, g' j k, rfl, ?_⟩
        cases hg' : g' j k with
        | true =>
          rw [hg'] at m
          simp only [if_true] at m ⊢
          refine hd F3 H3 σ e3 _ _ d3 ?_
          cases e4 : fd e3 with
          | stuck => rw [e4] at m; exact m
          | exc k => rw [e4] at m; exact ExcOk.shift ((x1.trans x2).trans x3) m
          | ok rd e5 =>
          rw [e4] at m
          simp only [Out.bind_ok] at m
          intro F4 H4 fp4 v4 tp4 x4 d4 rv4 nd4
          split at m
          · rename_i l
            cases rv4 with
            | dat r4 =>
            cases r4
            exact ⟨k, l, rfl, rfl, m F4 H4 fp4 _ [] (((x1.trans x2).trans x3).trans x4) d4 (.dat (.bl _)) d4.nd⟩
          · exact m.elim
        | false =>
          rw [hg'] at m
          simp only [Bool.false_eq_true, if_false] at m ⊢
          exact m F3 H3 _ _ [] ((x1.trans x2).trans x3) d3 (.dat (.bl _)) d3.nd
      · exact m.elim
    | false =>
      rw [hg] at m
      simp only [Bool.false_eq_true, if_false] at m ⊢
      exact m F2 H2 _ _ [] (x1.trans x2) d2 (.dat (.bl _)) d2.nd
  · exact m.elim
theorem de_chain3 {a b c d : Expr} {fa fb fc fd : Ex} {op op' op2 : CmpOp} {pos : Pos} {g g' g2 : Int → Int → Bool} (h1 : OpR X (compareOp op) (rI0 fun i j => .bl (g i j))) (h2 : OpR X (compareOp op') (rI0 fun i j => .bl (g' i j))) (h3 : OpR X (compareOp op2) (rI0 fun i j => .bl (g2 i j)))
    (ha : DE X cl E a fa) (hb : DE X cl E b fb) (hc : DE X cl E c fc) (hd : DE X cl E d fd)
    (hm : lastMarks [op, op', op2] [b, c, d] = false := by with_unfolding_all rfl) : DE X cl E (.Compare a [op, op', op2] [b, c, d] pos) (eChain3 g g' g2 fa fb fc fd) := by
  obtain ⟨ta, pa, ha⟩ := ha
  obtain ⟨tb, pb, hb⟩ := hb
  obtain ⟨tc, pc, hc⟩ := hc
  obtain ⟨td, pd, hd⟩ := hd
  exact ⟨_, pe_chain3 h1 h2 h3 pa pb pc pd hm, chain3_ok ha hb hc hd⟩
theorem dt_chain3 {a b c d : Expr} {fa fb fc fd : Ex} {op op' op2 : CmpOp} {pos : Pos} {g g' g2 : Int → Int → Bool} (h1 : OpR X (compareOp op) (rI0 fun i j => .bl (g i j))) (h2 : OpR X (compareOp op') (rI0 fun i j => .bl (g' i j))) (h3 : OpR X (compareOp op2) (rI0 fun i j => .bl (g2 i j)))
    (ha : DE X cl E a fa) (hb : DE X cl E b fb) (hc : DE X cl E c fc) (hd : DE X cl E d fd)
    (hm : lastMarks [op, op', op2] [b, c, d] = false := by with_unfolding_all rfl) : DT X cl E (.Compare a [op, op', op2] [b, c, d] pos) (toB (eChain3 g g' g2 fa fb fc fd)) := by
  obtain ⟨ta, pa, ha⟩ := ha
  obtain ⟨tb, pb, hb⟩ := hb
  obtain ⟨tc, pc, hc⟩ := hc
  obtain ⟨td, pd, hd⟩ := hd
  exact ⟨_, pt_chain3 h1 h2 h3 pa pb pc pd hm, toB_ok (chain3_ok ha hb hc hd)⟩
end
end GW

set_option Elab.async false
set_option linter.all false
set_option maxRecDepth 100000
set_option maxHeartbeats 1000000
namespace GW
open PySem PySem.Spec PyProof.Rows L2
open PySem.Sem (wp)
section
variable {prog : Program} {w : World} {A : Around} {E : Value → Shared → Prop} {s : Shared}
/-- zip of a tuple and a list: one turn -/
theorem zm_item {z P O i j a b : Addr} {m n : Nat} {xs ys : Array Value} {x y c d : Value} {Q : Value → Shared → Prop} (D : ZipApart z P O i j a b) (zz : IsZip s.heap z P O .none)
    (pp : IsPair s.heap P (.ref i) (.ref j)) (oo : IsPair s.heap O c d) (u1 : s.heap.IsTupleIter i a m) (u2 : s.heap.IsListIter j b n) (v1 : s.heap.IsTuple a xs) (v2 : s.heap.IsList b ys) (ex : xs[m]? = some x) (ey : ys[n]? = some y)
    (k : ∀ g, IsZip g z P O (rawInt s.heap.objs.size) → IsPair g O x y → g.IsTupleIter i a (m + 1) → g.IsListIter j b (n + 1) → IsPair g s.heap.objs.size x y → g.objs.size = s.heap.objs.size + 1 →
      (∀ e o, e ≠ z → e ≠ O → e ≠ i → e ≠ j → s.heap.get? e = some o → g.get? e = some o) → Q (.ref s.heap.objs.size) { s with heap := g }) :
    wpAny (model prog w) A (Builtin.«zip.__next__» ⟨[.ref z], []⟩) (fun f t => ∃ v, f = .done (.ret v) ∧ Q v t) E s := by
  refine wpAny_bind (m := field (.ref z) 2) (wpAny_field zz rfl (x := Value.bool false) rfl ?_)
  refine wpAny_bind (m := field (.ref z) 3) (wpAny_field zz rfl (x := Value.ref P) rfl ?_)
  refine wpAny_bind (wpAny_seqItems pp rfl (wpAny_bind (m := Builtin.SmallTypes.ownedTupleIsFree (.ref z)) ?_))
  unfold Builtin.SmallTypes.ownedTupleIsFree
  refine wpAny_bind (wpAny_field zz rfl (x := Value.none) rfl (wpAny_pure ?_))
  simp only [if_true]
  refine wpAny_bind (wpAny_rule (wpAny_bind (wpAny_field zz rfl (x := Value.ref O) rfl (wpAny_bind (wpAny_setField_rec zz (by simp) fun g1 zz1 e1 => ?_)))))
  have zz1 : IsZip g1 z P O .ellipsis := zz1
  have x1 := e1.extBut
  refine wpAny_bind ?_
  simp only [List.zipIdx_nil, List.zipIdx_cons, List.forIn_nil, List.forIn_cons]
  refine wpAny_bind (wpAny_bind (wpAny_onRaise (wpAny_bind (m := Builtin.SmallTypes.nextOf (.ref i)) (RZ.nextOf_tuple_item (u1.extBut x1 D.i1z) (v1.extBut x1 D.l1z) ex fun g2 n1 e2 => wpAny_pure ?_))))
  have x2 := e2.extBut
  have oo2 : IsPair g2 O c d := x2 _ _ D.TOi1 (x1 _ _ D.TOz oo)
  refine wpAny_bind (wpAny_seqItems oo2 rfl (wpAny_bind (wpAny_updateSeq_pair oo2 fun g3 oo3 e3 => ?_)))
  have oo3 : IsPair g3 O x d := oo3
  have x3 := e3.extBut
  refine wpAny_bind (wpAny_letGo (wpAny_pure (wpAny_bind (wpAny_bind (wpAny_onRaise ?_)))))
  refine wpAny_bind (m := Builtin.SmallTypes.nextOf (.ref j)) (wpAny_nextOf_list_item (((u2.extBut x1 D.i2z).extBut x2 D.i12.symm).extBut x3 D.TOi2.symm) (((v2.extBut x1 D.l2z).extBut x2 D.l2i1).extBut x3 D.l2TO) ey fun g4 n2 e4 => wpAny_pure ?_)
  have x4 := e4.extBut
  have oo4 : IsPair g4 O x d := x4 _ _ D.TOi2 oo3
  refine wpAny_bind (wpAny_seqItems oo4 rfl (wpAny_bind (wpAny_updateSeq_pair oo4 fun g5 oo5 e5 => ?_)))
  have oo5 : IsPair g5 O x y := oo5
  have x5 := e5.extBut
  refine wpAny_bind (wpAny_letGo (wpAny_pure (wpAny_pure (wpAny_bind (wpAny_seqItems oo5 rfl (wpAny_bind (wpAny_newTuple ?_)))))))
  have sz : g5.objs.size = s.heap.objs.size := by rw [e5.1, e4.1, e3.1, e2.1, e1.1]
  have zz5 : IsZip g5 z P O .ellipsis := x5 _ _ D.TOz.symm (x4 _ _ D.i2z.symm (x3 _ _ D.TOz.symm (x2 _ _ D.i1z.symm zz1)))
  have kp : ∀ e o, e ≠ z → e ≠ O → e ≠ i → e ≠ j → s.heap.get? e = some o → g5.get? e = some o := fun e o q1 q2 q3 q4 r => x5 _ _ q2 (x4 _ _ q4 (x3 _ _ q2 (x2 _ _ q3 (x1 _ _ q1 r))))
  have n15 : g5.IsTupleIter i a (m + 1) := ((n1.extBut x3 D.TOi1.symm).extBut x4 D.i12).extBut x5 D.TOi1.symm
  have n25 : g5.IsListIter j b (n + 1) := n2.extBut x5 D.TOi2.symm
  have zl : z < g5.objs.size := Heap.lt_size zz5
  refine wpAny_bind (m := Builtin.SmallTypes.ownedTupleHandOut (.ref z) (.ref g5.objs.size)) ?_
  unfold Builtin.SmallTypes.ownedTupleHandOut
  have zz6 : IsZip (g5.push { cls := .type "tuple", data := .seq #[x, y] }) z P O .ellipsis := Heap.get?_push_of_some _ zz5
  refine wpAny_bind (wpAny_setField_rec zz6 (by simp) fun g7 zz7 e7 => wpAny_setField_rec (show IsZip g7 z P O (rawInt g5.objs.size) from zz7) (by simp) fun g8 zz8 e8 => ?_)
  have zz8 : IsZip g8 z P O (rawInt g5.objs.size) := zz8
  have fin : ∀ e o, e ≠ z → g5.get? e = some o → g8.get? e = some o := fun e o q r => e8.extBut _ _ q (e7.extBut _ _ q (Heap.get?_push_of_some _ r))
  have pr : IsPair g8 g5.objs.size x y := e8.extBut _ _ (Nat.ne_of_gt zl) (e7.extBut _ _ (Nat.ne_of_gt zl) (Heap.get?_push_size _ rfl))
  have s8 : g8.objs.size = g5.objs.size + 1 := by rw [e8.1, e7.1, Heap.size_push]
  rw [sz] at zz8 pr s8
  refine wpAny_pure ⟨.ref g5.objs.size, rfl, ?_⟩
  rw [sz]
  exact k g8 zz8 (fin _ _ D.TOz oo5) (n15.at fun o r => fin _ o D.i1z r) (n25.at fun o r => fin _ o D.i2z r) pr s8 fun e o q1 q2 q3 q4 r => fin e o q1 (kp e o q1 q2 q3 q4 r)
/-- the last turn -/
theorem zm_end {z P O i j a b : Addr} {m n : Nat} {xs ys : Array Value} {c d : Value} {Q : Fin → Shared → Prop} (hd : A.handled = none) (D : ZipApart z P O i j a b) (zz : IsZip s.heap z P O .none)
    (pp : IsPair s.heap P (.ref i) (.ref j)) (oo : IsPair s.heap O c d) (u1 : s.heap.IsTupleIter i a m) (u2 : s.heap.IsListIter j b n) (v1 : s.heap.IsTuple a xs) (v2 : s.heap.IsList b ys) (no : xs[m]? = none ∨ ys[n]? = none)
    (k : ∀ g r, (∀ e o, e ≠ z → e ≠ O → e ≠ i → e ≠ j → s.heap.get? e = some o → g.get? e = some o) → (∃ o, g.get? r = some o ∧ o.cls = .type "StopIteration") → E (.ref r) { s with heap := g }) :
    wpAny (model prog w) A (Builtin.«zip.__next__» ⟨[.ref z], []⟩) Q E s := by
  refine wpAny_bind (m := field (.ref z) 2) (wpAny_field zz rfl (x := Value.bool false) rfl ?_)
  refine wpAny_bind (m := field (.ref z) 3) (wpAny_field zz rfl (x := Value.ref P) rfl ?_)
  refine wpAny_bind (wpAny_seqItems pp rfl (wpAny_bind (m := Builtin.SmallTypes.ownedTupleIsFree (.ref z)) ?_))
  unfold Builtin.SmallTypes.ownedTupleIsFree
  refine wpAny_bind (wpAny_field zz rfl (x := Value.none) rfl (wpAny_pure ?_))
  simp only [if_true]
  refine wpAny_bind (wpAny_rule (wpAny_bind (wpAny_field zz rfl (x := Value.ref O) rfl (wpAny_bind (wpAny_setField_rec zz (by simp) fun g1 zz1 e1 => ?_)))))
  have zz1 : IsZip g1 z P O .ellipsis := zz1
  have x1 := e1.extBut
  refine wpAny_bind ?_
  simp only [List.zipIdx_nil, List.zipIdx_cons, List.forIn_nil, List.forIn_cons]
  refine wpAny_bind (wpAny_bind (wpAny_onRaise (wpAny_bind (m := Builtin.SmallTypes.nextOf (.ref i)) ?_)))
  cases ex : xs[m]? with
  | none =>
    refine RZ.nextOf_tuple_end hd (u1.extBut x1 D.i1z) (v1.extBut x1 D.l1z) ex fun g2 r e2 he => ?_
    obtain ⟨oe, o1, o2⟩ := he
    have zz2 : IsZip g2 z P O .ellipsis := e2 _ _ D.i1z.symm zz1
    have rz : r ≠ z := fun q => by subst q; rw [zz2] at o1; cases o1; simp at o2
    exact wpAny_setField_rec zz2 (by simp) fun g3 _ e3 => k g3 r (fun e o q1 _ q3 _ t => e3.extBut _ _ q1 (e2 _ _ q3 (x1 _ _ q1 t))) ⟨oe, e3.extBut _ _ rz o1, o2⟩
  | some x =>
    have ey : ys[n]? = none := by
      rcases no with q | q
      · rw [ex] at q; cases q
      · exact q
    refine RZ.nextOf_tuple_item (u1.extBut x1 D.i1z) (v1.extBut x1 D.l1z) ex fun g2 n1 e2 => wpAny_pure ?_
    have x2 := e2.extBut
    have oo2 : IsPair g2 O c d := x2 _ _ D.TOi1 (x1 _ _ D.TOz oo)
    refine wpAny_bind (wpAny_seqItems oo2 rfl (wpAny_bind (wpAny_updateSeq_pair oo2 fun g3 oo3 e3 => ?_)))
    have x3 := e3.extBut
    refine wpAny_bind (wpAny_letGo (wpAny_pure (wpAny_bind (wpAny_bind (wpAny_onRaise ?_)))))
    refine wpAny_bind (m := Builtin.SmallTypes.nextOf (.ref j)) (wpAny_nextOf_list_end hd (((u2.extBut x1 D.i2z).extBut x2 D.i12.symm).extBut x3 D.TOi2.symm) (((v2.extBut x1 D.l2z).extBut x2 D.l2i1).extBut x3 D.l2TO) ey fun g4 r e4 he => ?_)
    obtain ⟨oe, o1, o2⟩ := he
    have zz4 : IsZip g4 z P O .ellipsis := e4 _ _ D.i2z.symm (x3 _ _ D.TOz.symm (x2 _ _ D.i1z.symm zz1))
    have rz : r ≠ z := fun q => by subst q; rw [zz4] at o1; cases o1; simp at o2
    exact wpAny_setField_rec zz4 (by simp) fun g5 _ e5 => k g5 r (fun e o q1 q2 q3 q4 t => e5.extBut _ _ q1 (e4 _ _ q4 (x3 _ _ q2 (x2 _ _ q3 (x1 _ _ q1 t))))) ⟨oe, e5.extBut _ _ rz o1, o2⟩
theorem nx_item {z P O i j a b : Addr} {m n : Nat} {xs ys : Array Value} {x y c d : Value} {Q : Option Value → Shared → Prop} (D : ZipApart z P O i j a b) (zz : IsZip s.heap z P O .none)
    (pp : IsPair s.heap P (.ref i) (.ref j)) (oo : IsPair s.heap O c d) (u1 : s.heap.IsTupleIter i a m) (u2 : s.heap.IsListIter j b n) (v1 : s.heap.IsTuple a xs) (v2 : s.heap.IsList b ys) (ex : xs[m]? = some x) (ey : ys[n]? = some y)
    (k : ∀ g, IsZip g z P O (rawInt s.heap.objs.size) → IsPair g O x y → g.IsTupleIter i a (m + 1) → g.IsListIter j b (n + 1) → IsPair g s.heap.objs.size x y → g.objs.size = s.heap.objs.size + 1 →
      (∀ e o, e ≠ z → e ≠ O → e ≠ i → e ≠ j → s.heap.get? e = some o → g.get? e = some o) → Q (some (.ref s.heap.objs.size)) { s with heap := g }) :
    wpAny (model prog w) A (pyNext (.ref z)) Q E s := by
  have ty : s.TypeIs (.ref z) "zip" := ⟨_, zz, rfl⟩
  unfold pyNext
  exact wpAny_bind (wpAny_attempt (wpAny_callSpecial?_slot (name := Str.ofString "__next__") ty F.slot_zip_next (wpAny_call_entry F.slot_zip_next ty F.entry_zip_next
    (zm_item D zz pp oo u1 u2 v1 v2 ex ey fun g b1 b2 b3 b4 b5 b6 b7 => wpAny_pure (k g b1 b2 b3 b4 b5 b6 b7)) (F.args_zip_next_1 _))))
theorem nx_end {z P O i j a b : Addr} {m n : Nat} {xs ys : Array Value} {c d : Value} {Q : Option Value → Shared → Prop} (hd : A.handled = none) (D : ZipApart z P O i j a b) (zz : IsZip s.heap z P O .none)
    (pp : IsPair s.heap P (.ref i) (.ref j)) (oo : IsPair s.heap O c d) (u1 : s.heap.IsTupleIter i a m) (u2 : s.heap.IsListIter j b n) (v1 : s.heap.IsTuple a xs) (v2 : s.heap.IsList b ys) (no : xs[m]? = none ∨ ys[n]? = none)
    (k : ∀ g, (∀ e o, e ≠ z → e ≠ O → e ≠ i → e ≠ j → s.heap.get? e = some o → g.get? e = some o) → Q none { s with heap := g }) : wpAny (model prog w) A (pyNext (.ref z)) Q E s := by
  have ty : s.TypeIs (.ref z) "zip" := ⟨_, zz, rfl⟩
  unfold pyNext
  refine wpAny_bind (wpAny_attempt (wpAny_callSpecial?_slot (name := Str.ofString "__next__") ty F.slot_zip_next (wpAny_call_entry F.slot_zip_next ty F.entry_zip_next
    (zm_end hd D zz pp oo u1 u2 v1 v2 no fun g r kp st => ?_) (F.args_zip_next_1 _))))
  obtain ⟨o, o1, o2⟩ := st
  exact wpAny_bind (wpAny_isInstance (T := "StopIteration") (b := true) ⟨o, o1, o2⟩ isSubtype_stop (wpAny_pure (k _ kp)))
end
/-! ### zip(a tuple, a list) -/
abbrev zq1 (h : Heap) (a : Addr) : Heap := h.push { cls := .type "tuple_iterator", data := .fields #[.ref a, .int 0 0] }
abbrev zq2 (h : Heap) (a b : Addr) : Heap := (zq1 h a).push { cls := .type "list_iterator", data := .fields #[.ref b, .int 0 0] }
abbrev zq3 (h : Heap) (a b : Addr) : Heap := (zq2 h a b).push { cls := .type "tuple", data := .seq #[.ref h.objs.size, .ref (zq1 h a).objs.size] }
abbrev zq4 (h : Heap) (a b : Addr) : Heap := (zq3 h a b).push { cls := .type "tuple", data := .seq #[.none, .none] }
abbrev zq5 (h : Heap) (a b : Addr) : Heap := (zq4 h a b).push { cls := .type "zip", data := .fields #[.none, .bool false, .bool false, .ref (zq2 h a b).objs.size, .ref (zq3 h a b).objs.size] }
theorem zm_new (a b : Addr) (xs ys : Array Value) :
    Meets (Builtin.«zip.__new__» ⟨[.type "zip", .ref a, .ref b], []⟩) (fun _ R s => s.heap.IsTuple a xs ∧ s.heap.IsList b ys ∧ R (.ok (.ret (.ref (zq4 s.heap a b).objs.size))) { s with heap := zq5 s.heap a b }) :=
  .of_wp fun prog w A R s want => by
    obtain ⟨hp, g, d, tk, os⟩ := s
    obtain ⟨ta, lb, want⟩ := want
    have su := sub_zip
    have fa : Heap.IsTuple (Shared.heap ⟨hp, g, d, tk, os⟩) a xs := ta
    have fb : Heap.IsList (Shared.heap ⟨hp.push { cls := .type "tuple_iterator", data := .fields #[.ref a, .int 0 0] }, g, d, tk, os⟩) b ys := Heap.IsList.push lb _
    wp_walk using wpAny_pyIter_tuple fa, wpAny_pyIter_list fb
    exact ⟨_, rfl, want⟩
section
variable {prog : Program} {w : World} {A : Around} {E : Value → Shared → Prop} {s : Shared}
theorem zm_call {a b : Addr} {xs ys : Array Value} {Q : Value → Shared → Prop} (ta : s.heap.IsTuple a xs) (lb : s.heap.IsList b ys)
    (k : ∀ g, IsZip g (s.heap.objs.size + 4) (s.heap.objs.size + 2) (s.heap.objs.size + 3) .none → IsPair g (s.heap.objs.size + 2) (.ref s.heap.objs.size) (.ref (s.heap.objs.size + 1)) → IsPair g (s.heap.objs.size + 3) .none .none →
      g.IsTupleIter s.heap.objs.size a 0 → g.IsListIter (s.heap.objs.size + 1) b 0 → (∀ c o, s.heap.get? c = some o → g.get? c = some o) → Q (.ref (s.heap.objs.size + 4)) { s with heap := g }) :
    wpAny (model prog w) A (call (.type "zip") [.ref a, .ref b]) Q E s := by
  refine callType_new F.called_zip (by decide) (F.typeCall_zip_2 _ _) (F.newCall_zip_2 _ _) (fun o => F.args_object_init_3 o _ _) F.entry_zip_new (zm_new a b xs ys) ⟨ta, lb, ?_⟩
  have n1 : (zq1 s.heap a).objs.size = s.heap.objs.size + 1 := Heap.size_push ..
  have n2 : (zq2 s.heap a b).objs.size = s.heap.objs.size + 2 := by rw [Heap.size_push, n1]
  have n3 : (zq3 s.heap a b).objs.size = s.heap.objs.size + 3 := by rw [Heap.size_push, n2]
  have n4 : (zq4 s.heap a b).objs.size = s.heap.objs.size + 4 := by rw [Heap.size_push, n3]
  have up := fun (h : Heap) (o o' : Obj) (c : Addr) (e : h.get? c = some o') => Heap.get?_push_of_some (h := h) o e
  have q5 : (zq5 s.heap a b).get? (zq4 s.heap a b).objs.size = some _ := Heap.get?_push_size _ rfl
  have q4 : (zq5 s.heap a b).get? (zq3 s.heap a b).objs.size = some _ := up _ _ _ _ (Heap.get?_push_size _ rfl)
  have q3 : (zq5 s.heap a b).get? (zq2 s.heap a b).objs.size = some _ := up _ _ _ _ (up _ _ _ _ (Heap.get?_push_size _ rfl))
  have q2 : (zq5 s.heap a b).get? (zq1 s.heap a).objs.size = some _ := up _ _ _ _ (up _ _ _ _ (up _ _ _ _ (Heap.get?_push_size _ rfl)))
  have q1 : (zq5 s.heap a b).get? s.heap.objs.size = some _ := up _ _ _ _ (up _ _ _ _ (up _ _ _ _ (up _ _ _ _ (Heap.get?_push_size _ rfl))))
  show _ ∧ _
  rw [n2, n3, n4] at q5
  rw [n1, n2] at q3
  rw [n3] at q4
  rw [n1] at q2
  rw [n4]
  exact ⟨⟨_, q5, rfl⟩, k _ q5 q3 q4 ⟨_, q1, rfl, rfl⟩ ⟨_, q2, rfl, rfl⟩ fun c o e => up _ _ _ _ (up _ _ _ _ (up _ _ _ _ (up _ _ _ _ (up _ _ _ _ e))))⟩
end
/-- the tuple at a and the list at b as they stand at each turn -/
def ItzM (K : PySem.W.Frag) (a b : Addr) : It :=
  ⟨fun i H => ∃ (xs ys : List V) (x y : V), SqT K H a xs ∧ SqL K H b ys ∧ xs[i]? = some x ∧ ys[i]? = some y,
    fun i H v H' => ∃ T x y, v = .ref T ∧ H T = none ∧ H' = upd H T (.tup [x, y]) ∧ (∀ xs, SqT K H a xs → xs[i]? = some x) ∧ ∀ ys, SqL K H b ys → ys[i]? = some y,
    fun i H => ∃ xs ys : List V, SqT K H a xs ∧ SqL K H b ys ∧ (xs.length ≤ i ∨ ys.length ≤ i)⟩
theorem turn_zm {P : Program} {w : World} {K : PySem.W.Frag} {elts : List Expr} {kk : Nat} {tpos : Pos} {a b z TI TO i1 i2 : Addr} (D : ZipApart z TI TO i1 i2 a b) :
    Turn P w K (.Tuple elts kk tpos) (ItzM K a b) [z, TI, TO, i1, i2] z (fun i h => IsZip h z TI TO .none ∧ IsPair h TI (.ref i1) (.ref i2) ∧ (∃ x y, IsPair h TO x y) ∧ h.IsTupleIter i1 a i ∧ h.IsListIter i2 b i) where
  mem := by simp
  obj := fun i h st c hc => by
    obtain ⟨a1, a2, ⟨x, y, a3⟩, ⟨o1, e1, _, d1⟩, ⟨o2, e2, _, d2⟩⟩ := st
    have cs : c = z ∨ c = TI ∨ c = TO ∨ c = i1 ∨ c = i2 := by simpa using hc
    rcases cs with q | q | q | q | q <;> rw [q]
    · exact ⟨_, a1, fun v r => nomatch r⟩
    · exact ⟨_, a2, fun v r => nomatch r⟩
    · exact ⟨_, a3, fun v r => nomatch r⟩
    · exact ⟨o1, e1, fun v r => by rw [d1] at r; cases r⟩
    · exact ⟨o2, e2, fun v r => by rw [d2] at r; cases r⟩
  keep := fun i h h' st k => by
    obtain ⟨a1, a2, ⟨x, y, a3⟩, a4, a5⟩ := st
    exact ⟨k z (by simp) _ a1, k TI (by simp) _ a2, ⟨x, y, k TO (by simp) _ a3⟩, a4.at fun o r => k i1 (by simp) o r, a5.at fun o r => k i2 (by simp) o r⟩
  item := by
    intro X hP hw hK hc i pins s σ H E I hf st hg
    subst hP hw hK
    obtain ⟨a1, a2, ⟨x0, y0, a3⟩, a4, a5⟩ := st
    obtain ⟨xs, ys, x, y, sx, sy, gx, gy⟩ := hg
    obtain ⟨its, rv, p, _⟩ := I.tuple sx
    obtain ⟨its2, rv2, p2, _⟩ := I.list sy
    obtain ⟨u, hu, ru⟩ := rv.get gx
    obtain ⟨u2, hu2, ru2⟩ := rv2.get gy
    have zl : z < s.heap.objs.size := Heap.lt_size a1
    refine nx_item D a1 a2 a3 a4 a5 p p2.isList (x := u) (y := u2) (by simpa using hu) (by simpa using hu2) fun g b1 b2 b3 b4 b5 b6 b7 => ?_
    refine ⟨_, rfl, wpAny_letOwnedTupleGo_zip (s := { s with heap := g }) b1 fun g2 c1 sb => ?_⟩
    have hT2 : g2.get? s.heap.objs.size = some { cls := .type "tuple", data := .seq #[u, u2] } := (sb.2 _ (Nat.ne_of_gt zl)).trans b5
    have new : ObjOk X.prog X.w (upd H s.heap.objs.size (.tup [x, y])) g2 s.heap.objs.size (.tup [x, y]) := ⟨by show 2 ≤ sizeLine; decide, [u, u2], .cons ru (.cons ru2 .nil), ⟨_, hT2, rfl, _, rfl⟩⟩
    have not : ∀ c, c ∉ [z, TI, TO, i1, i2] → c ≠ z ∧ c ≠ TO ∧ c ≠ i1 ∧ c ≠ i2 := fun c hb => ⟨fun r => hb (by simp [r]), fun r => hb (by simp [r]), fun r => hb (by simp [r]), fun r => hb (by simp [r])⟩
    have I1 : Inv X pins σ (upd H s.heap.objs.size (.tup [x, y])) { s with heap := g2 } :=
      I.turnedNew (t' := s.toks) (ch := [z, TI, TO, i1, i2]) (fun c o hb q => (sb.2 c (not c hb).1).trans (b7 c o (not c hb).1 (not c hb).2.1 (not c hb).2.2.1 (not c hb).2.2.2 q)) hf (Nat.le_refl _) new
    refine ⟨.ref s.heap.objs.size, _, I1, rfl, ⟨_, x, y, rfl, I.hok.fresh (Nat.le_refl _), rfl, fun l hl => by rw [I.tuple_inj hl sx]; exact gx, fun l hl => by rw [I.list_inj hl sy]; exact gy⟩, ⟨c1, ?_, ⟨u, u2, ?_⟩, ?_, ?_⟩, fun c hcm => ?_⟩
    · exact (sb.2 _ D.TIz).trans (b7 _ _ D.TIz D.TITO D.TIi1 D.TIi2 a2)
    · exact (sb.2 _ D.TOz).trans b2
    · exact b3.at fun o r => (sb.2 _ D.i1z).trans r
    · exact b4.at fun o r => (sb.2 _ D.i2z).trans r
    · have lt : c < s.heap.objs.size := by
        have cs : c = z ∨ c = TI ∨ c = TO ∨ c = i1 ∨ c = i2 := by simpa using hcm
        rcases cs with q | q | q | q | q <;> rw [q]
        · exact zl
        · exact Heap.lt_size a2
        · exact Heap.lt_size a3
        · obtain ⟨_, e1, _⟩ := a4; exact Heap.lt_size e1
        · obtain ⟨_, e2, _⟩ := a5; exact Heap.lt_size e2
      rw [upd_ne (Nat.ne_of_lt lt)]
      exact (hf c hcm).1
  done := by
    intro X hP hw hK hc i pins s σ H E I hf st hg
    subst hP hw hK
    obtain ⟨a1, a2, ⟨x0, y0, a3⟩, a4, a5⟩ := st
    obtain ⟨xs, ys, sx, sy, en⟩ := hg
    obtain ⟨its, rv, p, _⟩ := I.tuple sx
    obtain ⟨its2, rv2, p2, _⟩ := I.list sy
    have l1 := rv.length
    have l2 := rv2.length
    have out : its.toArray[i]? = none ∨ its2.toArray[i]? = none := by
      rcases en with q | q
      · exact .inl (by simp; omega)
      · exact .inr (by simp; omega)
    have not : ∀ c, c ∉ [z, TI, TO, i1, i2] → c ≠ z ∧ c ≠ TO ∧ c ≠ i1 ∧ c ≠ i2 := fun c hb => ⟨fun r => hb (by simp [r]), fun r => hb (by simp [r]), fun r => hb (by simp [r]), fun r => hb (by simp [r])⟩
    exact nx_end (I.ok.hd hc) D a1 a2 a3 a4 a5 p p2.isList out fun g kp => ⟨rfl, I.turnedL (t' := s.toks) (ch := [z, TI, TO, i1, i2]) (fun c o hb q => kp c o (not c hb).1 (not c hb).2.1 (not c hb).2.2.1 (not c hb).2.2.2 q) hf⟩
  self := fun A i s Q E st h => wpAny_pyIter_zip st.1 h
def iZipMA (K : PySem.W.Frag) (ta : TA) : TI := fun σ H R => ta σ H fun vs H1 => ∃ a b xs ys, vs = [.ref a, .ref b] ∧ SqT K H1 a xs ∧ SqL K H1 b ys ∧ R (ItzM K a b) H1
theorem pi_zm {X : Cx} {e e2 : Expr} {ta : TA} {p pos tpos : Pos} {elts : List Expr} {kk : Nat} (hg : Gl X "zip") (hm : X.mg "zip" = none) (ha : PA X [e, e2] ta)
    (n1 : starEach [e, e2] X.env = (false, eval e X.env) :: starEach [e2] X.env := by rfl) (n2 : (backTo pos (starEach [e2] X.env)).any (·.1) = false := by rfl) : PI X (.Tuple elts kk tpos) (.Call (.Name "zip" p) [e, e2] [] pos) (iZipMA X.K ta) := by
  refine ⟨fun pins s σ H R I h => ?_⟩
  refine Call_ (ld_blt I hg hm PyProof.Rows.boot_zip (PyProof.Rows.callWith_type1 (thn (ha.run pos pins s σ H _ I h) fun us s1 ⟨vs, H1, I1, r1, q1⟩ => ?_) n1 n2))
  obtain ⟨a, b, xs, ys, ex, sx, sy, q⟩ := q1
  subst ex
  cases r1 with
  | cons r rr =>
  cases rr with
  | cons r' rr =>
  cases rr
  cases r
  cases r'
  obtain ⟨its, rv, p1, _⟩ := I1.tuple sx
  obtain ⟨its2, rv2, p2, _⟩ := I1.list sy
  obtain ⟨o1, ho1, _⟩ := id p1
  obtain ⟨o2, ho2, _⟩ := id p2.isList
  refine zm_call (show s1.heap.IsTuple a its.toArray from p1) p2.isList fun g hz hTI hTO h1 h2 kp => wpAny_pyIter_zip hz ?_
  have I2 : Inv X pins σ H1 { s1 with heap := g } := I1.kept (t' := s1.toks) kp
  refine ⟨s1.heap.objs.size + 4, [s1.heap.objs.size + 4, s1.heap.objs.size + 2, s1.heap.objs.size + 3, s1.heap.objs.size, s1.heap.objs.size + 1], _, _, H1, rfl, I2, turn_zm (PySem.W.ktu_apart s1.heap.objs.size a b (Heap.lt_size ho1) (Heap.lt_size ho2)), ⟨hz, hTI, ⟨_, _, hTO⟩, h1, h2⟩, fun c hcm => ?_, q⟩
  have le : s1.heap.objs.size ≤ c := by
    rcases (show c = s1.heap.objs.size + 4 ∨ c = s1.heap.objs.size + 2 ∨ c = s1.heap.objs.size + 3 ∨ c = s1.heap.objs.size ∨ c = s1.heap.objs.size + 1 by simpa using hcm) with q | q | q | q | q <;> rw [q] <;> first | exact Nat.le_add_right _ _ | exact Nat.le_refl _
  exact I1.fpOk le (I1.hok.fresh le)
theorem walk_zm {K : PySem.W.Frag} {a b : Addr} {xs ys : List V} {n : Nat} (hn : n = min xs.length ys.length) : Walk (ItzM K a b) n (fun H => SqT K H a xs ∧ SqL K H b ys) (YPair (fun i => xs[i]?) (fun i => ys[i]?)) := by
  refine ⟨fun i H hi h => ?_, fun H h => ?_, fun i H x H' hi h y => ?_⟩
  · exact ⟨xs, ys, xs[i]'(by omega), ys[i]'(by omega), h.1, h.2, List.getElem?_eq_getElem _, List.getElem?_eq_getElem _⟩
  · exact ⟨xs, ys, h.1, h.2, by omega⟩
  · obtain ⟨T, u, w, e1, n1, e2, f1, f2⟩ := y
    exact ⟨T, u, w, e1, n1, e2, f1 _ h.1, f2 _ h.2⟩
section
variable {X : Cx} {cl : Cls} {E : XK}
def iZipM (fs : List Ex) : Ix := fun ev => (argsS fs ev).bind fun ds e1 => match ds with
  | [.tup xs, .lst ys] => .ok (zipD xs ys) e1
  | _ => .stuck
theorem di_zipM {e e2 : Expr} {fs : List Ex} {p pos tpos : Pos} {elts : List Expr} {kk : Nat} (hg : Gl X "zip") (hm : X.mg "zip" = none) (ha : DAs X cl E [e, e2] fs)
    (pi : ∀ ta, PA X [e, e2] ta → PI X (.Tuple elts kk tpos) (.Call (.Name "zip" p) [e, e2] [] pos) (iZipMA X.K ta)) : DI X cl E (.Tuple elts kk tpos) (.Call (.Name "zip" p) [e, e2] [] pos) (iZipM fs) := by
  obtain ⟨t, pa, ha⟩ := ha
  refine ⟨_, pi _ pa, fun F H σ ev fp R d m => ha F H σ ev fp _ d ?_⟩
  unfold iZipM at m
  cases e : argsS fs ev with
  | stuck => rw [e] at m; exact m
  | exc k => rw [e] at m; exact m
  | ok ds e1 =>
    rw [e] at m
    simp only [Out.bind_ok] at m
    intro F1 H1 fp1 vs x1 d1 rs
    split at m
    · rename_i xs ys
      cases rs with
      | cons r t =>
      cases t with
      | cons r' t =>
      cases t
      cases r with
      | tup q r =>
      cases r' with
      | lst q' r' =>
      exact ⟨_, _, _, _, rfl, Sub.seqT d1.sub q, Sub.seqL d1.sub q', m F1 H1 fp1 _ x1 d1 (pair_rp r r' (walk_zm rfl) fun F2 H2 fp2 ev s => ⟨Sub.seqT s (Sub.seqT (fun _ _ => ev.grow.rd) q), Sub.seqL s (Sub.seqL (fun _ _ => ev.grow.rd) q')⟩)⟩
    · exact m.elim
end
end GW

set_option Elab.async false
set_option linter.all false
set_option maxRecDepth 100000
set_option maxHeartbeats 2000000
namespace GW
open PySem PySem.Spec PyProof.Rows L2 HotX
section
variable {prog : Program} {w : World} {A : Around} {E : Value → Shared → Prop} {s : Shared}
/-- a list's iterator is at its end, while an exception is handled -/
theorem list_end_hot {it l x1 : Addr} {i : Nat} {items : Array Value} {Q : Option Value → Shared → Prop} (hot : HotAt A x1 s.heap) (hit : s.heap.IsListIter it l i) (hl : s.heap.IsList l items) (hx : items[i]? = none)
    (hQ : ∀ h', Heap.ExtBut it s.heap h' → Q none { s with heap := h' }) : wpAny (model prog w) A (pyNext (.ref it)) Q E s := by
  obtain ⟨o, ho, hc, hd⟩ := id hit
  obtain ⟨ol, hol, _, nl, hdl⟩ := hl
  obtain ⟨hh, o1, vs1, h1, d1, c1⟩ := hot
  have ne : it ≠ x1 := fun z => by
    rw [z, h1] at ho
    cases ho
    rw [d1] at hd
    cases hd
    simp at c1
  unfold pyNext
  refine wpAny_bind (wpAny_attempt (wpAny_callSpecial?_slot (name := Str.ofString "__next__") hit.typeIs slot_listiter_next (wpAny_call_entry slot_listiter_next hit.typeIs entry_listiter_next ?_ (args_listiter_next _))))
  show wpAny _ _ (field (.ref it) 0 >>= _) _ _ s
  refine wpAny_bind (wpAny_field ho hd (x := .ref l) rfl ?_)
  show wpAny _ _ (if (Value.ref l == Value.none) = true then _ else _) _ _ s
  rw [if_neg (show ¬ ((Value.ref l == Value.none) = true) from Bool.false_ne_true)]
  show wpAny _ _ (field (.ref it) 1 >>= _) _ _ s
  refine wpAny_bind (wpAny_field ho hd (x := .int i 0) rfl ?_)
  show wpAny _ _ (seqItems? (.ref l) >>= _) _ _ s
  refine wpAny_bind (wpAny_seqItems hol hdl ?_)
  simp only [Int.toNat_natCast, hx]
  refine wpAny_bind (wpAny_rule (wpAny_bind (wpAny_setField ho hd (by simp) ?_)))
  show wpAny _ _ (newExc (.type "StopIteration") [] >>= _) _ _ _
  refine wpAny_bind ?_
  simp only [newExc, newTuple]
  refine wpAny_bind (wpAny_newObj_type ?_ (by size_fits))
  refine wpAny_bind (m := firstArgMember _ _) (wpAny_of_eq (a := Value.none) (by first | rfl | (simp only [firstArgMember]; rfl)) ?_)
  refine wpAny_newObj_type ?_ (by size_fits)
  have g1 := (Heap.get?_update_other s.heap (Obj.mapFields (·.setIfInBounds 0 Value.none)) ne).trans h1
  refine raiseNew_hot ⟨hh, o1, vs1, Heap.get?_push_of_some _ (Heap.get?_push_of_some _ g1), d1, c1⟩ (Nat.ne_of_lt (Heap.lt_size (Heap.get?_push_of_some _ g1))) (Heap.get?_push_size _ rfl) rfl (by first | (simp; done) | (simp; omega) | (simp only [Array.size_append]; simp; omega)) ?_
  refine wpAny_bind (wpAny_isInstance (T := "StopIteration") (b := true) ⟨_, Heap.get?_update_self _ (Heap.get?_push_size _ rfl) rfl, rfl⟩ isSubtype_stop ?_)
  refine wpAny_pure (hQ _ fun b u hb e => ?_)
  have e0 := (Heap.get?_update_other s.heap (Obj.mapFields (·.setIfInBounds 0 Value.none)) (Ne.symm hb)).trans e
  rw [Heap.get?_update_other _ _ (Nat.ne_of_gt (Heap.lt_size (Heap.get?_push_of_some _ e0)))]
  exact Heap.get?_push_of_some _ (Heap.get?_push_of_some _ e0)
/-- a tuple's iterator -/
theorem tuple_end_hot {it t x1 : Addr} {i : Nat} {items : Array Value} {Q : Option Value → Shared → Prop} (hot : HotAt A x1 s.heap) (hit : IsTupIter s.heap it t i) (ht : IsTup s.heap t items) (hx : items[i]? = none)
    (hQ : ∀ h', Heap.ExtBut it s.heap h' → Q none { s with heap := h' }) : wpAny (model prog w) A (pyNext (.ref it)) Q E s := by
  obtain ⟨o, ho, hc, hd⟩ := id hit
  obtain ⟨ol, hol, _, nl, hdl⟩ := ht
  obtain ⟨hh, o1, vs1, h1, d1, c1⟩ := hot
  have ne : it ≠ x1 := fun z => by
    rw [z, h1] at ho
    cases ho
    rw [d1] at hd
    cases hd
    simp at c1
  unfold pyNext
  refine wpAny_bind (wpAny_attempt (wpAny_callSpecial?_slot (name := Str.ofString "__next__") hit.typeIs slot_tupleiter_next (wpAny_call_entry slot_tupleiter_next hit.typeIs entry_tupleiter_next ?_ (args_tupleiter_next _))))
  show wpAny _ _ (field (.ref it) 0 >>= _) _ _ s
  refine wpAny_bind (wpAny_field ho hd (x := .ref t) rfl ?_)
  show wpAny _ _ (if (Value.ref t == Value.none) = true then _ else _) _ _ s
  rw [if_neg (show ¬ ((Value.ref t == Value.none) = true) from Bool.false_ne_true)]
  show wpAny _ _ (field (.ref it) 1 >>= _) _ _ s
  refine wpAny_bind (wpAny_field ho hd (x := .int i 0) rfl ?_)
  show wpAny _ _ (seqItems? (.ref t) >>= _) _ _ s
  refine wpAny_bind (wpAny_seqItems hol hdl ?_)
  simp only [Int.toNat_natCast, hx]
  refine wpAny_bind (wpAny_rule (wpAny_bind (wpAny_setField ho hd (by simp) ?_)))
  show wpAny _ _ (newExc (.type "StopIteration") [] >>= _) _ _ _
  refine wpAny_bind ?_
  simp only [newExc, newTuple]
  refine wpAny_bind (wpAny_newObj_type ?_ (by size_fits))
  refine wpAny_bind (m := firstArgMember _ _) (wpAny_of_eq (a := Value.none) (by first | rfl | (simp only [firstArgMember]; rfl)) ?_)
  refine wpAny_newObj_type ?_ (by size_fits)
  have g1 := (Heap.get?_update_other s.heap (Obj.mapFields (·.setIfInBounds 0 Value.none)) ne).trans h1
  refine raiseNew_hot ⟨hh, o1, vs1, Heap.get?_push_of_some _ (Heap.get?_push_of_some _ g1), d1, c1⟩ (Nat.ne_of_lt (Heap.lt_size (Heap.get?_push_of_some _ g1))) (Heap.get?_push_size _ rfl) rfl (by first | (simp; done) | (simp; omega) | (simp only [Array.size_append]; simp; omega)) ?_
  refine wpAny_bind (wpAny_isInstance (T := "StopIteration") (b := true) ⟨_, Heap.get?_update_self _ (Heap.get?_push_size _ rfl) rfl, rfl⟩ isSubtype_stop ?_)
  refine wpAny_pure (hQ _ fun b u hb e => ?_)
  have e0 := (Heap.get?_update_other s.heap (Obj.mapFields (·.setIfInBounds 0 Value.none)) (Ne.symm hb)).trans e
  rw [Heap.get?_update_other _ _ (Nat.ne_of_gt (Heap.lt_size (Heap.get?_push_of_some _ e0)))]
  exact Heap.get?_push_of_some _ (Heap.get?_push_of_some _ e0)
theorem hotKeep {x1 : Addr} {h h' : Heap} (hot : HotAt A x1 h) (k : ∀ o, h.get? x1 = some o → h'.get? x1 = some o) : HotAt A x1 h' := by
  obtain ⟨hh, o1, vs1, h1, d1, c1⟩ := hot
  exact ⟨hh, o1, vs1, k _ h1, d1, c1⟩
/-- a, b, .. = a tuple, while an exception is handled -/
theorem assign_tup_hot {env : Env} {elts : List Expr} {k} {pos : Pos} {t x1 : Addr} {items : Array Value} {Q : Unit → Shared → Prop} (hot : HotAt A x1 s.heap) (ht : IsTup s.heap t items) (hn : (assignEach elts env).length = items.size) (hstar : (assignEach elts env).findIdx? (·.1) = none)
    (h : ∀ h', Heap.ExtBut s.heap.objs.size s.heap h' → wpAny (model prog w) A (assignInOrder ((assignEach elts env).map (·.2)) items.toList) Q E { s with heap := h' }) : wpAny (model prog w) A (assign (.Tuple elts k pos) env (.ref t)) Q E s := by
  have lt : t ≠ s.heap.objs.size := by
    obtain ⟨o, ho, _⟩ := ht
    exact Nat.ne_of_lt (Heap.lt_size ho)
  have xlt : x1 ≠ s.heap.objs.size := by
    obtain ⟨_, o, _, ho, _⟩ := hot
    exact Nat.ne_of_lt (Heap.lt_size ho)
  have core : wpAny (model prog w) A (unpackItems (.ref t) items.size none) (fun us s' => us = items.toList ∧ ∃ h', Heap.ExtBut s.heap.objs.size s.heap h' ∧ s' = { s with heap := h' }) E s := by
    unfold unpackItems notIterableAtAll
    refine wpAny_bind (wpAny_bind (wpAny_specialOf ht.typeIs slot_tuple_iter.lookup (wpAny_pure ?_)))
    simp only [Bool.false_eq_true, if_false]
    refine wpAny_bind (wpAny_holding (iter_tuple ht ?_))
    refine wpAny_bind (wpAny_holding (draw_tuple lt items.size 0 _ _ ⟨_, Heap.get?_push_size _ rfl, rfl, rfl⟩ (ht.push _) (by omega) fun h1 it1 sb => ?_))
    rw [show List.take items.size (List.drop 0 items.toList) = items.toList by rw [List.drop_zero]; exact List.take_of_length_le (by simp), if_neg (by simp)]
    refine wpAny_bind (wpAny_holding (tuple_end_hot (hotKeep hot fun o e => sb.extBut _ _ xlt (Heap.get?_push_of_some _ e)) it1 ((ht.push _).extBut sb.extBut lt) (by simp) fun h2 ex => ?_))
    simp only [Option.isSome_none, Bool.false_eq_true, if_false]
    exact wpAny_pure ⟨rfl, h2, fun b o hb e => ex b o hb (sb.extBut b o hb (Heap.get?_push_of_some _ e)), rfl⟩
  rw [assign_Tuple]
  refine wpAny_bind (wpAny_standAt ?_)
  unfold unpack
  rw [hn, hstar]
  refine wpAny_bind (wpAny_holding (wpAny_mono core (fun us s' hq => ?_) fun _ _ z => z))
  obtain ⟨rfl, h', ex, rfl⟩ := hq
  exact h h' ex
end
end GW

set_option Elab.async false
set_option linter.all false
set_option maxRecDepth 100000
set_option maxHeartbeats 2000000
namespace GW
open PySem PySem.Spec PyProof.Rows L2 HotX
/-- an exception is handled, and it stands untouched in every state of this context -/
structure HotW (X : Cx) (x1 : Addr) (oe : Obj) : Prop where
  hd : X.A.handled = some (.ref x1)
  ctx : ∃ vs : Array Value, oe.data = .fields vs ∧ vs[2]? = some .none
  at_ : ∀ {pins : List (Addr × Obj)} {σ : L2.St} {H : Hp} {s : Shared}, Inv X pins σ H s → s.heap.get? x1 = some oe ∧ H x1 = none ∧ x1 ∉ frs X.stack
theorem HotW.hot {X : Cx} {x1 : Addr} {oe : Obj} (w : HotW X x1 oe) {pins : List (Addr × Obj)} {σ : L2.St} {H : Hp} {s : Shared} (I : Inv X pins σ H s) : HotAt X.A x1 s.heap := by
  obtain ⟨vs, h1, h2⟩ := w.ctx
  exact ⟨w.hd, oe, vs, (w.at_ I).1, h1, h2⟩
theorem HotW.blk {X : Cx} {x1 : Addr} {oe : Obj} (w : HotW X x1 oe) {s : Shared} {H : Hp} {scope : Scope} {ce : Env} {fp : List Addr} (e : s.heap.get? x1 = some oe) (n : H x1 = none) (ns : x1 ∉ frs X.stack) (nf : x1 ∉ fp) : HotW (X.blk s H scope ce fp) x1 oe :=
  ⟨w.hd, w.ctx, fun I => ⟨I.base.keep x1 oe e n ns nf, I.base.free x1 oe e n nf, ns⟩⟩
/-- a, b = a tuple -/
theorem pg_tupH {X : Cx} {x1 : Addr} {oe : Obj} (hw : HotW X x1 oe) {es : List Expr} {k : Nat} {t : TGs} {n : Nat} {pos : Pos} (h : PGs X es t) (hn : (assignEach es X.env).length = n := by rfl) (hst : (assignEach es X.env).findIdx? (·.1) = none := by rfl) :
    PG X (.Tuple es k pos) (gTup X.K n t) := ⟨fun pins s σ H v u Q I r ⟨a, xs, e1, hq, hl, q⟩ => by
  subst e1
  cases r
  obtain ⟨its, rv, ht, hz⟩ := I.tuple hq
  refine assign_tup_hot (hw.hot I) ht (by simp [hn, ← hl, rv.length]) hst fun h' hx => ?_
  exact h.run pins _ σ H xs _ Q (I.kept (t' := s.toks) fun b o e => hx b o (Nat.ne_of_lt (Heap.lt_size e)) e) (by simpa using rv) q⟩
/-- [elt for tg in iter if ..] over a list, while an exception is handled -/
theorem pe_lcH {X : Cx} {x1 : Addr} {oe : Obj} (hw : HotW X x1 oe) {elt tg iter : Expr} {ifs : List Expr} {scope : Scope} {own : List (Str × Nat)} {pos : Pos} {tl te : TE} {g : TG} {tt : TT} (hN : X.N.Nodup) (hl : PE X iter tl) (ok : BlkOk X.N X.env.scope scope own)
    (hg : ∀ (s : Shared) (H : Hp) (C : Addr) (cl : List (Str × Addr)) (fp : List Addr), HotW (X.blk s H scope (compEnvC scope cl C X.env) fp) x1 oe → PG (X.blk s H scope (compEnvC scope cl C X.env) fp) tg g)
    (ht : ∀ (s : Shared) (H : Hp) (C : Addr) (cl : List (Str × Addr)) (fp : List Addr), PTs (X.blk s H scope (compEnvC scope cl C X.env) fp) ifs tt)
    (he : ∀ (s : Shared) (H : Hp) (C : Addr) (cl : List (Str × Addr)) (fp : List Addr), PE (X.blk s H scope (compEnvC scope cl C X.env) fp) elt te) (hs : ∀ x, foldedSetIterable iter X.env x = pure x := by intro _; rfl) :
    PE X (.ListComp elt [⟨tg, iter, ifs, 0⟩] scope pos) (tLc (iList X.K tl) g tt te (own.map (·.2))) := by
  refine ⟨fun pins s σ H Q I h => ?_⟩
  rw [eval_ListComp]
  have hfree : ∀ y ∈ scope.names, y.2 = .free → ∃ c, X.env.cells.lookup y.1 = some c := fun y hy e => (ok.free y hy e).elim (fun k => I.ok.has _ (.inl k)) fun k => I.ok.has _ (.inr k)
  refine wpAny_comprehension_free rfl hs (closure_ok hfree) ok.kind (fun y hy e => by rw [ok.uniq y hy, e]) (thn (hl.run pins s σ H _ I h) fun xv s1 ⟨v0, H1, I1, r1, l, hv0, ⟨xs0, hq0⟩, q⟩ => ?_)
  subst hv0
  cases r1
  obtain ⟨its0, rv0, p0, hz0⟩ := I1.list hq0
  refine wpAny_pyIter_list p0.isList ?_
  generalize hit : s1.heap.objs.size = it
  generalize hs2 : ({ s1 with heap := s1.heap.push { cls := .type "list_iterator", data := .fields #[.ref l, .int 0 0] } } : Shared) = s2
  have st2 : s2.heap.IsListIter it l 0 := by rw [← hs2, ← hit]; exact ⟨_, Heap.get?_push_size _ rfl, rfl, rfl⟩
  have I2 : Inv X pins σ H1 s2 := by rw [← hs2]; exact I1.kept (t' := s1.toks) fun b o e => Heap.get?_push_of_some _ e
  have f2 : FpOk X pins H1 it := I1.fpOk (Nat.le_of_eq hit) (I1.hok.fresh (Nat.le_of_eq hit))
  have itlt : it < s2.heap.objs.size := by obtain ⟨o, e, _⟩ := st2; exact Heap.lt_size e
  have nx : x1 ≠ it := fun z => by
    have q := Heap.lt_size (hw.at_ I1).1
    rw [z, ← hit] at q
    exact absurd q (Nat.lt_irrefl _)
  refine wpAny_newObj_type (newEnv_comp ?_) (by show 0 ≤ sizeLine; decide)
  generalize hD : s2.heap.objs.size = D
  have hDn : H1 D = none := I2.hok.fresh (Nat.le_of_eq hD)
  obtain ⟨W, ⟨m0, w0⟩, turn⟩ := q D hDn
  generalize hs3 : ({ s2 with heap := s2.heap.push { cls := .type "list", data := .seq ([] : List Value).toArray } } : Shared) = s3
  have I3 : Inv X pins σ (upd H1 D (.lst [])) s3 := by
    rw [← hs3]
    refine I2.laid (t' := s2.toks) (fun b o e => Heap.get?_push_of_some _ e) (Nat.le_of_eq hD) ⟨Nat.zero_le _, [], 0, .nil, ?_⟩
    rw [← hD]
    exact Heap.get?_push_size _ rfl
  have g3 : ∀ b o, s2.heap.get? b = some o → s3.heap.get? b = some o := fun b o e => by rw [← hs3]; exact Heap.get?_push_of_some _ e
  have st3 : s3.heap.IsListIter it l 0 := st2.at fun o e => g3 it o e
  have itD : it ≠ D := Nat.ne_of_lt (by rw [← hD]; exact itlt)
  have f3 : FpOk X pins (upd H1 D (.lst [])) it := ⟨by rw [upd_ne itD]; exact f2.1, f2.2⟩
  have lt3 : it < s3.heap.objs.size := by obtain ⟨o, e, _⟩ := st3; exact Heap.lt_size e
  have hx3 := hw.at_ I3
  have nC : ∀ {ce : Env}, HotW (X.blk s3 (upd H1 D (.lst [])) scope ce [it]) x1 oe := fun {ce} => hw.blk hx3.1 hx3.2.1 hx3.2.2 (by simpa using nx)
  have I4 := block_start (fp := [it]) I3 ok hN fun b hb => by
    have e : b = it := by simpa using hb
    subst e
    exact ⟨f3, lt3⟩
  have pg := hg s3 (upd H1 D (.lst [])) s3.heap.objs.size (cellsFrom (s3.heap.objs.size + 1) scope.names (cloFrom X.env.cells scope.names [])) [it] nC
  have pt := ht s3 (upd H1 D (.lst [])) s3.heap.objs.size (cellsFrom (s3.heap.objs.size + 1) scope.names (cloFrom X.env.cells scope.names [])) [it]
  have pe := he s3 (upd H1 D (.lst [])) s3.heap.objs.size (cellsFrom (s3.heap.objs.size + 1) scope.names (cloFrom X.env.cells scope.names [])) [it]
  generalize hH3 : upd H1 D (.lst []) = H3 at I3 f3 hx3 nC w0 I4 pg pt pe
  have pw := nC (ce := compEnvC scope (cellsFrom (s3.heap.objs.size + 1) scope.names (cloFrom X.env.cells scope.names [])) s3.heap.objs.size X.env)
  generalize hce : compEnvC scope (cellsFrom (s3.heap.objs.size + 1) scope.names (cloFrom X.env.cells scope.names [])) s3.heap.objs.size X.env = ce at I4 pg pt pe pw
  show codeAny _ _ (.compStart (.ListComp elt [⟨tg, iter, ifs, 0⟩] scope pos) 0 (.ref it) (.ref D) (compEnvC scope (cellsFrom (s3.heap.objs.size + 1) scope.names (cloFrom X.env.cells scope.names [])) s3.heap.objs.size X.env)) (compPost (model X.prog X.w) X.A X.xe none _ (.ref D) s3.heap.objs.size) { s3 with heap := pushCells (s3.heap.push { cls := .type "dict", data := .dict #[] }) scope.names }
  rw [hce]
  have cL : ce.locals = s3.heap.objs.size := by rw [← hce]; rfl
  generalize hs4 : ({ s3 with heap := pushCells (s3.heap.push { cls := .type "dict", data := .dict #[] }) scope.names } : Shared) = s4 at I4 ⊢
  have st4 : s4.heap.IsListIter it l 0 := st3.at fun o e => by rw [← hs4]; exact pushCells_keeps _ _ _ _ (Heap.get?_push_of_some _ e)
  have yst : ∀ {σ' : L2.St} {H' : Hp} {s' : Shared}, Inv (X.blk s3 H3 scope ce [it]) [] σ' H' s' → H' it = none → FpOk (X.blk s3 H3 scope ce [it]) [] H' it := fun {σ' H' s'} I' hn =>
    ⟨hn, (I'.ok.exf it (by simp)).1, I'.ok.exfs it (by simp), .inl (by simp), fun x c e => (I'.ok.exf it (by simp)).2 x c e, fun p hp => absurd (show p ∈ ([] : List (Addr × Obj)) ++ [] from hp) (by simp)⟩
  have back : ∀ {σ' : L2.St} {H' : Hp} {s' : Shared}, Inv (X.blk s3 H3 scope ce [it]) [] σ' H' s' → Inv X pins σ H' s' ∧ H' s3.heap.objs.size = none ∧ ∃ m, s'.heap.Ns s3.heap.objs.size m := fun {σ' H' s'} I' => by
    refine ⟨I3.call' (ch := [it]) I'.os I'.base I'.hok I'.bare fun b hb => ?_, ?_, ?_⟩
    · have e : b = it := by simpa using hb
      subst e
      exact ⟨f3.2.2.2.1, f3.2.1, f3.2.2.2.2.1, f3.2.2.2.2.2⟩
    · have z : H' ce.locals = none := I'.free
      rw [cL] at z
      exact z
    · obtain ⟨m, hn, _⟩ := I'.loc
      have hn : s'.heap.Ns ce.locals m := hn
      rw [cL] at hn
      exact ⟨m, hn⟩
  have loop : codeAny (model X.prog X.w) X.A (.compLoop (.ListComp elt [⟨tg, iter, ifs, 0⟩] scope pos) 0 (.ref it) (.ref D) ce) (compPost (model X.prog X.w) X.A X.xe none (EP X pins σ Q) (.ref D) s3.heap.objs.size) s4 := by
    refine compLoop_any (fun n s' => ∃ i H', Inv (X.blk s3 H3 scope ce [it]) [] (wipe σ (own.map (·.2))) H' s' ∧ s'.heap.IsListIter it l i ∧ H' it = none ∧ W i n H') ?_ m0 ⟨0, H3, I4, st4, f3.1, w0⟩
    rintro n s5 ⟨i, H5, I5, st5, n5, w5⟩
    obtain ⟨y0, y1, y2, y3, y4, y5⟩ := yst I5 n5
    rcases turn i n H5 w5 with ⟨⟨xs, hq, hx⟩, qq⟩ | ⟨⟨xs, x, hq, hx⟩, Nx, hNx, step⟩
    · obtain ⟨its, rv, p, hz⟩ := I5.list hq
      have hl := rv.length
      refine list_end_hot (pw.hot I5) st5 p.isList (by simp; omega) fun h6 ex => ?_
      obtain ⟨I7, nC, m, hn⟩ := back (I5.turned (t' := s5.toks) (fun b o hb e => ex b o hb e) y0 y1 y3 y4 y5)
      obtain ⟨f0, f1, f2, f3, f4, f5⟩ := I3.fpOk (Nat.le_refl _) nC
      exact ⟨m, hn, fun h7 sb => ⟨.ref D, H5, I7.turned (t' := s5.toks) (fun b o hb e => (sb.2 b hb).trans e) f0 f1 f3 f4 f5, rfl, qq⟩⟩
    · obtain ⟨its, rv, p, hz⟩ := I5.list hq
      obtain ⟨u, hu, ru⟩ := rv.get hx
      refine wpAny_pyNext_list_item st5 p.isList (x := u) (by simpa using hu) fun h6 st6 sb => ?_
      have I6 := I5.turned (h' := h6) (t' := s5.toks) (fun b o hb e => (sb.2 b hb).trans e) y0 y1 y3 y4 y5
      obtain ⟨o6, e6, c6, d6⟩ := id st6
      have I7 : Inv (X.blk s3 H3 scope ce [it]) [(it, o6)] (wipe σ (own.map (·.2))) H5 { s5 with heap := h6 } := I6.pins_of fun p hp => by
        have e : p = (it, o6) := by simpa using hp
        subst e
        exact ⟨e6, y0, y1, y2, fun v z => by rw [d6] at z; cases z⟩
      refine go_of (s := { s5 with heap := h6 }) e6 c6 d6 (by decide) ?_
      refine thnF (pg.run _ _ _ H5 x u _ I7 ru (step x H5 ⟨rfl, fun ys hy => by rw [I5.list_inj hy hq]; exact hx⟩)) fun _ s8 ⟨σ8, H8, I8, hw8, q8⟩ => ?_
      refine thnF (pt.run _ s8 σ8 H8 _ I8 q8) fun b s9 ⟨H9, I9, q9⟩ => ?_
      have fin : ∀ {s' : Shared} {H' : Hp}, Inv (X.blk s3 H3 scope ce [it]) [(it, o6)] σ8 H' s' → Nx H' → ∃ m, m < n ∧ ∃ i H', Inv (X.blk s3 H3 scope ce [it]) [] (wipe σ (own.map (·.2))) H' s' ∧ s'.heap.IsListIter it l i ∧ H' it = none ∧ W i m H' := fun {s' H'} I' nx => by
        obtain ⟨m', hm, w'⟩ := hNx H' nx
        have z := I'.pin (it, o6) (List.mem_append_right _ (List.mem_singleton.mpr rfl))
        refine ⟨m', hm, i + 1, H', (I'.pins_of (pins' := []) fun p hp => by cases hp).weak (by rw [← hw8, wipe_length]) (fun j v e => ?_), ⟨o6, z.1, c6, d6⟩, z.2.1, w'⟩
        rw [← hw8] at e
        exact (wipe_some e).1
      cases b with
      | false => exact fin I9 q9
      | true =>
        refine thnF (pe.run _ s9 σ8 H9 _ I9 q9) fun z s10 ⟨yv, H10, I10, r10, acc, hD10, hz10, nx⟩ => ?_
        exact app_ok (X := X.blk s3 H3 scope ce [it]) I10 hD10 hz10 r10 fun s11 I11 => fin I11 nx
  exact codeAny_compStart_list loop (wpAny_pyIter_listiter st4 loop)
end GW

set_option Elab.async false
set_option linter.all false
set_option maxRecDepth 100000
set_option maxHeartbeats 1000000
namespace GW
open PySem PySem.Spec PyProof.Rows L2

/-! ### raise -/
def sRaise (k : Nat) : Sx := fun _ => .exc k
/-- the k-th class of errors: an own one over ValueError -/
structure ClsOk (K : PySem.W.Frag) (mg : Str → Option Value) (cl : Cls) (k : Nat) (x : Str) (C : Addr) : Prop where
  gC : mg x = some (.ref C)
  eq : cl k = .ref C
  xP : PySem.W.excIn K C [.type "ValueError", .type "Exception", .type "BaseException", .type "object"] "ValueError.__new__" = true
  kP : PySem.W.keepIn K (.ref C) = true
  bP : PySem.W.subIn K (.ref C) (.type "BaseException") = some true
  tP : PySem.W.typeIn K (.ref C) = some (.type "type")
section
variable {X : Cx} {cl : Cls} {E : XK} {W : List Nat} {lv : Nat}
theorem ds_raise {k : Nat} {x m : Str} {C : Addr} {j : Nat} {p p2 pos pos' : Pos} (o : ClsOk X.K X.mg cl k x C) (c : Cxt X E lv) (hg : Gl X x) (hdb : (x == ("__debug__" : Str)) = false := by decide) :
    DSt X cl E W (.Raise (some (.Call (.Name x p) [.Constant (.str m) j p2] [] pos)) none pos') (sRaise k) := by
  refine ⟨_, L2N.ps_raise c.calm c.tk (L2N.pmk_own PySem.F.excBase_ValueError o.xP o.gC o.kP (raises_own o.bP o.tP) hg hdb), fun F H σ ev fp D d m => ?_⟩
  have q : E (cl k) none H := m H fun b u e _ => e
  rw [o.eq] at q
  exact q
end

/-! ### readings of a block of statements by what is meant -/
def canS (K : PySem.W.Frag) (cl : Cls) (E : XK) (W : List Nat) (s : Sx) : TS := fun D σ H => ∃ F ev fp, DS K F H σ ev fp ∧ MeetS K cl E W σ F H fp D (s ev)
theorem DSs.can {X : Cx} {cl : Cls} {E : XK} {W : List Nat} {l : List Stmt} {s : Sx} (h : DSs X cl E W l s) : PSs X l (canS X.K cl E W s) := by
  obtain ⟨t, p, h⟩ := h
  exact ⟨fun pins s σ H D I ⟨F, ev, fp, d, m⟩ => p.run pins s σ H D I (h F H σ ev fp D d m)⟩

/-! ### isinstance of the error that is handled -/
def eIsE (i : Nat) (a : Addr) (b : Bool) : Ex := fun ev => match ev[i]? with
  | some (.dat (.fn a')) => if a' = a then .ok (.dat (.bl b)) ev else .stuck
  | _ => .stuck
section
variable {X : Cx} {a D : Addr} {oe : Obj} {pn : List (Addr × Obj)} {cl : Cls} {E : XK} {W : List Nat}
theorem de_isE (C : ExcC X.K D) (hz : Zc (.ref D) none oe) (hf : ∃ vs, oe.data = .fields vs) {i : Nat} {x : Str} {p1 p pos : Pos} {ce : Expr} {c : V} {cv : Value} {b : Bool} (hc : PE (X.suite a ((a, oe) :: pn)) ce (tC c)) (hcv : ∀ u, RelV c u → u = cv) (hk : PySem.W.kitOne X.K (.ref D) cv = some b)
    (hg : Gl X "isinstance") (hm : X.mg "isinstance" = none) (hN : X.N[i]? = some x := by rfl) (hv : Vis X.env.scope x := by first | exact Or.inl rfl | exact Or.inr (Or.inl rfl) | exact Or.inr (Or.inr rfl)) (hd : (x == ("__debug__" : Str)) = false := by decide) (hcd : (x == ("__classdict__" : Str)) = false := by decide)
    (he : starEach [.Name x p1, ce] X.env = (false, eval (.Name x p1) X.env) :: starEach [ce] X.env := by rfl) (hpl : (backTo pos (starEach [ce] X.env)).any (·.1) = false := by rfl) (hs2 : starEach [ce] X.env = (false, eval ce X.env) :: starEach [] X.env := by rfl) :
    DE (X.suite a ((a, oe) :: pn)) cl E (.Call (.Name "isinstance" p) [.Name x p1, ce] [] pos) (eIsE i a b) := by
  refine ⟨_, pe_callB (call_isE C hz hf) hg hm boot_isinstance (pa_cons (pe_var (i := i) hN hv hd hcd) (pa_cons hc pa_nil hs2)) (by decide) (by decide) he hpl, fun F H σ ev fp Q d m => ?_⟩
  unfold eIsE at m
  split at m
  · rename_i a' e
    obtain ⟨v, q, r⟩ := d.sr.getDat e
    cases r
    split at m
    · rename_i ea
      subst ea
      exact ⟨_, q, c, cv, b, rfl, hcv, hk, m F H fp _ [] (Evo.refl _ _ _) d (.dat (.bl b)) d.nd⟩
    · exact m.elim
  · exact m.elim
end

/-! ### a list comprehension while an error is handled -/
/-- a list -/
def iLst (f : Ex) : Ix := fun ev => match f ev with
  | .ok r e0 => (match stoR r e0 with
    | .ok (.lst xs) e1 => .ok xs e1
    | _ => .stuck)
  | .exc k => .exc k
  | .stuck => .stuck
theorem lst_means {X : Cx} {cl : Cls} {E : XK} {e : Expr} {f : Ex} {t : TE} (h : Means X cl E t f) : ∀ F H σ ev fp R, DS X.K F H σ ev fp → MeetI X.K cl E σ F H fp R (iLst f ev) → iList X.K t σ H R := fun F H σ ev fp R d m => by
  unfold iLst at m
  have go : ∀ (k : V → Hp → Prop), (∀ r e0 dd e1, f ev = .ok r e0 → stoR r e0 = .ok dd e1 → ∀ F1 H1 fp1 v, Evo F H fp F1 H1 fp1 → DS X.K F1 H1 σ e1 fp1 → Rp X.K F1 v dd → k v H1) → t σ H k := fun k hk => by
    refine sto_step (cl := cl) (E := E) h d hk (fun k e => ?_) (fun e => ?_) (fun r e0 e => ?_)
    · rw [e] at m; exact m
    · rw [e] at m; exact m
    · rw [e] at m
      cases es : stoR r e0 with
      | stuck => simp only [es] at m; exact m.elim
      | exc k => exact absurd es stoR_exc
      | ok dd e1 => exact ⟨dd, e1, rfl⟩
  refine go _ fun r e0 dd e1 e es F1 H1 fp1 v x1 d1 rp => ?_
  rw [e] at m
  simp only [es] at m
  cases rp with
  | lst q rs => exact ⟨_, rfl, ⟨_, Sub.seqL d1.sub q⟩, m F1 H1 fp1 _ x1 d1 (walk_rp rs walk_list fun F2 H2 fp2 ev s => Sub.seqL s (Sub.seqL (fun _ _ => ev.grow.rd) q))⟩
  | _ => exact m.elim
section
variable {X : Cx} {cl : Cls} {E : XK} {W : List Nat} {x1 : Addr} {oe : Obj}
theorem dg_tupH (hw : HotW X x1 oe) {es : List Expr} {k n : Nat} {r : Bxs} {pos : Pos} (h : DGs X W es n r) (hn : (assignEach es X.env).length = n := by rfl) (hst : (assignEach es X.env).findIdx? (·.1) = none := by rfl) : DG X W (.Tuple es k pos) (bTup r) := by
  obtain ⟨t, p, hl, h⟩ := h
  refine ⟨_, pg_tupH hw p hn hst, fun F H σ ev fp v dd ev' Q d rp e hq => ?_⟩
  unfold bTup at e
  split at e
  · cases rp with
    | tup q rs => exact ⟨_, _, rfl, Sub.seqT d.sub q, by rw [rs.length]; exact hl _ _ _ e, h F H σ ev fp _ _ ev' Q d rs e hq⟩
  · cases e
theorem de_compH (hw : HotW X x1 oe) (nd : X.N.Nodup) {elt tg iter : Expr} {ifs : List Expr} {scope : Scope} {own : List (Str × Nat)} {pos : Pos} {f : Ex} {b : Bx} {fc : Tx} {fe : Ex} (hi : DE X cl E iter f) (ok : BlkOk X.N X.env.scope scope own)
    (hg : ∀ (s : Shared) (H : Hp) (C : Addr) (cls : List (Str × Addr)) (fp : List Addr), HotW (X.blk s H scope (compEnvC scope cls C X.env) fp) x1 oe → DG (X.blk s H scope (compEnvC scope cls C X.env) fp) (own.map (·.2)) tg b)
    (ht : ∀ (s : Shared) (H : Hp) (C : Addr) (cls : List (Str × Addr)) (fp : List Addr), DTs (X.blk s H scope (compEnvC scope cls C X.env) fp) cl E0 ifs fc)
    (he : ∀ (s : Shared) (H : Hp) (C : Addr) (cls : List (Str × Addr)) (fp : List Addr), DE (X.blk s H scope (compEnvC scope cls C X.env) fp) cl E0 elt fe) (hs : ∀ x, foldedSetIterable iter X.env x = pure x := by intro _; rfl) :
    DE X cl E (.ListComp elt [⟨tg, iter, ifs, 0⟩] scope pos) (eComp (iLst f) b fc fe (own.map (·.2))) := by
  obtain ⟨t, p, hi⟩ := hi
  refine ⟨_, pe_lcH hw nd p ok (g := canG X.K (own.map (·.2)) b) (tt := canT X.K cl E0 fc) (te := canE X.K cl E0 fe) (fun s H C cls fp h => (hg s H C cls fp h).can) (fun s H C cls fp => (ht s H C cls fp).can) (fun s H C cls fp => (he s H C cls fp).can) hs, ?_⟩
  exact comp_ok (lst_means (e := iter) hi) (fun F H σ ev fp v d ev' Q ds rp eb k => ⟨F, ev, fp, d, ev', ds, rp, eb, k⟩) (fun F H σ ev fp Q d m => ⟨F, ev, fp, d, m⟩) fun F H σ ev fp Q d m => ⟨F, ev, fp, d, m⟩
end
end GW

set_option Elab.async false
set_option linter.all false
set_option maxRecDepth 100000
set_option maxHeartbeats 1000000
namespace GW
open PySem PySem.Spec PyProof.Rows L2

/-! ### _law_error(call, a, b, c): which error does the call raise -/
def errNames : List Str := ["InvalidRule", "InvalidRow", "InvalidTime", "InvalidNumber", "InvalidOutcomes", "NothingToUndo"]
/-- the list that it gives back for the k-th class -/
def kindL (k : Nat) : List D := [.str (errNames.getD k ""), .bl true]
/-- what it gives back, g being the call -/
def errS (g : FS) : FS := fun args => match g args with
  | .ok (.bor _) _ => .stuck
  | .ok _ none => .ok (.tmp (.lst [])) none
  | .ok _ (some _) => .stuck
  | .exc k => if k < 6 then .ok (.tmp (.lst (kindL k))) none else .stuck
  | .stuck => .stuck
/-- the except suite, a being the error, of the k-th class -/
def suiteS (a : Addr) (k : Nat) : Sx :=
  sSeq (sSet 6 (eLst [eTup [eC (.str "InvalidRule"), eIsE 5 a (k == 0)], eTup [eC (.str "InvalidRow"), eIsE 5 a (k == 1)]]))
  (sSeq (sSet 6 (eBin dAdd (eV 6) (eLst [eTup [eC (.str "InvalidTime"), eIsE 5 a (k == 2)]])))
  (sSeq (sSet 6 (eBin dAdd (eV 6) (eLst [eTup [eC (.str "InvalidNumber"), eIsE 5 a (k == 3)]])))
  (sSeq (sApp 6 (eTup [eC (.str "InvalidOutcomes"), eIsE 5 a (k == 4)]))
  (sSeq (sApp 6 (eTup [eC (.str "NothingToUndo"), eIsE 5 a (k == 5)]))
  (sSet 4 (eBin dAdd (eComp (iLst (eV 6)) (bTup (bCons (bName 7) (bCons (bName 8) bNil))) (toB (eV 8)) (eV 7) [7, 8]) (eLst [eIsE 5 a true])))))))
def rowsL (k : Nat) : List D := [.tup [.str "InvalidRule", .bl (k == 0)], .tup [.str "InvalidRow", .bl (k == 1)], .tup [.str "InvalidTime", .bl (k == 2)], .tup [.str "InvalidNumber", .bl (k == 3)], .tup [.str "InvalidOutcomes", .bl (k == 4)], .tup [.str "NothingToUndo", .bl (k == 5)]]
/-- what the suite comes to -/
def SuiteEval : Prop := ∀ (f a : Addr) (x y z : D) (o : O) (k : Nat), k < 6 →
  suiteS a k [.dat (.fn f), .dat x, .dat y, .dat z, .own o, .dat (.fn a), .un, .un, .un] = .nx [.dat (.fn f), .dat x, .dat y, .dat z, .own (.lst (kindL k)), .dat (.fn a), .dat (.lst (rowsL k)), .un, .un]
def sTry (f : Addr) (g : FS) : Sx := fun ev => match ev with
  | [.dat (.fn f'), .dat x, .dat y, .dat z, .own o, .un, .un, .un, .un] => if f' = f then (match g [.dat x, .dat y, .dat z] with
    | .ok (.bor _) _ => .stuck
    | .ok _ none => .nx [.dat (.fn f'), .dat x, .dat y, .dat z, .own o, .un, .un, .un, .un]
    | .ok _ (some _) => .stuck
    | .exc k => if k < 6 then .nx [.dat (.fn f'), .dat x, .dat y, .dat z, .own (.lst (kindL k)), .un, .dat (.lst (rowsL k)), .un, .un] else .stuck
    | .stuck => .stuck) else .stuck
  | _ => .stuck
def b_err (f : Addr) (g : FS) : Sx := sSeq (sSet 4 (eLst [])) (sSeq (sTry f g) (sRet (eV 4)))
theorem b_err_eq {f : Addr} {g : FS} {x y z : D} : fnSem 9 false (b_err f g) [.dat (.fn f), .dat x, .dat y, .dat z] = errS g [.dat x, .dat y, .dat z] := by
  have e1 : fnSem 9 false (b_err f g) [.dat (.fn f), .dat x, .dat y, .dat z] = (match sSeq (sTry f g) (sRet (eV 4)) [.dat (.fn f), .dat x, .dat y, .dat z, .own (.lst []), .un, .un, .un, .un] with
    | .rt r ev => finish false r ev
    | .nx ev => finish false (.dat .non) ev
    | .exc k => .exc k
    | _ => .stuck) := rfl
  rw [e1]
  unfold errS sSeq sTry
  simp only [if_true]
  cases g [.dat x, .dat y, .dat z] with
  | stuck => rfl
  | exc k =>
    simp only
    by_cases c : k < 6
    · simp only [if_pos c]
      rfl
    · simp only [if_neg c]
  | ok r io =>
    cases r <;> cases io <;> rfl
/-- a call of a local name that holds a def; what may leave it depends on the slots -/
theorem pe_callLS {X : Cx} {CX : CXT} {k i : Nat} {f : Addr} {fd : FuncData} {ps : List Str} {sp : Sp} {E : L2.St → XK} {x : Str} {p pos : Pos} {e : Expr} {es : List Expr} {t : TA} (F : FnOk X.prog X.w X.K X.mg X.base CX k f fd ps sp) (hr : Room k X.A) (hN : X.N[i]? = some x) (hv : Vis X.env.scope x)
    (hk : PySem.W.keepIn X.K (.ref f) = true) (hb : Binds X.K fd ps []) (hx : ∀ σ, PassesAt CX X σ (E σ)) (ha : PA X (e :: es) t) (hdb : (x == ("__debug__" : Str)) = false := by decide) (hcd : (x == ("__classdict__" : Str)) = false := by decide)
    (he : starEach (e :: es) X.env = (false, eval e X.env) :: starEach es X.env := by rfl) (hpl : (backTo pos (starEach es X.env)).any (·.1) = false := by rfl) :
    PE X (.Call (.Name x p) (e :: es) [] pos) (fun σ H Q => σ[i]? = some (some (.ref f)) ∧ t σ H fun vs H1 => sp vs H1 Q (E σ)) := by
  refine ⟨fun pins s σ H Q I ⟨hs, ht⟩ => ?_⟩
  have ld := (pe_var (X := X) (pos := p) hN hv hdb hcd).run pins s σ H (fun v H1 => v = .ref f ∧ H1 = H) I ⟨.ref f, hs, rfl, rfl⟩
  refine wpAny_Call_Name_kw (thn ld fun u s1 hu => ?_)
  obtain ⟨v, H1, I1, r1, rfl, rfl⟩ := hu
  cases r1
  refine PySem.W.callWith_K (h₀ := X.base) I.ok.mod.kin hk (thn (ha.run pos pins s1 σ _ _ I1 ht) fun us s2 h2 => ?_) he hpl
  obtain ⟨vs, H2, I2, r, q⟩ := h2
  exact ⟨I2.kIn, run_fnS F hr hb (hx σ) I2 r q⟩
section
variable {X : Cx} {cl : Cls} {E : XK} {W : List Nat} {lv : Nat}
theorem ds_lawTry (c : Cxt X E lv) (hs : X.stack = X.env :: X.outer) (hf : X.env.frame = some X.env.locals) (hev : SuiteEval) {f Wt : Addr} {g : FS} {kf : Nat} {fd : FuncData} {ps : List Str} (Fn : FnOk X.prog X.w X.K X.mg X.base (L2N.CX X.prog X.w) kf f fd ps (spD X.K cl 3 g)) (hkp : PySem.W.keepIn X.K (.ref f) = true)
    (hb : Binds X.K fd ps []) (hk : kf ≤ lv) (hx : ∀ k, k < 6 → PySem.W.exmOne X.K (cl k) (.ref Wt) = some true) {x0 xa xb xc xe xw : Str} {p0 p1 p2 p3 p4 p5 p6 p7 p8 : Pos} {b₀ : Stmt} {suite : List Stmt}
    (hsu : ∀ (a : Addr) (oe : Obj) (pn : List (Addr × Obj)) (k : Nat), k < 6 → L2N.Zn (cl k) none oe → (∃ vs, oe.data = .fields vs) → DSs (X.suite a ((a, oe) :: pn)) cl E0 W (b₀ :: suite) (suiteS a k))
    (hw : Names X xw (.ref Wt)) (w4 : 4 ∈ W) (w5 : 5 ∈ W) (w6 : 6 ∈ W)
    (h0 : X.N[(0 : Nat)]? = some x0) (ha : X.N[(1 : Nat)]? = some xa) (hb' : X.N[(2 : Nat)]? = some xb) (hc : X.N[(3 : Nat)]? = some xc) (he : X.N[(5 : Nat)]? = some xe)
    (v0 : Vis X.env.scope x0) (va : Vis X.env.scope xa) (vb : Vis X.env.scope xb) (vc : Vis X.env.scope xc) (ke : X.env.kindOf xe = some .local)
    (d0 : (x0 == ("__debug__" : Str)) = false) (da : (xa == ("__debug__" : Str)) = false) (db : (xb == ("__debug__" : Str)) = false) (dc : (xc == ("__debug__" : Str)) = false)
    (e0 : (x0 == ("__classdict__" : Str)) = false) (ea : (xa == ("__classdict__" : Str)) = false) (eb : (xb == ("__classdict__" : Str)) = false) (ec : (xc == ("__classdict__" : Str)) = false)
    (sw : swapsWith (.Call (.Name x0 p0) [.Name xa p1, .Name xb p2, .Name xc p3] [] p4) none p5.line X.env = pure false)
    (st : starEach [.Name xa p1, .Name xb p2, .Name xc p3] X.env = [(false, eval (.Name xa p1) X.env), (false, eval (.Name xb p2) X.env), (false, eval (.Name xc p3) X.env)]) (st2 : starEach [.Name xb p2, .Name xc p3] X.env = [(false, eval (.Name xb p2) X.env), (false, eval (.Name xc p3) X.env)]) (st3 : starEach [.Name xc p3] X.env = [(false, eval (.Name xc p3) X.env)])
    (hpl : (backTo p4 (starEach [.Name xb p2, .Name xc p3] X.env)).any (·.1) = false) :
    DSt X cl E W (.Try [.Expr (.Call (.Name x0 p0) [.Name xa p1, .Name xb p2, .Name xc p3] [] p4) p5] [.ExceptHandler (some (.Name xw p6)) (some xe) (b₀ :: suite) p7] [] [] p8) (sTry f g) := by
  have body : ∀ (W0 : WX) (pn : List (Addr × Obj)) (xx : Value → Shared → Prop), L2N.Takes (X.tr pn xx) W0 → PassesOwn (model X.prog X.w) X.A X.env xx → PSs (X.tr pn xx) [.Expr (.Call (.Name x0 p0) [.Name xa p1, .Name xb p2, .Name xc p3] [] p4) p5] _ :=
    fun W0 pn xx tk _ => pss_one (ps_expr (pe_callLS (X := X.tr pn xx) (i := 0) (E := WE W0) Fn (c.room.mono hk) h0 v0 hkp hb (fun σ => L2N.passAt tk σ) (pa_cons (pe_var (i := 1) ha va da ea) (pa_cons (pe_var (i := 2) hb' vb db eb) (pa_cons (pe_var (i := 3) hc vc dc ec) pa_nil st3) st2) st) d0 e0 (by rw [st, st2]) hpl) sw)
  refine ⟨_, L2N.ps_try_as (i := 5) hs hf c.nd he ke hw takesN body (ts := fun a cls d D σ H => ∃ k, k < 6 ∧ cls = cl k ∧ d = none ∧ canS X.K cl E0 W (suiteS a k) D σ H) (fun a oe cls d pn hz hff => ?_), ?_⟩
  · refine ⟨fun pins s σ H D I h => ?_⟩
    obtain ⟨k, hk6, rfl, rfl, h⟩ := h
    exact (hsu a oe pn k hk6 hz hff).can.run pins s σ H D I h
  · intro F H σ ev fp D d m
    unfold sTry at m
    split at m
    · rename_i f' x y z o
      split at m
      · rename_i ef
        subst ef
        have sr := d.sr
        obtain ⟨va', q1, rx⟩ := sr.getDat (i := 1) rfl
        obtain ⟨vb', q2, ry⟩ := sr.getDat (i := 2) rfl
        obtain ⟨vc', q3, rz⟩ := sr.getDat (i := 3) rfl
        obtain ⟨vf, q0, rf⟩ := sr.getDat (i := 0) rfl
        cases rf
        refine ⟨q0, va', q1, vb', q2, vc', q3, rfl, F, [.dat x, .dat y, .dat z], [], ⟨d.sub, .dat rx (.dat ry (.dat rz .nil)), .nil⟩, ?_⟩
        cases e : g [.dat x, .dat y, .dat z] with
        | stuck => rw [e] at m; exact m
        | ok r io =>
          cases io with
          | some o' =>
            rw [e] at m
            cases r <;> exact m.elim
          | none =>
            have done : ∀ F' H' v tp fp', Evo F H [] F' H' (tp ++ fp') → Sub F' H' → PV X.K F' H' v r tp → (tp ++ fp').Nodup → (∀ i, r ≠ .bor i) → D.nx σ H' := fun F' H' v tp fp' x1 s1 pv n1 nb => by
              rw [e] at m
              have m' : MeetS X.K cl E W σ F H fp D (.nx [.dat (.fn f'), .dat x, .dat y, .dat z, .own o, .un, .un, .un, .un]) := by
                cases r with
                | bor i => exact absurd rfl (nb i)
                | dat _ => exact m
                | tmp _ => exact m
              refine m' F' H' σ fp ⟨fun b u q n => x1.keep b u q (by simp), x1.grow, fun b u q h n => x1.out b u q h (by simp), fun b hb => .inl hb⟩ (d.behind x1 s1) (Frm.refl _ _)
            intro F' H' v tp fp' x1 s1 pv n1
            refine done F' H' v tp fp' x1 s1 pv n1 fun i z => ?_
            subst z
            cases pv
        | exc k =>
          rw [e] at m
          simp only at m
          split at m
          · rename_i k6
            intro H' keep
            refine ⟨true, hx k k6, fun _ a na => ?_, fun z => Bool.noConfusion z⟩
            refine ⟨k, k6, rfl, rfl, ?_⟩
            have keep' : ∀ b u, H b = some u → H' b = some u := fun b u q => keep b u q (by simp)
            have s' : Sub F H' := fun b u q => by
              rcases d.sub b u q with h | ⟨w, h⟩
              · exact .inl (keep' _ _ h)
              · exact .inr ⟨w, keep' _ _ h⟩
            have sr' : SR X.K F H' σ _ fp := sr.mono (Grow.refl _) (fun b _ u q => keep' b u q) fun b hb => (sr.free b hb).1
            obtain ⟨fp', sr5, sl5⟩ := sr'.setDat 5 (.fn a)
            refine ⟨F, _, fp', ⟨s', sr5, d.nd.sublist sl5⟩, ?_⟩
            rw [show ([.dat (.fn f'), .dat x, .dat y, .dat z, .own o, .un, .un, .un, .un] : List Sl).set 5 (.dat (.fn a)) = [.dat (.fn f'), .dat x, .dat y, .dat z, .own o, .dat (.fn a), .un, .un, .un] from rfl, hev f' a x y z o k k6]
            intro F2 H2 σ2 fp2 x2 d2 f2
            obtain ⟨fp3, sr6, sl6⟩ := d2.sr.forget 5 none
            refine m F2 H2 (σ2.set 5 none) fp3 ?_ ⟨d2.sub, sr6, d2.nd.sublist sl6⟩ ?_
            · have xa : Evo F H fp F H' fp' := ⟨fun b u q _ => keep' b u q, Grow.refl _, fun b u q h _ => h, fun b hb => .inl (sl5.subset hb)⟩
              exact (xa.trans x2).fewer fun b hb => sl6.subset hb
            · exact ((Frm.set w5 _).trans f2).trans (Frm.set w5 _)
          · exact m.elim
      · exact m.elim
    · exact m.elim
end
/-- the error that is handled stands in every state of its suite -/
theorem suite_hot {X : Cx} {a : Addr} {oe : Obj} {pn : List (Addr × Obj)} {cls : Value} (hz : L2N.Zn cls none oe) (hf : ∃ vs, oe.data = .fields vs) : HotW (X.suite a ((a, oe) :: pn)) a oe := by
  obtain ⟨vs, e⟩ := hf
  refine ⟨rfl, ⟨vs, e, hz.2.2 vs e⟩, fun {pins σ H s} I => ?_⟩
  have q := I.pin (a, oe) (List.mem_append.mpr (.inl List.mem_cons_self))
  refine ⟨q.1, q.2.1, fun hm => ?_⟩
  rcases List.mem_cons.mp (I.stkSub a hm) with z | z
  · exact q.2.2.1 z
  · exact q.2.2.2.1 z
theorem kit_ref {K : PySem.W.Frag} {D C : Addr} {b : Bool} (hd : PySem.W.hasDictIn K C = true) (ht : PySem.W.typeIn K (.ref C) = some (.type "type")) (h : PySem.W.subIn K (.ref D) (.ref C) = some b) (self : PySem.W.subIn K (.ref C) (.ref C) = some true) : PySem.W.kitOne K (.ref D) (.ref C) = some b := by
  unfold PySem.W.kitOne
  by_cases e : D = C
  · subst e
    rw [if_pos (by simp), ← self, h]
  · rw [if_neg (by simpa using e)]
    obtain ⟨cd, hc, _⟩ := PySem.W.any_some hd
    show (if ((PySem.W.clsIn K C).isSome && PySem.W.typeIn K (.ref C) == some (.type "type")) = true then _ else _) = _
    rw [if_pos (by rw [hc, ht] <;> rfl)]
    exact h
theorem kit_val {K : PySem.W.Frag} {D : Addr} (h : PySem.W.subIn K (.ref D) (.type "ValueError") = some true) : PySem.W.kitOne K (.ref D) (.type "ValueError") = some true := by
  unfold PySem.W.kitOne
  have n : ¬ ((Value.ref D == Value.type "ValueError") = true) := Bool.false_ne_true
  rw [if_neg n]
  have m : PySem.W.kitMeta "ValueError" = true := by decide +kernel
  have e : PySem.W.kitCls K (.ref D) (.type "ValueError") = if PySem.W.kitMeta "ValueError" = true then PySem.W.subIn K (.ref D) (.type "ValueError") else none := rfl
  rw [e, if_pos m]
  exact h
def clsOf (C : Nat → Addr) : Cls := fun k => .ref (C k)
def six (a b c d e f : Addr) : Nat → Addr := fun k => [a, b, c, d, e, f].getD k 0
/-- the facts about the classes of errors -/
structure ErrT (K : PySem.W.Frag) (mg : Str → Option Value) (cl : Cls) (C : Nat → Addr) (Wt : Addr) : Prop where
  o : ∀ k, k < 6 → ClsOk K mg cl k (errNames.getD k "") (C k)
  ex : ∀ k, k < 6 → ExcC K (C k)
  gw : mg "WaitError" = some (.ref Wt)
  hx : ∀ k, k < 6 → PySem.W.exmOne K (cl k) (.ref Wt) = some true
  kit : ∀ k j, k < 6 → j < 6 → PySem.W.kitOne K (.ref (C k)) (.ref (C j)) = some (k == j)
  kv : ∀ k, k < 6 → PySem.W.kitOne K (.ref (C k)) (.type "ValueError") = some true
  zv : mg "ValueError" = none
  zi : mg "isinstance" = none
theorem ErrT.zc {K : PySem.W.Frag} {mg : Str → Option Value} {cl : Cls} {C : Nat → Addr} {Wt : Addr} (T : ErrT K mg cl C Wt) {k : Nat} (h : k < 6) {oe : Obj} (hz : L2N.Zn (cl k) none oe) : Zc (.ref (C k)) none oe := by
  rw [← (T.o k h).eq]
  exact hz.zc
theorem eCall_err {f : Addr} {g : FS} {f1 f2 f3 : Ex} : eCall (fnSem 9 false (b_err f g)) [eC (.fn f), f1, f2, f3] = eCall (errS g) [f1, f2, f3] := by
  funext ev
  have e : argsS [eC (.fn f), f1, f2, f3] ev = (argsS [f1, f2, f3] ev).bind fun ds e1 => .ok (.fn f :: ds) e1 := rfl
  have l3 : ∀ ds e1, argsS [f1, f2, f3] ev = .ok ds e1 → ∃ x y z, ds = [x, y, z] := fun ds e1 h => by
    have := argsS_len [f1, f2, f3] h
    match ds, this with
    | [x, y, z], _ => exact ⟨x, y, z, rfl⟩
  unfold eCall
  rw [e]
  cases h : argsS [f1, f2, f3] ev with
  | stuck => rfl
  | exc k => rfl
  | ok ds e1 =>
    obtain ⟨x, y, z, rfl⟩ := l3 ds e1 h
    show backF (fnSem 9 false (b_err f g) [.dat (.fn f), .dat x, .dat y, .dat z]) e1 = backF (errS g [.dat x, .dat y, .dat z]) e1
    rw [b_err_eq]
def GoodE (P : Program) (w : World) (K : PySem.W.Frag) (mg : Str → Option Value) (base : Heap) (cl : Cls) (k : Nat) (xg : Str) (g : FS) : Prop :=
  ∃ f, mg xg = some (.ref f) ∧ GoodF P w K mg base cl k "_law_error" 4 (fnSem 9 false (b_err f g))
theorem de_err {X : Cx} {cl : Cls} {E : XK} {lv : Nat} {xg : Str} {p pg pos : Pos} {e1 e2 e3 : Expr} {f1 f2 f3 : Ex} {k : Nat} {g : FS} (G : GoodE X.prog X.w X.K X.mg X.base cl k xg g) (c : Cxt X E lv) (ha : DAs X cl E [e1, e2, e3] [f1, f2, f3]) (hg : Gl X "_law_error") (hgg : Gl X xg) (hk : k ≤ lv := by decide) (hdb : (xg == ("__debug__" : Str)) = false := by decide)
    (s1 : starEach [.Name xg pg, e1, e2, e3] X.env = (false, eval (.Name xg pg) X.env) :: starEach [e1, e2, e3] X.env := by rfl) (hpl : (backTo pos (starEach [e1, e2, e3] X.env)).any (·.1) = false := by rfl) :
    DE X cl E (.Call (.Name "_law_error" p) [.Name xg pg, e1, e2, e3] [] pos) (eCall (errS g) [f1, f2, f3]) := by
  obtain ⟨f, hm, G⟩ := G
  have d := de_call (p := p) (pos := pos) G c (das_cons (de_glob (v := .ref f) (pos := pg) hgg hm rfl (fun _ => .fn f) hdb) ha s1) hg hk rfl (by decide) s1 hpl
  rw [eCall_err] at d
  exact d
/-- a promise for all numberings of the classes -/
def spA (K : PySem.W.Frag) (n : Nat) (f : FS) : Sp := fun vs H Q E => vs.length = n ∧ ∀ cl, spD K cl n f vs H Q E
theorem fn_spA {P : Program} {w : World} {K : PySem.W.Frag} {mg : Str → Option Value} {base : Heap} {CX : CXT} {k n : Nat} {fa : Addr} {fd : FuncData} {ps : List Str} {cl : Cls} {f : FS} (h : FnOk P w K mg base CX k fa fd ps (spD K cl n f)) : FnOk P w K mg base CX k fa fd ps (spA K n f) :=
  ⟨fun vs H Q E q => h.len vs H Q E (q.2 cl), fun A outer s H args us vs Q E hr e0 hb r q => h.run A outer s H args us vs Q E hr e0 hb r (q.2 cl)⟩
theorem law_endA {K : PySem.W.Frag} {f : FS} {H : Hp} {a : Addr} {ns : List Int} (hS : SqL K H a (ns.map V.int)) (h : f [.dat (.lst (ns.map D.int))] = .ok (.dat (.bl true)) none) :
    spA K 1 f [.ref a] H (fun v _ => v = .bl true) fun _ _ _ => False := ⟨rfl, fun _ => law_end hS h⟩
end GW

set_option Elab.async false
set_option linter.all false
set_option maxRecDepth 100000
set_option maxHeartbeats 1000000
namespace GW
open PySem PySem.Spec PyProof.Rows L2

/-! ### a list some times -/
theorem list_times (l : Addr) (items : Array Value) (n : Nat) (sl : Array (Option Value)) (x : Int) (u : Tok) (c0 : ¬(!Builtin.List.listFitsIndex x) = true) (c1 : ¬items.size * x.toNat > (2 ^ 63 - 1) / 8) (c2 : ¬Builtin.List.listTooLong (items.size * x.toNat) = true) :
    Meets (Builtin.«list.__mul__» ⟨[.ref l, .int x u], []⟩) (fun _ R s => s.heap.get? l = some { cls := .type "list", dict := none, data := .seq items n, slots := sl } ∧
      R (.ok (.ret (Value.ref s.heap.objs.size))) { s with heap := s.heap.push { cls := Value.type "list", data := Data.seq (List.foldl (fun x1 x2 => x1 ++ x2) #[] (List.replicate (if items.isEmpty = true then 0 else x.toNat) items)) }, toks := s.toks }) :=
  .of_wp fun prog w A R s h => by
    obtain ⟨hp, g, d, tk, os⟩ := s
    obtain ⟨hl, h⟩ := h
    have fits := AutoListH.joined_fits c2
    wp_walk using AutoSeq1.wpAny_loadPart' hl
    repeat (first
      | (refine wpAny_ite_false (decide_eq_false (Nat.not_lt.mpr fits)) ?_; wp_walk using AutoSeq1.wpAny_loadPart' hl)
      | (refine wpAny_ite_true ?_ ?_ <;> wp_walk using AutoSeq1.wpAny_loadPart' hl))
    exact ⟨_, rfl, h⟩
theorem times_list (a : Int) (t : Tok) (l : Addr) (items : Array Value) (n : Nat) (sl : Array (Option Value)) :
    Meets (Builtin.«int.__rmul__» ⟨[.int a t, .ref l], []⟩) (fun _ R s => s.heap.get? l = some { cls := .type "list", dict := none, data := .seq items n, slots := sl } ∧ R (.ok (.ret Value.notImplemented)) s) :=
  .of_wp fun prog w A R s h => by
    obtain ⟨hp, g, d, tk, os⟩ := s
    obtain ⟨hl, h⟩ := h
    wp_walk
    exact ⟨_, rfl, h⟩
def rRepS (K : PySem.W.Frag) : R2 := fun x y H Q => ∃ l k xs, x = .ref l ∧ y = .int k ∧ SqL K H l xs ∧ 0 ≤ k ∧ k ≤ 1000 ∧ xs.length ≤ 1000 ∧ ∀ p, H p = none → Q (.ref p) (upd H p (.lst (List.replicate k.toNat xs).flatten))
theorem op_repS {X : Cx} : OpR X (binaryOp .Mult) (rRepS X.K) := by
  intro pins s σ H x y v u Q I rx ry h
  obtain ⟨l, k, xs, rfl, rfl, sq, h0, h1', h2, q⟩ := h
  cases rx
  obtain ⟨t, rfl⟩ := ry
  obtain ⟨its, r, p, hz⟩ := I.list sq
  obtain ⟨n, sl, e⟩ := PlainL.obj p
  have hl : xs.length = its.length := r.length
  have h1 : k.toNat ≤ 1000 := by omega
  have b1 : its.toArray.size * k.toNat ≤ 1000000 := by
    rw [List.size_toArray, ← hl]
    exact Nat.le_trans (Nat.mul_le_mul h2 h1) (by omega)
  have zl : 1000000 ≤ sizeLine := by rw [sizeLine_eq]; decide
  have c0 : ¬(!Builtin.List.listFitsIndex k) = true := by
    rw [fitsIndex_both (by omega) (by omega)]
    exact Bool.false_ne_true
  have c1 : ¬ its.toArray.size * k.toNat > (2 ^ 63 - 1) / 8 := by
    have : 1000000 ≤ (2 ^ 63 - 1) / 8 := by decide
    omega
  have c2 : ¬ Builtin.List.listTooLong (its.toArray.size * k.toNat) = true := by
    rw [notLongL (Nat.le_trans b1 zl)]
    exact Bool.false_ne_true
  have hnew : List.foldl (fun x1 x2 => x1 ++ x2) #[] (List.replicate (if its.toArray.isEmpty = true then 0 else k.toNat) its.toArray) = (List.replicate k.toNat its).flatten.toArray := by
    have f0 : ∀ m : Nat, List.foldl (fun x1 x2 => x1 ++ x2) #[] (List.replicate m its.toArray) = (List.replicate m its).flatten.toArray := fun m => by
      have z := foldl_rep its m []
      rw [List.nil_append] at z
      exact z
    rw [f0]
    cases its with
    | nil => simp
    | cons a b => rw [if_neg (by simp)]
  refine wpAny_binaryOp_repeat_ref (T := "list") (U := "int") (by decide) ⟨_, e, rfl⟩ (fun s' => typeIs_int s' k t) noFill_list_mul F.fills_int_mul F.slot_int_rmul repeat_list F.slot_int_index.lookup
    (call_meets F.slot_int_rmul (typeIs_int s k t) F.entry_int_rmul (F.args_int_rmul_2 _ _) (times_list k t l its.toArray n sl)
      ⟨e, rfl, ⟨_, e, rfl⟩, call_meets F.slot_list_mul ⟨_, e, rfl⟩ F.entry_list_mul (F.args_list_mul_2 _ _) (list_times l its.toArray n sl k t c0 c1 c2) ⟨e, ?_⟩⟩)
  rw [hnew]
  refine ⟨.ref _, _, I.lnew (t' := s.toks) (r.rep k.toNat) ?_, rfl, q _ I.fresh⟩
  rw [PyProof.Rows.lm_len_rep_flat]
  exact Nat.le_trans (Nat.mul_le_mul h1 h2) (Nat.le_trans (by omega) zl)
/-- x * y: as dMulZ, and a list some times -/
def dMulL : D → D → Option R
  | .lst xs, .int k => if 0 ≤ k ∧ k ≤ 1000 ∧ xs.length ≤ 1000 then some (.tmp (.lst (List.replicate k.toNat xs).flatten)) else none
  | x, y => dMulZ x y
def rMulL (X : Cx) : R2 := fun x y H Q => rMulZ X x y H Q ∨ rRepS X.K x y H Q
theorem op_mulL {X : Cx} : OpR X (binaryOp .Mult) (rMulL X) := op_mulZ.or op_repS
theorem mulL_D {X : Cx} : Op2 X (rMulL X) dMulL := by
  intro F H x y dx dy Q out s rx ry e g
  unfold dMulL at e
  split at e
  · rename_i xs k
    split at e
    · rename_i c
      cases e
      obtain ⟨a, vs, rfl, h1, r1⟩ := rx.lst s
      have hy := ry.int
      subst hy
      have hl := r1.length
      exact .inr ⟨a, k, vs, rfl, rfl, h1, c.1, c.2.1, by omega, give_lst g s (r1.rep k.toNat)⟩
    · cases e
  · exact .inl (mulZ_D F H _ _ _ _ Q out s rx ry e g)
/-! ### list(range(a, b)) -/
def rRg : R2 := fun x y H Q => ∃ i j, x = .int i ∧ y = .int j ∧ RgOk i j ∧ ∀ q, H q = none → Q (.ref q) (upd H q (.lst (rgV i j)))
def gRg2 : D → D → Option R
  | .int i, .int j => if -1000000 ≤ i ∧ i ≤ 1000000 ∧ -1000000 ≤ j ∧ j ≤ 1000000 then some (.tmp (.lst (rangeD i (j - i).toNat))) else none
  | _, _ => none
theorem rg_D {X : Cx} : Op2 X rRg gRg2 := by
  intro F H x y dx dy Q out s rx ry e g
  unfold gRg2 at e
  split at e
  · rename_i i j
    split at e
    · rename_i c
      cases e
      have hx := rx.int
      have hy := ry.int
      subst hx hy
      refine ⟨i, j, rfl, rfl, ⟨by omega, by omega, by omega, by omega, by omega⟩, ?_⟩
      exact give_lst g s (rp_ints (fun k : Nat => i + (k : Nat)) _)
    · cases e
  · cases e
theorem de_listR2 {X : Cx} {cl : Cls} {E : XK} {lv : Nat} {a b : Expr} {f g : Ex} {p p2 pos pos2 : Pos} (c : Cxt X E lv) (ha : DE X cl E a f) (hb : DE X cl E b g) (hg : Gl X "list") (hm : X.mg "list" = none) (hg2 : Gl X "range") (hm2 : X.mg "range" = none)
    (na : starEach [a, b] X.env = (false, eval a X.env) :: starEach [b] X.env := by rfl) (nb : starEach [b] X.env = (false, eval b X.env) :: starEach [] X.env := by rfl) (hp : (backTo pos2 (starEach [b] X.env)).any (·.1) = false := by rfl)
    (na2 : starEach [.Call (.Name "range" p2) [a, b] [] pos2] X.env = (false, eval (.Call (.Name "range" p2) [a, b] [] pos2) X.env) :: starEach [] X.env := by rfl) : DE X cl E (.Call (.Name "list" p) [.Call (.Name "range" p2) [a, b] [] pos2] [] pos) (eBin gRg2 f g) := by
  obtain ⟨ta, pa, ha⟩ := ha
  obtain ⟨tb, pb, hb⟩ := hb
  exact ⟨_, pe_listRg c.calm hg hm (prg_2 hg2 hm2 pa pb na nb hp) na2, fun F H σ ev fp Q d m => bin_ok ha hb rg_D F H σ ev fp Q d m⟩
end GW

set_option Elab.async false
set_option linter.all false
set_option maxRecDepth 100000
set_option maxHeartbeats 1000000
namespace GW
open PySem PySem.Spec PyProof.Rows L2

/-! ### the slot that bears the table of code objects -/
def eVT (i : Nat) : Ex := fun ev => match ev[i]? with
  | some (.tabd d _) => .ok (.dat d) ev
  | _ => .stuck
theorem SR.getTab {K : PySem.W.Frag} {F H : Hp} {σ : L2.St} {ev : List Sl} {fp : List Addr} (s : SR K F H σ ev fp) : ∀ {i : Nat} {d : D} {P : Addr}, ev[i]? = some (.tabd d P) → ∃ v, σ[i]? = some (some v) ∧ Rp K F v d := by
  induction s with
  | nil => intro i d P h; simp at h
  | un _ ih =>
    intro i d P h
    cases i with
    | zero => simp at h
    | succ i => simpa using ih (by simpa using h)
  | dat _ _ ih =>
    intro i d P h
    cases i with
    | zero => simp at h
    | succ i => simpa using ih (by simpa using h)
  | own _ _ _ ih =>
    intro i d P h
    cases i with
    | zero => simp at h
    | succ i => simpa using ih (by simpa using h)
  | tabd r _ _ _ ih =>
    intro i d P h
    cases i with
    | zero => simp at h; obtain ⟨rfl, rfl⟩ := h; exact ⟨_, rfl, r⟩
    | succ i => simpa using ih (by simpa using h)
section
variable {X : Cx} {cl : Cls} {E : XK} {W : List Nat}
theorem de_varT (i : Nat) {x : Str} {pos : Pos} (hN : X.N[i]? = some x := by rfl) (hv : Vis X.env.scope x := by first | exact Or.inl rfl | exact Or.inr (Or.inl rfl) | exact Or.inr (Or.inr rfl)) (hd : (x == ("__debug__" : Str)) = false := by decide)
    (hcd : (x == ("__classdict__" : Str)) = false := by decide) : DE X cl E (.Name x pos) (eVT i) := by
  refine ⟨_, pe_var hN hv hd hcd, fun F H σ ev fp Q d m => ?_⟩
  unfold eVT at m
  split at m
  · rename_i dd P e
    obtain ⟨v, q, r⟩ := SR.getTab d.sr e
    exact ⟨v, q, m F H fp v [] (Evo.refl _ _ _) d (.dat r) d.nd⟩
  · exact m.elim
end

/-! ### a lambda is made -/
section
variable {X : Cx} {pins : List (Addr × Obj)} {σ : L2.St} {H F : Hp} {s : Shared}
theorem lam_makeR {c P : Addr} {params : Arguments} {body : Expr} {scope : Scope} {pos : Pos} {E : Value → Shared → Prop} {Q : Value → Shared → Prop} (I : Inv X pins σ H s) (TB : LamX.TabB X.base X.mg c P) (hcode : X.env.code = .ref c) (hq : X.env.qual ++ "<lambda>" = lamQ)
    (sub : Sub F H) (hT : TabF F H P) (hP0 : F P = none) (hdef : defaultsOf params X.env = ([], [])) (hfree : ∀ y ∈ scope.names, y.2 = .free → ∃ c, X.env.cells.lookup y.1 = some c)
    (h : ∀ (f c' : Addr) (pm ctv : Value) (F1 H1 : Hp) (s' : Shared), Inv X pins σ H1 s' → (∀ b o, H b = some o → b ≠ P → H1 b = some o) → Grow F F1 → Sub F1 H1 → (∀ b o, H b = some o → F b = none → F1 b = none) → TabF F1 H1 P → F1 P = none →
      F1 c' = some (LamX.CodeO c' lamQ) → s'.heap.get? f = some (PySem.W.kla_obj "<lambda>" lamQ params body scope (cloFrom X.env.cells scope.names []) pm c' ctv) → H1 f = none → s.heap.objs.size ≤ f → f ∉ frs X.stack → Q (.ref f) s') :
    wpAny (model X.prog X.w) X.A (eval (.Lambda params body scope pos) X.env) Q E s := by
  obtain ⟨ps, hP, ht, ha⟩ := id hT
  refine PySem.W.kla_eval hdef ?_
  rw [hq]
  have bP : s.heap.BuiltinsAt X.mg P := TB.bm.keeps I.bk
  have hP' : s.heap.get? P = some { cls := .none, data := .fields ps } := I.hok P _ hP
  have nofr : ∀ f, s.heap.objs.size ≤ f → f ∉ frs X.stack := fun f hf z => by
    rcases List.mem_cons.mp (I.stkSub _ z) with e | e
    · have h1 := I.lt
      rw [← e] at h1
      exact Nat.lt_irrefl _ (Nat.lt_of_lt_of_le h1 hf)
    · exact I.nofs hf e
  cases hc : codeAmong pos ps.toList with
  | none =>
    refine PySem.W.kla_makeFunction (mg := X.mg) (c := c) (P := P) (ps := ps) (closure_ok hfree) I.ok.glob (I.mod.glob.keeps I.bk) hcode (TB.code.keeps I.bk) hP' ht hc TB.gP bP fun c' ctv h' tk hx hge hlt hrec htb => ?_
    obtain ⟨c2, oc, vs, t, e2, hoc, hd, hv⟩ := hrec
    cases e2
    have hsz : s.heap.objs.size ≤ h'.objs.size := Nat.le_trans hge (Nat.le_of_lt hlt)
    have nC : H c' = none := I.hok.fresh hge
    have fC : F c' = none := sub.none nC
    have I1 := LamX.inv_table (t' := tk) (more := #[rawInt pos.line, rawInt pos.col, .ref c']) (h' := h'.push (PySem.W.kla_obj "<lambda>" lamQ params body scope (cloFrom X.env.cells scope.names []) ((X.mg "__name__").getD .none) c' ctv)) I hP
      (fun b o hb e => Heap.get?_push_of_some _ (hx b o hb e)) (Heap.get?_push_of_some _ htb) hge ⟨oc, vs, t, Heap.get?_push_of_some _ hoc, hd, hv⟩
    have nPc : P ≠ c' := ne_of_none hP nC
    have keep : ∀ b o, H b = some o → b ≠ P → upd (upd H P (.tbl (ps ++ #[rawInt pos.line, rawInt pos.col, .ref c']))) c' (LamX.CodeO c' lamQ) b = some o := fun b o e n => by
      rw [upd_ne (ne_of_none e nC), upd_ne n]
      exact e
    have eL : (ps ++ #[rawInt pos.line, rawInt pos.col, .ref c']).toList = ps.toList ++ [rawInt pos.line, rawInt pos.col, .ref c'] := by simp
    refine h h'.objs.size c' ((X.mg "__name__").getD .none) ctv (upd F c' (LamX.CodeO c' lamQ)) _ _ I1 keep (grow_upd fC) (fun b u r => ?_) (fun b o e f => ?_) ⟨_, by rw [upd_ne nPc, upd_same], by rw [eL]; exact PySem.TriplesOk_snoc _ _ _ _ ht, fun p' cv hcv => ?_⟩ (by rw [upd_ne nPc]; exact hP0) upd_same (Heap.get?_push_size _ rfl) ?_ hsz (nofr _ hsz)
    · by_cases hb : b = c'
      · subst hb
        rcases r with r | ⟨o, r⟩
        · rw [upd_same] at r
          cases r
          exact .inl upd_same
        · rw [upd_same] at r
          cases r
      · have r' : Rd F b u := by
          rcases r with r | ⟨o, r⟩
          · rw [upd_ne hb] at r; exact .inl r
          · rw [upd_ne hb] at r; exact .inr ⟨o, r⟩
        have nP : b ≠ P := fun z => by
          subst z
          rcases r' with r | ⟨o, r⟩ <;> rw [hP0] at r <;> cases r
        rcases sub b u r' with q | ⟨o, q⟩
        · exact .inl (keep b _ q nP)
        · exact .inr ⟨o, keep b _ q nP⟩
    · rw [upd_ne (ne_of_none e nC)]
      exact f
    · rw [eL] at hcv
      rcases LamX.among_app _ ht hcv with z | z
      · obtain ⟨c0, e1, e2⟩ := ha p' cv z
        exact ⟨c0, e1, grow_upd fC _ _ e2⟩
      · exact ⟨c', z, upd_same⟩
    · have n1 : h'.objs.size ≠ c' := Nat.ne_of_gt hlt
      have n2 : h'.objs.size ≠ P := Nat.ne_of_gt (Nat.lt_of_lt_of_le (Heap.lt_size hP') hsz)
      rw [upd_ne n1, upd_ne n2]
      exact I.hok.fresh hsz
  | some cv =>
    obtain ⟨c', e, hco⟩ := ha pos cv hc
    subst e
    refine PySem.W.kla_makeFunctionHit (mg := X.mg) (c := c) (P := P) (ps := ps) (closure_ok hfree) I.ok.glob (I.mod.glob.keeps I.bk) hcode (TB.code.keeps I.bk) hP' ht hc bP fun ctv h' tk hx hsz => ?_
    have I1 : Inv X pins σ H { s with heap := h'.push (PySem.W.kla_obj "<lambda>" lamQ params body scope (cloFrom X.env.cells scope.names []) ((X.mg "__name__").getD .none) c' ctv), toks := tk } := I.kept fun b o e => Heap.get?_push_of_some _ (hx b o e)
    exact h h'.objs.size c' ((X.mg "__name__").getD .none) ctv F H _ I1 (fun b o e _ => e) (Grow.refl _) sub (fun _ _ _ f => f) hT hP0 hco (Heap.get?_push_size _ rfl) (I.hok.fresh hsz) hsz (nofr _ hsz)
end

/-! ### a lambda runs -/
/-- what a function object promises where it stands -/
def Runs (P : Program) (w : World) (K : PySem.W.Frag) (mg : Str → Option Value) (base : Heap) (CX : CXT) (k : Nat) (f c' : Addr) (ob : Obj) (sp : Sp) : Prop :=
  ∀ (A : Around) (outer : List Env) (s : Shared) (H : Hp) (us : List Value) (vs : List V) (Q : VK) (E : XK), Room k A → Env0 P w K mg base A outer s H → s.heap.get? f = some ob → Rd H c' (LamX.CodeO c' lamQ) → Vals vs us → sp vs H Q E →
    codeAny (model P w) A (.call (.ref f) ⟨us, []⟩) (CR CX outer P w H s Q E) s
theorem lam_runs {CX : CXT} {P : Program} {w : World} {K : PySem.W.Frag} {mg : Str → Option Value} {base : Heap} {k : Nat} {N ps : List Str} {scope : Scope} {f c' : Addr} {pm ctv : Value} {params : Arguments} {body : Expr} {tb : XK → TE} {sp : Sp} (S : FnScope N ps scope)
    (hbind : ∀ us : List Value, us.length = ps.length → bindArgs (PySem.W.kla_fn "<lambda>" lamQ params body scope [] pm (.ref c') ctv) ⟨us, []⟩ = pure (ps.zip us))
    (hbody : ∀ (A : Around) (outer : List Env) (s : Shared) (H : Hp) (E : XK), Room k (A.deeper (envOfC lamQ scope s.heap.objs.size f (.ref c'))) → PE (cxOf CX P w K mg base N lamQ scope f (.ref c') A outer s H E) body (tb E))
    (hm : ∀ vs H Q E, sp vs H Q E → vs.length = ps.length ∧ tb E (L2.start N vs) H Q) : Runs P w K mg base CX (k + 1) f c' (PySem.W.kla_obj "<lambda>" lamQ params body scope [] pm c' ctv) sp := by
  intro A outer s H us vs Q E hr e0 hf hc r h
  obtain ⟨hl, hq⟩ := hm vs H Q E h
  have hlen : us.length = ps.length := by rw [← r.length, hl]
  have lim : s.heap.NoLimit := e0.mod.nolimit.keeps fun b o e => (e0.bs b o e).1
  obtain ⟨⟨oc, ws, t, hoc, hdc, hvc⟩, _, _⟩ := Rd.ok hc e0.hok
  have hkind : ∀ y ∈ ps.zip us, scope.names.lookup y.1 = some .local ∨ (scope.names.lookup y.1 = some .cell ∧ ((cellsFrom (s.heap.objs.size + 1) scope.names []).lookup y.1).isSome = true) := fun ⟨n, v⟩ hy => by
    rcases S.par n (List.of_mem_zip hy).1 with q | q
    · exact .inl q
    · exact .inr ⟨q, PySem.W.cellsFrom_some _ _ _ (.inl q)⟩
  refine PySem.W.kla_callFunE hr.depth hf rfl S.co S.gen rfl ⟨c', oc, ws, t, rfl, hoc, hdc, hvc⟩ ?_
  rw [hbind us hlen]
  refine wpAny_pure (wpAny_newFunctionEnv_cells S.kind hkind fun env he s1 x => ?_)
  subst he
  refine ⟨lim.keeps x.toInCall.keep, ?_⟩
  have I : Inv (cxOf CX P w K mg base N lamQ scope f (.ref c') A outer s H E) [] (L2.start N vs) H s1 := inv_start S hr.hd e0 hl r x
  refine PySem.W.kla_codeExpr (wpAny_mono ((hbody A outer s H E (hr.deeper _)).run [] s1 (L2.start N vs) H Q I hq) (fun v s' hp => ?_) fun e s' z => z)
  obtain ⟨w', H', J, rv, q⟩ := hp
  exact ⟨w', H', J.os, J.bare, J.base, J.hok, rv, q⟩
/-- a call of a local name that holds such an object -/
theorem pe_callZ {X : Cx} {CX : CXT} {k i : Nat} {f c' : Addr} {ob : Obj} {sp : Sp} {E : L2.St → XK} {x : Str} {p pos : Pos} {e : Expr} {es : List Expr} {t : TA} (R : Runs X.prog X.w X.K X.mg X.base CX k f c' ob sp) (hob : ∀ {pins : List (Addr × Obj)} {σ : L2.St} {H : Hp} {s : Shared}, Inv X pins σ H s → s.heap.get? f = some ob)
    (hfd : ∃ oc od fd sl, ob = ⟨oc, od, .func fd, sl⟩) (hr : Room k X.A) (hN : X.N[i]? = some x) (hv : Vis X.env.scope x) (hx : ∀ σ, PassesAt CX X σ (E σ)) (ha : PA X (e :: es) t) (hdb : (x == ("__debug__" : Str)) = false := by decide) (hcd : (x == ("__classdict__" : Str)) = false := by decide)
    (he : starEach (e :: es) X.env = (false, eval e X.env) :: starEach es X.env := by rfl) (hpl : (backTo pos (starEach es X.env)).any (·.1) = false := by rfl) :
    PE X (.Call (.Name x p) (e :: es) [] pos) (fun σ H Q => σ[i]? = some (some (.ref f)) ∧ t σ H fun vs H1 => Rd H1 c' (LamX.CodeO c' lamQ) ∧ sp vs H1 Q (E σ)) := by
  refine ⟨fun pins s σ H Q I ⟨hs, ht⟩ => ?_⟩
  have ld := (pe_var (X := X) (pos := p) hN hv hdb hcd).run pins s σ H (fun v H1 => v = .ref f ∧ H1 = H) I ⟨.ref f, hs, rfl, rfl⟩
  refine wpAny_Call_Name_kw (thn ld fun u s1 hu => ?_)
  obtain ⟨v, H1, I1, r1, rfl, rfl⟩ := hu
  cases r1
  obtain ⟨oc, od, fd, sl, rfl⟩ := hfd
  refine PySem.W.callWith_F ⟨_, _, _, _, hob I1⟩ (thn (ha.run pos pins s1 σ _ _ I1 ht) fun us s2 h2 => ?_) he hpl
  obtain ⟨vs, H2, I2, r, hc, q⟩ := h2
  refine ⟨⟨_, _, _, _, hob I2⟩, wpAny_call (codeAny_mono (R X.A X.stack s2 H2 us vs Q (E σ) hr I2.env0 (hob I2) hc r q) fun r' s' hq => ?_)⟩
  cases r' with
  | error e => exact hx σ pins H2 s2 e s' I2 hq
  | ok fl =>
    cases fl with
    | ret u => exact I2.after hq
    | next => exact False.elim hq
    | brk => exact False.elim hq
    | cont => exact False.elim hq
end GW

set_option Elab.async false
set_option linter.all false
set_option maxRecDepth 100000
set_option maxHeartbeats 1000000
namespace GW
open PySem PySem.Spec PyProof.Rows L2

/-! ### the try of _law_error, the call being a lambda -/
section
variable {X : Cx} {cl : Cls} {E : XK} {W : List Nat} {lv : Nat}
theorem lawTryL (c : Cxt X E lv) (hs : X.stack = X.env :: X.outer) (hf : X.env.frame = some X.env.locals) (hev : SuiteEval) {f c' Wt : Addr} {ob : Obj} {g : FS} {kf : Nat} (R : Runs X.prog X.w X.K X.mg X.base (L2N.CX X.prog X.w) kf f c' ob (spD X.K cl 3 g))
    (hob : ∀ {pn : List (Addr × Obj)} {xx : Value → Shared → Prop} {pins : List (Addr × Obj)} {σ : L2.St} {H : Hp} {s : Shared}, Inv (X.tr pn xx) pins σ H s → s.heap.get? f = some ob) (hfd : ∃ oc od fd sl, ob = ⟨oc, od, .func fd, sl⟩) (hk : kf ≤ lv) (hx : ∀ k, k < 6 → PySem.W.exmOne X.K (cl k) (.ref Wt) = some true) {x0 xa xb xc xe xw : Str} {p0 p1 p2 p3 p4 p5 p6 p7 p8 : Pos} {b₀ : Stmt} {suite : List Stmt}
    (hsu : ∀ (a : Addr) (oe : Obj) (pn : List (Addr × Obj)) (k : Nat), k < 6 → L2N.Zn (cl k) none oe → (∃ vs, oe.data = .fields vs) → DSs (X.suite a ((a, oe) :: pn)) cl E0 W (b₀ :: suite) (suiteS a k))
    (hw : Names X xw (.ref Wt)) (w4 : 4 ∈ W) (w5 : 5 ∈ W) (w6 : 6 ∈ W)
    (h0 : X.N[(0 : Nat)]? = some x0) (ha : X.N[(1 : Nat)]? = some xa) (hb' : X.N[(2 : Nat)]? = some xb) (hc : X.N[(3 : Nat)]? = some xc) (he : X.N[(5 : Nat)]? = some xe)
    (v0 : Vis X.env.scope x0) (va : Vis X.env.scope xa) (vb : Vis X.env.scope xb) (vc : Vis X.env.scope xc) (ke : X.env.kindOf xe = some .local)
    (d0 : (x0 == ("__debug__" : Str)) = false) (da : (xa == ("__debug__" : Str)) = false) (db : (xb == ("__debug__" : Str)) = false) (dc : (xc == ("__debug__" : Str)) = false)
    (e0 : (x0 == ("__classdict__" : Str)) = false) (ea : (xa == ("__classdict__" : Str)) = false) (eb : (xb == ("__classdict__" : Str)) = false) (ec : (xc == ("__classdict__" : Str)) = false)
    (sw : swapsWith (.Call (.Name x0 p0) [.Name xa p1, .Name xb p2, .Name xc p3] [] p4) none p5.line X.env = pure false)
    (st : starEach [.Name xa p1, .Name xb p2, .Name xc p3] X.env = [(false, eval (.Name xa p1) X.env), (false, eval (.Name xb p2) X.env), (false, eval (.Name xc p3) X.env)]) (st2 : starEach [.Name xb p2, .Name xc p3] X.env = [(false, eval (.Name xb p2) X.env), (false, eval (.Name xc p3) X.env)]) (st3 : starEach [.Name xc p3] X.env = [(false, eval (.Name xc p3) X.env)])
    (hpl : (backTo p4 (starEach [.Name xb p2, .Name xc p3] X.env)).any (·.1) = false) :
    ∃ t, PS X (.Try [.Expr (.Call (.Name x0 p0) [.Name xa p1, .Name xb p2, .Name xc p3] [] p4) p5] [.ExceptHandler (some (.Name xw p6)) (some xe) (b₀ :: suite) p7] [] [] p8) t ∧ ∀ F H σ ev fp D, F c' = some (LamX.CodeO c' lamQ) → DS X.K F H σ ev fp → MeetS X.K cl E W σ F H fp D (sTry f g ev) → t D σ H := by
  have body : ∀ (W0 : WX) (pn : List (Addr × Obj)) (xx : Value → Shared → Prop), L2N.Takes (X.tr pn xx) W0 → PassesOwn (model X.prog X.w) X.A X.env xx → PSs (X.tr pn xx) [.Expr (.Call (.Name x0 p0) [.Name xa p1, .Name xb p2, .Name xc p3] [] p4) p5] _ :=
    fun W0 pn xx tk _ => pss_one (ps_expr (pe_callZ (X := X.tr pn xx) (i := 0) (E := WE W0) R hob hfd (c.room.mono hk) h0 v0 (fun σ => L2N.passAt tk σ) (pa_cons (pe_var (i := 1) ha va da ea) (pa_cons (pe_var (i := 2) hb' vb db eb) (pa_cons (pe_var (i := 3) hc vc dc ec) pa_nil st3) st2) st) d0 e0 (by rw [st, st2]) hpl) sw)
  refine ⟨_, L2N.ps_try_as (i := 5) hs hf c.nd he ke hw takesN body (ts := fun a cls d D σ H => ∃ k, k < 6 ∧ cls = cl k ∧ d = none ∧ canS X.K cl E0 W (suiteS a k) D σ H) (fun a oe cls d pn hz hff => ?_), ?_⟩
  · refine ⟨fun pins s σ H D I h => ?_⟩
    obtain ⟨k, hk6, rfl, rfl, h⟩ := h
    exact (hsu a oe pn k hk6 hz hff).can.run pins s σ H D I h
  · intro F H σ ev fp D go d m
    unfold sTry at m
    split at m
    · rename_i f' x y z o
      split at m
      · rename_i ef
        subst ef
        have sr := d.sr
        obtain ⟨va', q1, rx⟩ := sr.getDat (i := 1) rfl
        obtain ⟨vb', q2, ry⟩ := sr.getDat (i := 2) rfl
        obtain ⟨vc', q3, rz⟩ := sr.getDat (i := 3) rfl
        obtain ⟨vf, q0, rf⟩ := sr.getDat (i := 0) rfl
        cases rf
        refine ⟨q0, va', q1, vb', q2, vc', q3, d.sub _ _ (.inl go), rfl, F, [.dat x, .dat y, .dat z], [], ⟨d.sub, .dat rx (.dat ry (.dat rz .nil)), .nil⟩, ?_⟩
        cases e : g [.dat x, .dat y, .dat z] with
        | stuck => rw [e] at m; exact m
        | ok r io =>
          cases io with
          | some o' =>
            rw [e] at m
            cases r <;> exact m.elim
          | none =>
            have done : ∀ F' H' v tp fp', Evo F H [] F' H' (tp ++ fp') → Sub F' H' → PV X.K F' H' v r tp → (tp ++ fp').Nodup → (∀ i, r ≠ .bor i) → D.nx σ H' := fun F' H' v tp fp' x1 s1 pv n1 nb => by
              rw [e] at m
              have m' : MeetS X.K cl E W σ F H fp D (.nx [.dat (.fn f'), .dat x, .dat y, .dat z, .own o, .un, .un, .un, .un]) := by
                cases r with
                | bor i => exact absurd rfl (nb i)
                | dat _ => exact m
                | tmp _ => exact m
              refine m' F' H' σ fp ⟨fun b u q n => x1.keep b u q (by simp), x1.grow, fun b u q h n => x1.out b u q h (by simp), fun b hb => .inl hb⟩ (d.behind x1 s1) (Frm.refl _ _)
            intro F' H' v tp fp' x1 s1 pv n1
            refine done F' H' v tp fp' x1 s1 pv n1 fun i z => ?_
            subst z
            cases pv
        | exc k =>
          rw [e] at m
          simp only at m
          split at m
          · rename_i k6
            intro H' keep
            refine ⟨true, hx k k6, fun _ a na => ?_, fun z => Bool.noConfusion z⟩
            refine ⟨k, k6, rfl, rfl, ?_⟩
            have keep' : ∀ b u, H b = some u → H' b = some u := fun b u q => keep b u q (by simp)
            have s' : Sub F H' := fun b u q => by
              rcases d.sub b u q with h | ⟨w, h⟩
              · exact .inl (keep' _ _ h)
              · exact .inr ⟨w, keep' _ _ h⟩
            have sr' : SR X.K F H' σ _ fp := sr.mono (Grow.refl _) (fun b _ u q => keep' b u q) fun b hb => (sr.free b hb).1
            obtain ⟨fp', sr5, sl5⟩ := sr'.setDat 5 (.fn a)
            refine ⟨F, _, fp', ⟨s', sr5, d.nd.sublist sl5⟩, ?_⟩
            rw [show ([.dat (.fn f'), .dat x, .dat y, .dat z, .own o, .un, .un, .un, .un] : List Sl).set 5 (.dat (.fn a)) = [.dat (.fn f'), .dat x, .dat y, .dat z, .own o, .dat (.fn a), .un, .un, .un] from rfl, hev f' a x y z o k k6]
            intro F2 H2 σ2 fp2 x2 d2 f2
            obtain ⟨fp3, sr6, sl6⟩ := d2.sr.forget 5 none
            refine m F2 H2 (σ2.set 5 none) fp3 ?_ ⟨d2.sub, sr6, d2.nd.sublist sl6⟩ ?_
            · have xa : Evo F H fp F H' fp' := ⟨fun b u q _ => keep' b u q, Grow.refl _, fun b u q h _ => h, fun b hb => .inl (sl5.subset hb)⟩
              exact (xa.trans x2).fewer fun b hb => sl6.subset hb
            · exact ((Frm.set w5 _).trans f2).trans (Frm.set w5 _)
          · exact m.elim
      · exact m.elim
    · exact m.elim

/-- three statements, the second under what F knows -/
theorem dss3G {s1 s2 s3 : Stmt} {a b c : Sx} {c' : Addr} {u : HO} (h1 : DSt X cl E W s1 a) (h2 : ∃ t, PS X s2 t ∧ ∀ F H σ ev fp D, F c' = some u → DS X.K F H σ ev fp → MeetS X.K cl E W σ F H fp D (b ev) → t D σ H) (h3 : DSt X cl E W s3 c) :
    ∃ t, PSs X [s1, s2, s3] t ∧ ∀ F H σ ev fp D, F c' = some u → DS X.K F H σ ev fp → MeetS X.K cl E W σ F H fp D (sSeq a (sSeq b c) ev) → t D σ H := by
  obtain ⟨t1, p1, h1⟩ := h1
  obtain ⟨t2, p2, h2⟩ := h2
  obtain ⟨t3, p3, h3⟩ := h3
  refine ⟨_, pss_cons p1 (pss_cons p2 (pss_one p3)), fun F H σ ev fp D go d m => ?_⟩
  refine h1 F H σ ev fp { D with nx := fun σ1 H1 => t2 { D with nx := t3 D } σ1 H1 } d ?_
  unfold sSeq at m
  cases e : a ev with
  | nx e1 =>
    rw [e] at m
    intro F1 H1 σ1 fp1 x1 d1 f1
    refine h2 F1 H1 σ1 e1 fp1 { D with nx := t3 D } (x1.grow _ _ go) d1 ?_
    have m1 : MeetS X.K cl E W σ1 F1 H1 fp1 D (sSeq b c e1) := MeetS.shift x1 f1 m
    clear m
    unfold sSeq at m1
    cases e2 : b e1 with
    | nx e3 =>
      rw [e2] at m1
      intro F2 H2 σ2 fp2 x2 d2 f2
      exact h3 F2 H2 σ2 e3 fp2 D d2 (MeetS.shift x2 f2 m1)
    | bk e3 => rw [e2] at m1; exact m1
    | ct e3 => rw [e2] at m1; exact m1
    | rt r e3 => rw [e2] at m1; exact m1
    | exc k => rw [e2] at m1; exact m1
    | stuck => rw [e2] at m1; exact m1
  | bk e1 => rw [e] at m; exact m
  | ct e1 => rw [e] at m; exact m
  | rt r e1 => rw [e] at m; exact m
  | exc k => rw [e] at m; exact m
  | stuck => rw [e] at m; exact m
end
/-- what _law_error promises of a lambda -/
def spL (K : PySem.W.Frag) (cl : Cls) (f c' : Addr) (g : FS) : Sp := fun vs H Q E => vs.length = 4 ∧ ∃ F ev fp, F c' = some (LamX.CodeO c' lamQ) ∧ DS K F H (vs.map some) ev fp ∧ MeetF K cl E vs F H fp Q (fnSem 9 false (b_err f g) ev)
def RunE (P : Program) (w : World) (K : PySem.W.Frag) (mg : Str → Option Value) (base : Heap) (cl : Cls) (k : Nat) (fe : Addr) (g : FS) : Prop :=
  ∀ (f c' : Addr) (ob : Obj), (∃ oc od fd sl, ob = ⟨oc, od, .func fd, sl⟩) → Runs P w K mg base (L2N.CX P w) k f c' ob (spD K cl 3 g) →
    ∀ (A : Around) (outer : List Env) (s : Shared) (H : Hp) (us : List Value) (vs : List V) (Q : VK) (E : XK), Room (k + 1) A → Env0 P w K mg base A outer s H → s.heap.get? f = some ob → H f = none → f ∉ frs outer → Vals vs us → spL K cl f c' g vs H Q E →
      codeAny (model P w) A (.call (.ref fe) ⟨us, []⟩) (CR (L2N.CX P w) outer P w H s Q E) s
theorem errL_run {P : Program} {w : World} {K : PySem.W.Frag} {mg : Str → Option Value} {base : Heap} {cl : Cls} {k : Nat} {fe : Addr} {fd : FuncData} {st : Stmt} {N ps : List Str} {W : List Nat} {g : FS} (F : Fun K "_law_error" "_law_error" st fe fd) (S : FnScope N ps (defScope st)) (hN : N.length = 9) (hps : ps.length = 4)
    (hb : Binds K fd ps [])
    (hbody : ∀ (f c' : Addr) (ob : Obj) (cdv : Value) (A : Around) (outer : List Env) (s : Shared) (H : Hp) (E : XK), (∃ oc od fd sl, ob = ⟨oc, od, .func fd, sl⟩) → Runs P w K mg base (L2N.CX P w) k f c' ob (spD K cl 3 g) → Cxt (cxOf (L2N.CX P w) P w K mg base N "_law_error" (defScope st) fe cdv A outer s H E) E k →
      (∀ {pn : List (Addr × Obj)} {xx : Value → Shared → Prop} {pins : List (Addr × Obj)} {σ : L2.St} {H' : Hp} {s' : Shared}, Inv ((cxOf (L2N.CX P w) P w K mg base N "_law_error" (defScope st) fe cdv A outer s H E).tr pn xx) pins σ H' s' → s'.heap.get? f = some ob) →
      ∃ t, PSs (cxOf (L2N.CX P w) P w K mg base N "_law_error" (defScope st) fe cdv A outer s H E) (defBody st) t ∧ ∀ F H' σ ev fp D, F c' = some (LamX.CodeO c' lamQ) → DS K F H' σ ev fp → MeetS K cl E W σ F H' fp D (b_err f g ev) → t D σ H') :
    RunE P w K mg base cl k fe g := by
  intro f c' ob hfd R A outer s H us vs Q E hr e0 hf hfn hfr r h
  obtain ⟨oc, od, kV, doc, pm, an, cdv, ct, osl, rfl, lk, hcd⟩ := F.ex
  obtain ⟨hn, F0, args, fp, go, d, m⟩ := h
  have KX : K.In s.heap := e0.mod.kin.keeps fun b o e => (e0.bs b o e).1
  have hus : us.length = ps.length := by rw [← r.length, hn, hps]
  have bt := hb s us KX (by rw [List.append_nil]; exact hus)
  rw [List.append_nil] at bt
  refine LamX.run_ofS lk hcd S hr e0 bt r (by rw [hn, hps]) fun hr' => ?_
  have tk : L2N.Takes (cxOf (L2N.CX P w) P w K mg base N "_law_error" (defScope st) fe cdv A outer s H E) (fun c d _ H => E c d H) := L2N.takes_of rfl rfl rfl rfl
  obtain ⟨t, p, hm⟩ := hbody f c' ob cdv A outer s H E hfd R ⟨S.nd, rfl, hr', L2N.passes_call tk fun _ _ _ _ h => h, tk⟩ fun I => I.base.keep f ob hf hfn hfr (fun z => nomatch (show f ∈ ([] : List Addr) from z))
  refine ⟨t, p, ?_⟩
  have la : args.length = vs.length := by have := d.sr.len; simpa using this.symm
  have d0 : DS K F0 H (L2.start N vs) (args ++ List.replicate (N.length - args.length) .un) fp := by
    refine ⟨d.sub, ?_, d.nd⟩
    unfold L2.start
    rw [la]
    exact d.sr.more _
  have hσ : ∀ i, i < vs.length → (L2.start N vs)[i]? = (vs.map some)[i]? := fun i hi => by
    unfold L2.start
    rw [List.getElem?_append_left (by simpa using hi)]
  refine hm F0 H _ _ fp _ go d0 ?_
  unfold fnSem at m
  rw [← hN] at m
  cases e : b_err f g (args ++ List.replicate (N.length - args.length) .un) with
  | nx ev1 =>
    simp only [e] at m
    exact fun F1 H1 σ1 fp1 x1 d1 f1 => fin_meet (X := cxOf (L2N.CX P w) P w K mg base N "_law_error" (defScope st) fe cdv A outer s H E) (io := false) hσ (by simp) (by simp) (tp := []) x1 d1 f1 (.dat .non) d1.nd m
  | bk ev1 => simp only [e] at m; exact False.elim m
  | ct ev1 => simp only [e] at m; exact False.elim m
  | rt r ev1 =>
    simp only [e] at m
    intro F1 H1 σ1 fp1 v tp x1 d1 f1 rv nd
    cases rv with
    | dat r => exact fin_meet (X := cxOf (L2N.CX P w) P w K mg base N "_law_error" (defScope st) fe cdv A outer s H E) (io := false) hσ (by simp) (by simp) x1 d1 f1 (.dat r) nd m
    | tmp o f => exact fin_meet (X := cxOf (L2N.CX P w) P w K mg base N "_law_error" (defScope st) fe cdv A outer s H E) (io := false) hσ (by simp) (by simp) x1 d1 f1 (.tmp o f) nd m
    | bor _ _ => exact False.elim m
  | exc k => simp only [e] at m; exact m
  | stuck => simp only [e] at m; exact False.elim m
end GW

set_option Elab.async false
set_option linter.all false
set_option maxRecDepth 100000
set_option maxHeartbeats 1000000
namespace GW
open PySem PySem.Spec PyProof.Rows L2

/-! ### _law_error(lambda ..: .., a, b, c) -/
def eLamErr (P : Addr) (g : FS) (fs : List Ex) : Ex := fun ev => match ev[(0 : Nat)]? with
  | some (.tabd _ P') => if P' = P then eCall (errS g) fs ev else .stuck
  | _ => .stuck
theorem de_lamErr {X : Cx} {cl : Cls} {E : XK} {lv : Nat} (c : Cxt X E lv) {P cc fe : Addr} {g : FS} {k : Nat} {params : Arguments} {body : Expr} {scope : Scope} {lpos p pos : Pos} {e1 e2 e3 : Expr} {f1 f2 f3 : Ex}
    (TB : LamX.TabB X.base X.mg cc P) (hcode : X.env.code = .ref cc) (hq : X.env.qual ++ "<lambda>" = lamQ) (hg : Gl X "_law_error") (hm : X.mg "_law_error" = some (.ref fe)) (hk : PySem.W.keepIn X.K (.ref fe) = true) (RE : RunE X.prog X.w X.K X.mg X.base cl k fe g) (hlv : k + 1 ≤ lv)
    (hR : ∀ (f c' : Addr) (pm ctv : Value), Runs X.prog X.w X.K X.mg X.base (L2N.CX X.prog X.w) k f c' (PySem.W.kla_obj "<lambda>" lamQ params body scope [] pm c' ctv) (spD X.K cl 3 g)) (hcl : cloFrom X.env.cells scope.names [] = [])
    (hfree : ∀ y ∈ scope.names, y.2 = .free → ∃ c, X.env.cells.lookup y.1 = some c) (hdef : defaultsOf params X.env = ([], [])) (ha : DAs X cl E [e1, e2, e3] [f1, f2, f3])
    (he : starEach [.Lambda params body scope lpos, e1, e2, e3] X.env = (false, eval (.Lambda params body scope lpos) X.env) :: starEach [e1, e2, e3] X.env := by rfl) (hpl : (backTo pos (starEach [e1, e2, e3] X.env)).any (·.1) = false := by rfl) :
    DE X cl E (.Call (.Name "_law_error" p) [.Lambda params body scope lpos, e1, e2, e3] [] pos) (eLamErr P g [f1, f2, f3]) := by
  refine ⟨fun σ H Q => ∃ F ev fp, DS X.K F H σ ev fp ∧ MeetE X.K cl E σ F H fp Q (eLamErr P g [f1, f2, f3] ev), ⟨fun pins s σ H Q I h => ?_⟩, fun F H σ ev fp Q d m => ⟨F, ev, fp, d, m⟩⟩
  obtain ⟨F, ev, fp, d, m⟩ := h
  unfold eLamErr at m
  split at m
  case h_2 => exact m.elim
  rename_i dd P' e0
  split at m
  case isFalse => exact m.elim
  rename_i eP
  subst eP
  cases ev with
  | nil => simp at e0
  | cons x ev' =>
  simp at e0
  subst e0
  have sr := d.sr
  have nd := d.nd
  have dsub := d.sub
  cases sr with
  | @tabd v _ _ σ' _ fp' rv tT nP sr' =>
  obtain ⟨ta, pa, ha⟩ := ha
  refine wpAny_Call_Name_kw (ld_glob I hg hm ?_ (by decide))
  refine PySem.W.callWith_K (h₀ := X.base) I.ok.mod.kin hk ?_ he hpl
  rw [he]
  refine Calls.spliced_cons (lam_makeR I TB hcode hq dsub tT nP hdef hfree fun f c' pm ctv F1 H1 s1 I1 keep gr sub1 out1 tT1 nP1 go hf hfn hge hfr => ?_)
  rw [hcl] at hf
  have n2 := List.nodup_cons.mp nd
  have x0 : Evo F H (P' :: fp') F1 H1 (P' :: fp') := ⟨fun b o h n => keep b o h fun z => n (by rw [z]; exact List.mem_cons_self), gr, fun b o h f _ => out1 b o h f, fun b hb => .inl hb⟩
  have d1 : DS X.K F1 H1 (some v :: σ') (.tabd dd P' :: ev') (P' :: fp') := by
    refine ⟨sub1, .tabd (rv.mono fun _ _ => gr.rd) tT1 nP1 (sr'.mono gr (fun b hb u hu => keep b u hu fun z => n2.1 (by rw [← z]; exact hb)) fun b hb => ?_), nd⟩
    obtain ⟨q1, u, q2⟩ := sr'.free b hb
    exact out1 b u q2 q1
  have I1' : Inv X (pins ++ [(f, PySem.W.kla_obj "<lambda>" lamQ params body scope [] pm c' ctv)]) (some v :: σ') H1 s1 := I1.pins_of fun q hq => by
    rcases List.mem_append.mp hq with z | z
    · exact I1.pin q (List.mem_append_right _ z)
    · cases List.mem_singleton.mp z
      exact ⟨hf, hfn, Nat.ne_of_gt (Nat.lt_of_lt_of_le I.lt hge), I.nofs hge, fun v z => by cases z⟩
  have mD : MeetD X.K cl E (some v :: σ') F1 H1 (P' :: fp') (fun vs H2 => spL X.K cl f c' g (.ref f :: vs) H2 Q E) (argsS [f1, f2, f3] (.tabd dd P' :: ev')) := by
    unfold eCall at m
    cases ea : argsS [f1, f2, f3] (.tabd dd P' :: ev') with
    | stuck => rw [ea] at m; exact m
    | exc k => rw [ea] at m; exact ExcOk.shift x0 m
    | ok ds ev2 =>
      rw [ea] at m
      simp only [Out.bind_ok] at m
      intro F2 H2 fp2 vs x2 d2 rs
      have l3 := argsS_len [f1, f2, f3] ea
      match ds, l3, rs, m with
      | [x, y, z], _, rs, m =>
      refine ⟨by rw [List.length_cons, rs.length]; rfl, F2, .dat (.fn f) :: [x, y, z].map Sl.dat, [], x2.grow _ _ go, ⟨d2.sub, .dat (.fn f) (sr_args rs), .nil⟩, ?_⟩
      have eb : fnSem 9 false (b_err f g) (.dat (.fn f) :: [x, y, z].map Sl.dat) = errS g ([x, y, z].map Sl.dat) := b_err_eq
      rw [eb]
      have x1 := x0.trans x2
      unfold backF at m
      cases eo : errS g ([x, y, z].map Sl.dat) with
      | stuck => simp only [eo] at m; exact m
      | exc k =>
        simp only [eo] at m
        intro H' q
        exact ExcOk.shift x1 m H' fun b o h _ => q b o h (by simp)
      | ok r io =>
        cases io with
        | some o =>
          simp only [eo] at m
          cases r <;> exact m.elim
        | none =>
          rw [eo] at m
          intro F3 H3 w tp fp3 x3 s3 pv n3
          have d3 := d2.behind x3 s3
          have xx : Evo F2 H2 fp2 F3 H3 (tp ++ fp2) := ⟨fun b o h _ => x3.keep b o h (by simp), x3.grow, fun b o h f _ => x3.out b o h f (by simp), fun b hb => by
            rcases List.mem_append.mp hb with z | z
            · rcases x3.fpn b (List.mem_append_left _ z) with q | q
              · cases q
              · exact .inr q
            · exact .inl z⟩
          have nda : (tp ++ fp2).Nodup := List.nodup_append.mpr ⟨(List.nodup_append.mp n3).1, d2.nd, fun a ha b hb z => by
            subst z
            rcases x3.fpn a (List.mem_append_left _ ha) with q | q
            · cases q
            · obtain ⟨_, u, hu⟩ := d2.sr.free a hb
              rw [q] at hu; cases hu⟩
          cases pv with
          | dat r => exact m F3 H3 fp2 w [] (x1.trans xx) d3 (.dat r) nda
          | tmp o f => exact m F3 H3 fp2 _ _ (x1.trans xx) d3 (.tmp o f) nda
  refine thn (pa.run pos _ s1 _ H1 _ I1' (ha F1 H1 _ _ _ _ d1 mD)) fun us s2 h2 => ?_
  obtain ⟨vs, H2, I2, r, q⟩ := h2
  have pf := I2.pin (f, PySem.W.kla_obj "<lambda>" lamQ params body scope [] pm c' ctv) (List.mem_append_right _ (List.mem_append_right _ List.mem_cons_self))
  have I3 : Inv X pins (some v :: σ') H2 s2 := I2.unpinned
  refine ⟨I3.kIn, wpAny_call (codeAny_mono (RE f c' _ ⟨_, _, _, _, rfl⟩ (hR f c' pm ctv) X.A X.stack s2 H2 (.ref f :: us) (.ref f :: vs) Q E (c.room.mono hlv) I3.env0 pf.1 pf.2.1 hfr (.cons rfl r) q) fun r' s' hq => ?_)⟩
  cases r' with
  | error e => exact c.pass pins _ H2 s2 e s' I3 hq
  | ok fl =>
    cases fl with
    | ret u => exact I3.after hq
    | next => exact False.elim hq
    | brk => exact False.elim hq
    | cont => exact False.elim hq
end GW

set_option Elab.async false
set_option linter.all false
set_option maxRecDepth 100000
set_option maxHeartbeats 1000000
namespace GW
open PySem PySem.Spec PyProof.Rows L2

/-! ### a lambda of three parameters that captures nothing -/
/-- its sem, from its body's -/
def lamFS (fe : Ex) : FS := fun args => match fe args with
  | .ok (.bor _) _ => .stuck
  | .ok r _ => .ok r none
  | .exc k => .exc k
  | .stuck => .stuck
theorem lam_runsD {P : Program} {w : World} {K : PySem.W.Frag} {mg : Str → Option Value} {base : Heap} {cl : Cls} {k : Nat} {scope : Scope} {params : Arguments} {body : Expr} {fe : Ex} (S : FnScope ["a", "b", "c"] ["a", "b", "c"] scope)
    (hbind : ∀ (c' : Addr) (pm ctv : Value) (us : List Value), us.length = 3 → bindArgs (PySem.W.kla_fn "<lambda>" lamQ params body scope [] pm (.ref c') ctv) ⟨us, []⟩ = pure ((["a", "b", "c"] : List Str).zip us))
    (hbody : ∀ (f c' : Addr) (A : Around) (outer : List Env) (s : Shared) (H : Hp) (E : XK), Cxt (cxOf (L2N.CX P w) P w K mg base ["a", "b", "c"] lamQ scope f (.ref c') A outer s H E) E k → DE (cxOf (L2N.CX P w) P w K mg base ["a", "b", "c"] lamQ scope f (.ref c') A outer s H E) cl E body fe) :
    ∀ (f c' : Addr) (pm ctv : Value), Runs P w K mg base (L2N.CX P w) (k + 1) f c' (PySem.W.kla_obj "<lambda>" lamQ params body scope [] pm c' ctv) (spD K cl 3 (lamFS fe)) := by
  intro f c' pm ctv
  refine lam_runs S (hbind c' pm ctv) (tb := fun E => canE K cl E fe) (fun A outer s H E hr => ?_) fun vs H Q E h => ?_
  · have tk : L2N.Takes (cxOf (L2N.CX P w) P w K mg base ["a", "b", "c"] lamQ scope f (.ref c') A outer s H E) (fun c d _ H => E c d H) := L2N.takes_of rfl rfl rfl rfl
    exact DE.can (hbody f c' A outer s H E ⟨S.nd, rfl, hr, L2N.passes_call tk fun _ _ _ _ h => h, tk⟩)
  · obtain ⟨hl, F, ev, fp, d, m⟩ := h
    have e0 : L2.start ["a", "b", "c"] vs = vs.map some := by
      unfold L2.start
      rw [hl]
      simp
    refine ⟨hl, F, ev, fp, by rw [e0]; exact d, ?_⟩
    unfold lamFS at m
    cases e : fe ev with
    | stuck => rw [e] at m; exact m
    | exc k => rw [e] at m; exact m
    | ok r e1 =>
      rw [e] at m
      intro F1 H1 fp1 v tp x1 d1 rv nd
      cases rv with
      | dat rp => exact m F1 H1 v [] fp1 x1 d1.sub (.dat rp) nd
      | tmp o f => exact m F1 H1 _ _ fp1 x1 d1.sub (.tmp o f) nd
      | bor _ _ => exact m.elim

/-! ### a def whose code object is known -/
theorem def_okC {P : Program} {w : World} {K : PySem.W.Frag} {mg : Str → Option Value} {base : Heap} {cl : Cls} {x qual : Str} {st : Stmt} {fa : Addr} {oc kV doc pm cdv ct : Value} {od an : Option Addr} {osl : Array (Option Value)} {N ps : List Str} (Wn : List Nat) (io : Bool) {k : Nat} {b : Sx} (lk : K.lookup fa = some ⟨oc, od, .func (PySem.W.fnOf x qual (defArgs st) (defBody st) (defScope st) .none kV doc pm an cdv ct), osl⟩) (hcd : PySem.W.codeIn K cdv qual = true) (S : FnScope N ps (defScope st))
    (hbody : ∀ (A : Around) (outer : List Env) (s : Shared) (H : Hp) (E : XK), Cxt (cxOf (L2N.CX P w) P w K mg base N qual (defScope st) fa cdv A outer s H E) E k →
      PassesOwn (model P w) (cxOf (L2N.CX P w) P w K mg base N qual (defScope st) fa cdv A outer s H E).A (cxOf (L2N.CX P w) P w K mg base N qual (defScope st) fa cdv A outer s H E).env (cxOf (L2N.CX P w) P w K mg base N qual (defScope st) fa cdv A outer s H E).xe →
      DSs (cxOf (L2N.CX P w) P w K mg base N qual (defScope st) fa cdv A outer s H E) cl E Wn (defBody st) b) 
    (h0 : io = true → 0 ∉ Wn := by decide) (hv : io = true → 0 < ps.length := by decide) :
    FnOk P w K mg base (L2N.CX P w) (k + 1) fa (PySem.W.fnOf x qual (defArgs st) (defBody st) (defScope st) .none kV doc pm an cdv ct) ps (spD K cl ps.length (fnSem N.length io b)) := by
  refine fn_of lk hcd S (fun vs H Q E h => h.1) fun A outer s H vs Q E hr h => ?_
  obtain ⟨hn, F0, args, fp, d, m⟩ := h
  have tk : L2N.Takes (cxOf (L2N.CX P w) P w K mg base N qual (defScope st) fa cdv A outer s H E) (fun c d _ H => E c d H) := L2N.takes_of rfl rfl rfl rfl
  have po : PassesOwn (model P w) (cxOf (L2N.CX P w) P w K mg base N qual (defScope st) fa cdv A outer s H E).A (cxOf (L2N.CX P w) P w K mg base N qual (defScope st) fa cdv A outer s H E).env (cxOf (L2N.CX P w) P w K mg base N qual (defScope st) fa cdv A outer s H E).xe := passes_of rfl
  obtain ⟨t, p, hb⟩ := hbody A outer s H E ⟨S.nd, rfl, hr, L2N.passes_call tk fun _ _ _ _ h => h, tk⟩ po
  refine ⟨t, p, ?_⟩
  have la : args.length = vs.length := by have := d.sr.len; simpa using this.symm
  have d0 : DS K F0 H (L2.start N vs) (args ++ List.replicate (N.length - args.length) .un) fp := by
    refine ⟨d.sub, ?_, d.nd⟩
    unfold L2.start
    rw [la]
    exact d.sr.more _
  have hσ : ∀ i, i < vs.length → (L2.start N vs)[i]? = (vs.map some)[i]? := fun i hi => by
    unfold L2.start
    rw [List.getElem?_append_left (by simpa using hi)]
  have hv' : io = true → 0 < vs.length := fun h => by rw [hn]; exact hv h
  refine hb F0 H _ _ fp _ d0 ?_
  unfold fnSem at m
  cases e : b (args ++ List.replicate (N.length - args.length) .un) with
  | nx ev1 =>
    simp only [e] at m
    exact fun F1 H1 σ1 fp1 x1 d1 f1 => fin_meet (X := cxOf (L2N.CX P w) P w K mg base N qual (defScope st) fa cdv A outer s H E) hσ hv' h0 (tp := []) x1 d1 f1 (.dat .non) d1.nd m
  | bk ev1 => simp only [e] at m; exact False.elim m
  | ct ev1 => simp only [e] at m; exact False.elim m
  | rt r ev1 =>
    simp only [e] at m
    intro F1 H1 σ1 fp1 v tp x1 d1 f1 rv nd
    cases rv with
    | dat r => exact fin_meet (X := cxOf (L2N.CX P w) P w K mg base N qual (defScope st) fa cdv A outer s H E) hσ hv' h0 x1 d1 f1 (.dat r) nd m
    | tmp o f => exact fin_meet (X := cxOf (L2N.CX P w) P w K mg base N qual (defScope st) fa cdv A outer s H E) hσ hv' h0 x1 d1 f1 (.tmp o f) nd m
    | bor _ _ => exact False.elim m
  | exc k => simp only [e] at m; exact m
  | stuck => simp only [e] at m; exact False.elim m

/-! ### the end, with the table of law's code object -/
theorem walk_ofTL {l : PySem.W.OpenLaw} {n k : Nat} {q : Program} {loose : List Str} {XP : (Str → Option Value) → Heap → Prop} {YP : World → Heap → Prop} {d : DefRec} {K : Params → PySem.W.Frag} {CX : World → CXT} {x : Str}
    (hn : l.most = some n) (hn2 : n ≤ sizeLine) (hdf : d.params.defaults = []) (hr : Room k callerA) (hY : ∀ (w : World) (h : Heap), YP w h → (K w.params).In h)
    (F : ∀ (w : World) (mg : Str → Option Value) (fa : Addr) (h : Heap), (K w.params).In h → h.Ns mainGlobals mg → mg d.name = some (.ref fa) →
      (∀ (y : Str) (e : DefRec) (c P : Addr), (recsOf q).find? (fun r => r.name == y) = some e → PySem.W.tabIn (K w.params) y = some (c, P) → PySem.W.CodeHd h c P ∧ h.get? P = some { cls := .none, data := .fields #[] }) → LamX.LawAtS l w (K w.params) (CX w) k n x mg fa h)
    (hCX : ∀ (w : World) (H : Hp) (s : Shared) (e : Value) (s' : Shared), CX w [] H s (fun _ _ _ => False) e s' → False) :
    PySem.W.WalkO q loose XP YP l.row.toRowW d [] (fun f vs => PySem.call f vs) := by
  refine Att.attach_callB hn hdf fun w s₀ s₁ mg mb fa o pm cd doc a vs ns G Y ho hd hcd hmg hobj hints hlen hbits hg => ?_
  have KX := hY w _ Y
  obtain ⟨fd, cs, sp, hT, nT, C, hb, hsp, hF⟩ := F w mg fa _ KX G.T.g hmg fun y e c P h1 h2 => PySem.W.tab_of G.T KX h1 h2
  exact LamX.law_callTs KX G.T.g G.T.b G.T.builtins G.T.nolimit hg hT nT C G.T.bmain hobj hints (Nat.le_trans hlen hn2) hr hF hb (fun H hH hS => hsp H a ns hlen hbits hH hS) fun H e s' => hCX w H s₁ e s'
theorem law_endT {K : PySem.W.Frag} {cl : Cls} {f : FS} {H : Hp} {a P : Addr} {ns : List Int} (hS : SqL K H a (ns.map V.int)) (hP : H P = some (.tbl #[])) (nP : K.lookup P = none) (h : f [.tabd (.lst (ns.map D.int)) P] = .ok (.dat (.bl true)) none) :
    spD K cl 1 f [.ref a] H (fun v _ => v = .bl true) fun _ _ _ => False := by
  have ne : P ≠ a := fun z => by
    subst z
    rcases hS with (q | ⟨o, q⟩) | ⟨o, its, n, hk, _⟩
    · rw [hP] at q; cases q
    · rw [hP] at q; cases q
    · rw [nP] at hk; cases hk
  refine ⟨rfl, onlyAt H a, [.tabd (.lst (ns.map D.int)) P], [P], ⟨fun b u r => ?_, ?_, by simp⟩, ?_⟩
  · rcases r with r | ⟨o, r⟩
    · exact .inl (onlyAt_some r)
    · exact .inr ⟨o, onlyAt_some r⟩
  · refine .tabd (.lst (vs := ns.map V.int) ?_ (RpL.of_ints ns)) ⟨#[], hP, True.intro, fun pos cv z => ?_⟩ (if_neg ne) .nil
    · rcases hS with (q | ⟨o, q⟩) | q
      · exact .inl (.inl (onlyAt_same.trans q))
      · exact .inl (.inr ⟨o, onlyAt_same.trans q⟩)
      · exact .inr q
    · have z' : codeAmong pos [] = some cv := z
      simp [codeAmong] at z'
  · rw [h]
    intro F' H' v tp fp' x s pv nd
    cases pv with
    | dat r => cases r; rfl
theorem noFree {names : List (Str × NameKind)} {cells : List (Str × Addr)} (h : (names.all fun y => !decide (y.2 = .free)) = true) : ∀ y ∈ names, y.2 = .free → ∃ c, cells.lookup y.1 = some c := fun y hy e => by
  have z := List.all_eq_true.mp h y hy
  rw [decide_eq_true e] at z
  cases z
theorem tab_mk {K : PySem.W.Frag} {x : Str} {f cc Pt : Addr} {oc xc : Value} {od xd : Option Addr} {fd : FuncData} {osl xs : Array (Option Value)} {vs : Array Value} (a : PySem.W.nsIn K mainGlobals x = some (some (.ref f))) (l : K.lookup f = some ⟨oc, od, .func fd, osl⟩) (e : fd.code = .ref cc)
    (lc : K.lookup cc = some ⟨xc, xd, .fields vs, xs⟩) (v : (vs[11]? : Option Value) = some (.ref Pt)) : PySem.W.tabIn K x = some (cc, Pt) := by
  unfold PySem.W.tabIn
  rw [a]
  simp only [l, e, lc, v]
end GW

set_option Elab.async false
set_option linter.all false
set_option maxRecDepth 100000
namespace GW
open PySem L2
/-! ### loops -/
theorem forS_inv {b : Bx} {body : Sx} (P : Nat → List Sl → Prop) : ∀ {items : List D} {k : Nat} {ev : List Sl}, P k ev →
    (∀ i x ev, items[i]? = some x → P (k + i) ev → ∃ e1 e2, b x ev = some e1 ∧ (body e1 = .nx e2 ∨ body e1 = .ct e2) ∧ P (k + i + 1) e2) → ∃ e2, forS b body items ev = .nx e2 ∧ P (k + items.length) e2
  | [], k, ev, h0, _ => ⟨ev, rfl, h0⟩
  | x :: xs, k, ev, h0, hs => by
    obtain ⟨e1, e2, h1, h2, h3⟩ := hs 0 x ev rfl h0
    obtain ⟨e3, h4, h5⟩ := forS_inv P (items := xs) (k := k + 1) (ev := e2) h3 fun i y ev' hy hp => by
      have := hs (i + 1) y ev' (by simpa using hy) (by rw [show k + (i + 1) = k + 1 + i by omega]; exact hp)
      rw [show k + (i + 1) + 1 = k + 1 + i + 1 by omega] at this
      exact this
    refine ⟨e3, ?_, by rw [List.length_cons, show k + (xs.length + 1) = k + 1 + xs.length by omega]; exact h5⟩
    unfold forS
    rw [h1]
    rcases h2 with h2 | h2 <;> (simp only [h2]; exact h4)
theorem forS_range {b : Bx} {body : Sx} {lo : Int} {n : Nat} {ev : List Sl} (P : Nat → List Sl → Prop) (h0 : P 0 ev)
    (hs : ∀ i ev, i < n → P i ev → ∃ e1 e2, b (.int (lo + (i : Nat))) ev = some e1 ∧ (body e1 = .nx e2 ∨ body e1 = .ct e2) ∧ P (i + 1) e2) : ∃ e2, forS b body (rangeD lo n) ev = .nx e2 ∧ P n e2 := by
  obtain ⟨e2, h1, h2⟩ := forS_inv (b := b) (body := body) (items := rangeD lo n) P (k := 0) h0 fun i x ev hx hp => by
    have hi : i < n := by
      have := (List.getElem?_eq_some_iff.mp hx).1
      rwa [rangeD_len] at this
    rw [rangeD_get hi] at hx
    cases hx
    rw [Nat.zero_add] at hp ⊢
    exact hs i ev hi hp
  rw [Nat.zero_add, rangeD_len] at h2
  exact ⟨e2, h1, h2⟩
theorem forO_inv {body : Sx} {i : Nat} (P : List Sl → Prop) (B : O → Prop) : ∀ {os : List O} {ev : List Sl}, P ev → (∀ o ∈ os, B o) →
    (∀ o ev, B o → P ev → ∃ e2, (body (ev.set i (.own o)) = .nx e2 ∨ body (ev.set i (.own o)) = .ct e2) ∧ P e2) → ∃ e2, forO i body os ev = .nx e2 ∧ P e2
  | [], ev, h0, _, _ => ⟨ev, rfl, h0⟩
  | o :: os, ev, h0, hb, hs => by
    obtain ⟨e2, h2, h3⟩ := hs o ev (hb _ List.mem_cons_self) h0
    obtain ⟨e3, h4, h5⟩ := forO_inv P B (os := os) (ev := e2) h3 (fun o' h => hb o' (List.mem_cons_of_mem _ h)) hs
    refine ⟨e3, ?_, h5⟩
    unfold forO
    rcases h2 with h2 | h2 <;> (simp only [h2]; exact h4)
end GW

set_option Elab.async false
set_option linter.all false
set_option maxRecDepth 100000
namespace GW
open PySem L2

theorem ev_C {d : D} {ev : List Sl} : eC d ev = .ok (.dat d) ev := (rfl : _ = _).trans rfl
def evV (s : Option Sl) (i : Nat) (ev : List Sl) : Out R := match s with
  | some (.dat d) => .ok (.dat d) ev
  | some (.own _) => .ok (.bor i) ev
  | _ => .stuck
theorem ev_V {i : Nat} {ev : List Sl} : eV i ev = evV ev[i]? i ev := (rfl : _ = _).trans rfl
theorem ev_V1 {i : Nat} {d : D} {ev : List Sl} : evV (some (.dat d)) i ev = .ok (.dat d) ev := (rfl : _ = _).trans rfl
theorem ev_V2 {i : Nat} {o : O} {ev : List Sl} : evV (some (.own o)) i ev = .ok (.bor i) ev := (rfl : _ = _).trans rfl
def lkB (s : Option Sl) : Option D := match s with
  | some (.own o) => some o.toD
  | some (.dat d) => some d
  | _ => none
theorem lk_dat {d : D} {ev : List Sl} : lookR ev (.dat d) = some d := (rfl : _ = _).trans rfl
theorem lk_tmp {o : O} {ev : List Sl} : lookR ev (.tmp o) = some o.toD := (rfl : _ = _).trans rfl
theorem lk_bor {i : Nat} {ev : List Sl} : lookR ev (.bor i) = lkB ev[i]? := (rfl : _ = _).trans rfl
theorem lkB1 {o : O} : lkB (some (.own o)) = some o.toD := (rfl : _ = _).trans rfl
theorem lkB2 {d : D} : lkB (some (.dat d)) = some d := (rfl : _ = _).trans rfl
theorem so_dat {d : D} : solidR (.dat d) = .dat d := (rfl : _ = _).trans rfl
theorem so_tmp {o : O} : solidR (.tmp o) = .dat o.toD := (rfl : _ = _).trans rfl
theorem so_bor {i : Nat} : solidR (.bor i) = .bor i := (rfl : _ = _).trans rfl
theorem toD1 {xs : List D} : O.toD (.lst xs) = .lst xs := (rfl : _ = _).trans rfl
theorem toD2 {xs : List (Key × D)} : O.toD (.dK xs) = .dK xs := (rfl : _ = _).trans rfl
theorem toD3 {xs : List (List Key × D)} : O.toD (.dT xs) = .dT xs := (rfl : _ = _).trans rfl
theorem op1 {d : D} {ev : List Sl} : opOut (some (.dat d)) ev = .ok (.dat d) ev := (rfl : _ = _).trans rfl
theorem op2 {o : O} {ev : List Sl} : opOut (some (.tmp o)) ev = .ok (.tmp o) ev := (rfl : _ = _).trans rfl
def bin1 (g : D → D → Option R) (b : Ex) (o : Out R) : Out R := o.bind fun ra e1 => (b e1).bind fun rb e2 => match lookR e2 (solidR ra), lookR e2 (solidR rb) with
  | some x, some y => opOut (g x y) e2
  | _, _ => .stuck
def bin2 (g : D → D → Option R) (ra : R) (o : Out R) : Out R := o.bind fun rb e2 => match lookR e2 (solidR ra), lookR e2 (solidR rb) with
  | some x, some y => opOut (g x y) e2
  | _, _ => .stuck
def bin3 (g : D → D → Option R) (x y : Option D) (e2 : List Sl) : Out R := match x, y with
  | some x, some y => opOut (g x y) e2
  | _, _ => .stuck
theorem ev_Bin {g : D → D → Option R} {a b : Ex} {ev : List Sl} : eBin g a b ev = bin1 g b (a ev) := (rfl : _ = _).trans rfl
theorem bin1_ok {g : D → D → Option R} {b : Ex} {r : R} {e : List Sl} : bin1 g b (.ok r e) = bin2 g r (b e) := (rfl : _ = _).trans rfl
theorem bin2_ok {g : D → D → Option R} {r q : R} {e : List Sl} : bin2 g r (.ok q e) = bin3 g (lookR e (solidR r)) (lookR e (solidR q)) e := (rfl : _ = _).trans rfl
theorem bin3_ok {g : D → D → Option R} {x y : D} {e : List Sl} : bin3 g (some x) (some y) e = opOut (g x y) e := (rfl : _ = _).trans rfl
def un1 (g : D → Option R) (o : Out R) : Out R := o.bind fun ra e1 => match lookR e1 (solidR ra) with
  | some x => opOut (g x) e1
  | _ => .stuck
def un2 (g : D → Option R) (x : Option D) (e1 : List Sl) : Out R := match x with
  | some x => opOut (g x) e1
  | _ => .stuck
theorem ev_Un {g : D → Option R} {a : Ex} {ev : List Sl} : eUn g a ev = un1 g (a ev) := (rfl : _ = _).trans rfl
theorem un1_ok {g : D → Option R} {r : R} {e : List Sl} : un1 g (.ok r e) = un2 g (lookR e (solidR r)) e := (rfl : _ = _).trans rfl
theorem un2_ok {g : D → Option R} {x : D} {e : List Sl} : un2 g (some x) e = opOut (g x) e := (rfl : _ = _).trans rfl
def aO1 (fs : List Ex) (o : Out R) : Out (List R) := o.bind fun r e1 => (argsO fs e1).bind fun rs e2 => .ok (solidR r :: rs) e2
def aO2 (r : R) (o : Out (List R)) : Out (List R) := o.bind fun rs e2 => .ok (solidR r :: rs) e2
theorem aO_nil {ev : List Sl} : argsO [] ev = .ok [] ev := (rfl : _ = _).trans rfl
theorem aO_cons {f : Ex} {fs : List Ex} {ev : List Sl} : argsO (f :: fs) ev = aO1 fs (f ev) := (rfl : _ = _).trans rfl
theorem aO1_ok {fs : List Ex} {r : R} {e : List Sl} : aO1 fs (.ok r e) = aO2 r (argsO fs e) := (rfl : _ = _).trans rfl
theorem aO2_ok {r : R} {rs : List R} {e : List Sl} : aO2 r (.ok rs e) = .ok (solidR r :: rs) e := (rfl : _ = _).trans rfl
def lA (x : Option D) (xs : Option (List D)) : Option (List D) := match x, xs with
  | some d, some ds => some (d :: ds)
  | _, _ => none
theorem lA_nil {ev : List Sl} : lookAll ev [] = some [] := (rfl : _ = _).trans rfl
theorem lA_cons {r : R} {rs : List R} {ev : List Sl} : lookAll ev (r :: rs) = lA (lookR ev r) (lookAll ev rs) := (rfl : _ = _).trans rfl
theorem lA_ok {d : D} {ds : List D} : lA (some d) (some ds) = some (d :: ds) := (rfl : _ = _).trans rfl
def eB1 (g : List D → Option R) (o : Out (List R)) : Out R := o.bind fun rs e1 => match lookAll e1 rs with
  | some xs => opOut (g xs) e1
  | _ => .stuck
def eB2 (g : List D → Option R) (x : Option (List D)) (e1 : List Sl) : Out R := match x with
  | some xs => opOut (g xs) e1
  | _ => .stuck
theorem ev_B {g : List D → Option R} {fs : List Ex} {ev : List Sl} : eB g fs ev = eB1 g (argsO fs ev) := (rfl : _ = _).trans rfl
theorem eB1_ok {g : List D → Option R} {rs : List R} {e : List Sl} : eB1 g (.ok rs e) = eB2 g (lookAll e rs) e := (rfl : _ = _).trans rfl
theorem eB2_ok {g : List D → Option R} {xs : List D} {e : List Sl} : eB2 g (some xs) e = opOut (g xs) e := (rfl : _ = _).trans rfl
def stoB (s : Option Sl) (i : Nat) (e1 : List Sl) : Out D := match s with
  | some (.own o) => .ok o.toD (e1.set i (.dat o.toD))
  | _ => .stuck
theorem sto_dat {d : D} {e : List Sl} : stoR (.dat d) e = .ok d e := (rfl : _ = _).trans rfl
theorem sto_tmp {o : O} {e : List Sl} : stoR (.tmp o) e = .ok o.toD e := (rfl : _ = _).trans rfl
theorem sto_bor {i : Nat} {e : List Sl} : stoR (.bor i) e = stoB e[i]? i e := (rfl : _ = _).trans rfl
theorem stoB_ok {i : Nat} {o : O} {e : List Sl} : stoB (some (.own o)) i e = .ok o.toD (e.set i (.dat o.toD)) := (rfl : _ = _).trans rfl
def aS1 (fs : List Ex) (o : Out R) : Out (List D) := o.bind fun r e0 => (stoR r e0).bind fun d e1 => (argsS fs e1).bind fun ds e2 => .ok (d :: ds) e2
def aS2 (fs : List Ex) (o : Out D) : Out (List D) := o.bind fun d e1 => (argsS fs e1).bind fun ds e2 => .ok (d :: ds) e2
def aS3 (d : D) (o : Out (List D)) : Out (List D) := o.bind fun ds e2 => .ok (d :: ds) e2
theorem aS_nil {ev : List Sl} : argsS [] ev = .ok [] ev := (rfl : _ = _).trans rfl
theorem aS_cons {f : Ex} {fs : List Ex} {ev : List Sl} : argsS (f :: fs) ev = aS1 fs (f ev) := (rfl : _ = _).trans rfl
theorem aS1_ok {fs : List Ex} {r : R} {e : List Sl} : aS1 fs (.ok r e) = aS2 fs (stoR r e) := (rfl : _ = _).trans rfl
theorem aS2_ok {fs : List Ex} {d : D} {e : List Sl} : aS2 fs (.ok d e) = aS3 d (argsS fs e) := (rfl : _ = _).trans rfl
theorem aS3_ok {d : D} {ds : List D} {e : List Sl} : aS3 d (.ok ds e) = .ok (d :: ds) e := (rfl : _ = _).trans rfl
def tup1 (o : Out (List D)) : Out R := o.bind fun ds e1 => if ds.length ≤ lim then .ok (.dat (.tup ds)) e1 else .stuck
def lst1 (o : Out (List D)) : Out R := o.bind fun ds e1 => if ds.length ≤ lim then .ok (.tmp (.lst ds)) e1 else .stuck
theorem ev_Tup {fs : List Ex} {ev : List Sl} : eTup fs ev = tup1 (argsS fs ev) := (rfl : _ = _).trans rfl
theorem ev_Lst {fs : List Ex} {ev : List Sl} : eLst fs ev = lst1 (argsS fs ev) := (rfl : _ = _).trans rfl
theorem tup1_ok {ds : List D} {e : List Sl} (h : ds.length ≤ lim) : tup1 (.ok ds e) = .ok (.dat (.tup ds)) e := if_pos h
theorem lst1_ok {ds : List D} {e : List Sl} (h : ds.length ≤ lim) : lst1 (.ok ds e) = .ok (.tmp (.lst ds)) e := if_pos h
def call1 (f : FS) (o : Out (List D)) : Out R := o.bind fun ds e1 => backF (f (ds.map Sl.dat)) e1
theorem ev_Call {f : FS} {fs : List Ex} {ev : List Sl} : eCall f fs ev = call1 f (argsS fs ev) := (rfl : _ = _).trans rfl
theorem call1_ok {f : FS} {ds : List D} {e : List Sl} : call1 f (.ok ds e) = backF (f (ds.map Sl.dat)) e := (rfl : _ = _).trans rfl
theorem back_dat {d : D} {e : List Sl} : backF (.ok (.dat d) none) e = .ok (.dat d) e := (rfl : _ = _).trans rfl
theorem back_tmp {o : O} {e : List Sl} : backF (.ok (.tmp o) none) e = .ok (.tmp o) e := (rfl : _ = _).trans rfl
theorem back_exc {k : Nat} {e : List Sl} : backF (.exc k) e = .exc k := (rfl : _ = _).trans rfl
def callB0 (s : Option Sl) (i : Nat) (f : FS) (fs : List Ex) (ev : List Sl) : Out R := match s with
  | some (.own _) => (argsS fs ev).bind fun ds e1 => (match e1[i]? with
    | some (.own o) => (match f (.own o :: ds.map Sl.dat) with
      | .ok (.bor _) _ => .stuck
      | .ok r (some o') => .ok r (e1.set i (.own o'))
      | .ok _ none => .stuck
      | .exc k => .exc k
      | .stuck => .stuck)
    | _ => .stuck)
  | _ => .stuck
def callB1 (i : Nat) (f : FS) (o : Out (List D)) : Out R := o.bind fun ds e1 => (match e1[i]? with
    | some (.own o) => (match f (.own o :: ds.map Sl.dat) with
      | .ok (.bor _) _ => .stuck
      | .ok r (some o') => .ok r (e1.set i (.own o'))
      | .ok _ none => .stuck
      | .exc k => .exc k
      | .stuck => .stuck)
    | _ => .stuck)
def callB2 (s : Option Sl) (i : Nat) (f : FS) (ds : List D) (e1 : List Sl) : Out R := match s with
    | some (.own o) => (match f (.own o :: ds.map Sl.dat) with
      | .ok (.bor _) _ => .stuck
      | .ok r (some o') => .ok r (e1.set i (.own o'))
      | .ok _ none => .stuck
      | .exc k => .exc k
      | .stuck => .stuck)
    | _ => .stuck
def callB3 (i : Nat) (e1 : List Sl) (o : FOut) : Out R := match o with
      | .ok (.bor _) _ => .stuck
      | .ok r (some o') => .ok r (e1.set i (.own o'))
      | .ok _ none => .stuck
      | .exc k => .exc k
      | .stuck => .stuck
theorem ev_CallB {i : Nat} {f : FS} {fs : List Ex} {ev : List Sl} : eCallB i f fs ev = callB0 ev[i]? i f fs ev := (rfl : _ = _).trans rfl
theorem callB0_ok {i : Nat} {f : FS} {fs : List Ex} {o : O} {ev : List Sl} : callB0 (some (.own o)) i f fs ev = callB1 i f (argsS fs ev) := (rfl : _ = _).trans rfl
theorem callB1_ok {i : Nat} {f : FS} {ds : List D} {e : List Sl} : callB1 i f (.ok ds e) = callB2 e[i]? i f ds e := (rfl : _ = _).trans rfl
theorem callB2_ok {i : Nat} {f : FS} {ds : List D} {o : O} {e : List Sl} : callB2 (some (.own o)) i f ds e = callB3 i e (f (.own o :: ds.map Sl.dat)) := (rfl : _ = _).trans rfl
theorem callB3_dat {i : Nat} {d : D} {o : O} {e : List Sl} : callB3 i e (.ok (.dat d) (some o)) = .ok (.dat d) (e.set i (.own o)) := (rfl : _ = _).trans rfl
theorem callB3_tmp {i : Nat} {d : O} {o : O} {e : List Sl} : callB3 i e (.ok (.tmp d) (some o)) = .ok (.tmp d) (e.set i (.own o)) := (rfl : _ = _).trans rfl
def sl1 (lo hi : Px) (o : Out R) : Out R := o.bind fun r e1 => (lo e1).bind fun a e2 => (hi e2).bind fun b e3 => match lookR e3 (solidR r) with
  | some x => opOut (gSl a b x) e3
  | none => .stuck
def sl2 (r : R) (hi : Px) (o : Out (Option Int)) : Out R := o.bind fun a e2 => (hi e2).bind fun b e3 => match lookR e3 (solidR r) with
  | some x => opOut (gSl a b x) e3
  | none => .stuck
def sl3 (r : R) (a : Option Int) (o : Out (Option Int)) : Out R := o.bind fun b e3 => match lookR e3 (solidR r) with
  | some x => opOut (gSl a b x) e3
  | none => .stuck
def sl4 (a b : Option Int) (x : Option D) (e3 : List Sl) : Out R := match x with
  | some x => opOut (gSl a b x) e3
  | none => .stuck
theorem ev_Sl {f : Ex} {lo hi : Px} {ev : List Sl} : eSl f lo hi ev = sl1 lo hi (f ev) := (rfl : _ = _).trans rfl
theorem sl1_ok {lo hi : Px} {r : R} {e : List Sl} : sl1 lo hi (.ok r e) = sl2 r hi (lo e) := (rfl : _ = _).trans rfl
theorem sl2_ok {hi : Px} {r : R} {a : Option Int} {e : List Sl} : sl2 r hi (.ok a e) = sl3 r a (hi e) := (rfl : _ = _).trans rfl
theorem sl3_ok {r : R} {a b : Option Int} {e : List Sl} : sl3 r a (.ok b e) = sl4 a b (lookR e (solidR r)) e := (rfl : _ = _).trans rfl
theorem sl4_ok {x : D} {a b : Option Int} {e : List Sl} : sl4 a b (some x) e = opOut (gSl a b x) e := (rfl : _ = _).trans rfl
theorem gSl_t {xs : List D} {a b : Option Int} : gSl a b (.tup xs) = some (.dat (.tup (cutD xs a b))) := (rfl : _ = _).trans rfl
theorem gSl_l {xs : List D} {a b : Option Int} : gSl a b (.lst xs) = some (.tmp (.lst (cutD xs a b))) := (rfl : _ = _).trans rfl
def pI1 (o : Out R) : Out (Option Int) := o.bind fun r e1 => match r with
  | .dat (.int i) => .ok (some i) e1
  | _ => .stuck
theorem ev_pNo {ev : List Sl} : pNo ev = .ok none ev := (rfl : _ = _).trans rfl
theorem ev_pInt {f : Ex} {ev : List Sl} : pInt f ev = pI1 (f ev) := (rfl : _ = _).trans rfl
theorem pI1_ok {i : Int} {e : List Sl} : pI1 (.ok (.dat (.int i)) e) = .ok (some i) e := (rfl : _ = _).trans rfl
def if1 (a b : Ex) (o : Out Bool) : Out R := o.bind fun k e1 => if k = true then a e1 else b e1
theorem ev_If {c : Tx} {a b : Ex} {ev : List Sl} : eIf c a b ev = if1 a b (c ev) := (rfl : _ = _).trans rfl
theorem if1_t {a b : Ex} {e : List Sl} : if1 a b (.ok true e) = a e := (rfl : _ = _).trans rfl
theorem if1_f {a b : Ex} {e : List Sl} : if1 a b (.ok false e) = b e := (rfl : _ = _).trans rfl
def toB1 (o : Out R) : Out Bool := o.bind fun r e1 => match r with
  | .dat (.bl b) => .ok b e1
  | _ => .stuck
theorem ev_toB {f : Ex} {ev : List Sl} : toB f ev = toB1 (f ev) := (rfl : _ = _).trans rfl
theorem toB1_ok {b : Bool} {e : List Sl} : toB1 (.ok (.dat (.bl b)) e) = .ok b e := (rfl : _ = _).trans rfl
def and1 (fb : Ex) (o : Out Bool) : Out R := o.bind fun b e1 => if b = true then fb e1 else .ok (.dat (.bl false)) e1
def or1 (fb : Ex) (o : Out Bool) : Out R := o.bind fun b e1 => if b = true then .ok (.dat (.bl true)) e1 else fb e1
def not1 (o : Out Bool) : Out R := o.bind fun b e1 => .ok (.dat (.bl (!b))) e1
theorem ev_And {a b : Ex} {ev : List Sl} : eAnd a b ev = and1 b (toB a ev) := (rfl : _ = _).trans rfl
theorem ev_Or {a b : Ex} {ev : List Sl} : eOr a b ev = or1 b (toB a ev) := (rfl : _ = _).trans rfl
theorem ev_Not {a : Ex} {ev : List Sl} : eNot a ev = not1 (toB a ev) := (rfl : _ = _).trans rfl
theorem and1_t {b : Ex} {e : List Sl} : and1 b (.ok true e) = b e := (rfl : _ = _).trans rfl
theorem and1_f {b : Ex} {e : List Sl} : and1 b (.ok false e) = .ok (.dat (.bl false)) e := (rfl : _ = _).trans rfl
theorem or1_t {b : Ex} {e : List Sl} : or1 b (.ok true e) = .ok (.dat (.bl true)) e := (rfl : _ = _).trans rfl
theorem or1_f {b : Ex} {e : List Sl} : or1 b (.ok false e) = b e := (rfl : _ = _).trans rfl
theorem not1_ok {b : Bool} {e : List Sl} : not1 (.ok b e) = .ok (.dat (.bl (!b))) e := (rfl : _ = _).trans rfl
def tand1 (fb : Tx) (o : Out Bool) : Out Bool := o.bind fun b e1 => if b = true then fb e1 else .ok false e1
def tor1 (fb : Tx) (o : Out Bool) : Out Bool := o.bind fun b e1 => if b = true then .ok true e1 else fb e1
def tnot1 (o : Out Bool) : Out Bool := o.bind fun b e1 => .ok (!b) e1
theorem ev_tAnd {a b : Tx} {ev : List Sl} : GW.tAnd a b ev = tand1 b (a ev) := (rfl : _ = _).trans rfl
theorem ev_tOr {a b : Tx} {ev : List Sl} : GW.tOr a b ev = tor1 b (a ev) := (rfl : _ = _).trans rfl
theorem ev_tNot {a : Tx} {ev : List Sl} : GW.tNot a ev = tnot1 (a ev) := (rfl : _ = _).trans rfl
theorem tand1_t {b : Tx} {e : List Sl} : tand1 b (.ok true e) = b e := (rfl : _ = _).trans rfl
theorem tand1_f {b : Tx} {e : List Sl} : tand1 b (.ok false e) = .ok false e := (rfl : _ = _).trans rfl
theorem tor1_t {b : Tx} {e : List Sl} : tor1 b (.ok true e) = .ok true e := (rfl : _ = _).trans rfl
theorem tor1_f {b : Tx} {e : List Sl} : tor1 b (.ok false e) = b e := (rfl : _ = _).trans rfl
theorem tnot1_ok {b : Bool} {e : List Sl} : tnot1 (.ok b e) = .ok (!b) e := (rfl : _ = _).trans rfl
theorem ev_tYes {ev : List Sl} : tYes' ev = .ok true ev := (rfl : _ = _).trans rfl
def ch1 (g g' : Int → Int → Bool) (fb fc : Ex) (o : Out R) : Out R := o.bind fun ra e1 => (fb e1).bind fun rb e2 =>
  match ra, rb with
  | .dat (.int i), .dat (.int j) => if g i j = true then (fc e2).bind fun rc e3 => (match rc with
      | .dat (.int k) => .ok (.dat (.bl (g' j k))) e3
      | _ => .stuck) else .ok (.dat (.bl false)) e2
  | _, _ => .stuck
def ch2 (g g' : Int → Int → Bool) (ra : R) (fc : Ex) (o : Out R) : Out R := o.bind fun rb e2 =>
  match ra, rb with
  | .dat (.int i), .dat (.int j) => if g i j = true then (fc e2).bind fun rc e3 => (match rc with
      | .dat (.int k) => .ok (.dat (.bl (g' j k))) e3
      | _ => .stuck) else .ok (.dat (.bl false)) e2
  | _, _ => .stuck
def ch3 (g' : Int → Int → Bool) (j : Int) (fc : Ex) (e2 : List Sl) (b : Bool) : Out R := if b = true then (fc e2).bind fun rc e3 => (match rc with
      | .dat (.int k) => .ok (.dat (.bl (g' j k))) e3
      | _ => .stuck) else .ok (.dat (.bl false)) e2
def ch4 (g' : Int → Int → Bool) (j : Int) (o : Out R) : Out R := o.bind fun rc e3 => (match rc with
      | .dat (.int k) => .ok (.dat (.bl (g' j k))) e3
      | _ => .stuck)
theorem ev_Chain {g g' : Int → Int → Bool} {a b c : Ex} {ev : List Sl} : eChain g g' a b c ev = ch1 g g' b c (a ev) := (rfl : _ = _).trans rfl
theorem ch1_ok {g g' : Int → Int → Bool} {b c : Ex} {r : R} {e : List Sl} : ch1 g g' b c (.ok r e) = ch2 g g' r c (b e) := (rfl : _ = _).trans rfl
theorem ch2_ok {g g' : Int → Int → Bool} {c : Ex} {i j : Int} {e : List Sl} : ch2 g g' (.dat (.int i)) c (.ok (.dat (.int j)) e) = ch3 g' j c e (g i j) := (rfl : _ = _).trans rfl
theorem ch3_t {g' : Int → Int → Bool} {j : Int} {c : Ex} {e : List Sl} : ch3 g' j c e true = ch4 g' j (c e) := (rfl : _ = _).trans rfl
theorem ch3_f {g' : Int → Int → Bool} {j : Int} {c : Ex} {e : List Sl} : ch3 g' j c e false = .ok (.dat (.bl false)) e := (rfl : _ = _).trans rfl
theorem ch4_ok {g' : Int → Int → Bool} {j k : Int} {e : List Sl} : ch4 g' j (.ok (.dat (.int k)) e) = .ok (.dat (.bl (g' j k))) e := (rfl : _ = _).trans rfl
def d36 (g2 : Int → Int → Bool) (k : Int) (o : Out R) : Out R := o.bind fun rd e4 => (match rd with
          | .dat (.int l) => .ok (.dat (.bl (g2 k l))) e4
          | _ => .stuck)
def d35 (g2 : Int → Int → Bool) (k : Int) (fd : Ex) (e3 : List Sl) (b : Bool) : Out R := if b = true then d36 g2 k (fd e3) else .ok (.dat (.bl false)) e3
def d34 (g' g2 : Int → Int → Bool) (j : Int) (fd : Ex) (o : Out R) : Out R := o.bind fun rc e3 => (match rc with
      | .dat (.int k) => d35 g2 k fd e3 (g' j k)
      | _ => .stuck)
def d33 (g' g2 : Int → Int → Bool) (j : Int) (fc fd : Ex) (e2 : List Sl) (b : Bool) : Out R := if b = true then d34 g' g2 j fd (fc e2) else .ok (.dat (.bl false)) e2
def d32 (g g' g2 : Int → Int → Bool) (ra : R) (fc fd : Ex) (o : Out R) : Out R := o.bind fun rb e2 =>
  match ra, rb with
  | .dat (.int i), .dat (.int j) => d33 g' g2 j fc fd e2 (g i j)
  | _, _ => .stuck
def d31 (g g' g2 : Int → Int → Bool) (fb fc fd : Ex) (o : Out R) : Out R := o.bind fun ra e1 => d32 g g' g2 ra fc fd (fb e1)
theorem ev_Chain3 {g g' g2 : Int → Int → Bool} {a b c d : Ex} {ev : List Sl} : eChain3 g g' g2 a b c d ev = d31 g g' g2 b c d (a ev) := (rfl : _ = _).trans rfl
theorem d31_ok {g g' g2 : Int → Int → Bool} {b c d : Ex} {r : R} {e : List Sl} : d31 g g' g2 b c d (.ok r e) = d32 g g' g2 r c d (b e) := (rfl : _ = _).trans rfl
theorem d32_ok {g g' g2 : Int → Int → Bool} {c d : Ex} {i j : Int} {e : List Sl} : d32 g g' g2 (.dat (.int i)) c d (.ok (.dat (.int j)) e) = d33 g' g2 j c d e (g i j) := (rfl : _ = _).trans rfl
theorem d33_t {g' g2 : Int → Int → Bool} {j : Int} {c d : Ex} {e : List Sl} : d33 g' g2 j c d e true = d34 g' g2 j d (c e) := (rfl : _ = _).trans rfl
theorem d33_f {g' g2 : Int → Int → Bool} {j : Int} {c d : Ex} {e : List Sl} : d33 g' g2 j c d e false = .ok (.dat (.bl false)) e := (rfl : _ = _).trans rfl
theorem d34_ok {g' g2 : Int → Int → Bool} {j k : Int} {d : Ex} {e : List Sl} : d34 g' g2 j d (.ok (.dat (.int k)) e) = d35 g2 k d e (g' j k) := (rfl : _ = _).trans rfl
theorem d35_t {g2 : Int → Int → Bool} {k : Int} {d : Ex} {e : List Sl} : d35 g2 k d e true = d36 g2 k (d e) := (rfl : _ = _).trans rfl
theorem d35_f {g2 : Int → Int → Bool} {k : Int} {d : Ex} {e : List Sl} : d35 g2 k d e false = .ok (.dat (.bl false)) e := (rfl : _ = _).trans rfl
theorem d36_ok {g2 : Int → Int → Bool} {k l : Int} {e : List Sl} : d36 g2 k (.ok (.dat (.int l)) e) = .ok (.dat (.bl (g2 k l))) e := (rfl : _ = _).trans rfl
def izm1 (o : Out (List D)) : Out (List D) := o.bind fun ds e1 => match ds with
  | [.tup xs, .lst ys] => .ok (zipD xs ys) e1
  | _ => .stuck
theorem ev_iZipM {fs : List Ex} {ev : List Sl} : iZipM fs ev = izm1 (argsS fs ev) := (rfl : _ = _).trans rfl
theorem izm1_ok {xs ys : List D} {e : List Sl} : izm1 (.ok [.tup xs, .lst ys] e) = .ok (zipD xs ys) e := (rfl : _ = _).trans rfl
theorem ev_sSkip {ev : List Sl} : sSkip ev = .nx ev := (rfl : _ = _).trans rfl
theorem ev_sBreak {ev : List Sl} : sBreak ev = .bk ev := (rfl : _ = _).trans rfl
theorem ev_sRetN {ev : List Sl} : sRetN ev = .rt (.dat .non) ev := (rfl : _ = _).trans rfl
def thenS (b : Sx) (o : SOut) : SOut := match o with
  | .nx e1 => b e1
  | o => o
theorem ev_sSeq {a b : Sx} {ev : List Sl} : sSeq a b ev = thenS b (a ev) := (rfl : _ = _).trans rfl
theorem then_nx {b : Sx} {e : List Sl} : thenS b (.nx e) = b e := (rfl : _ = _).trans rfl
theorem then_rt {b : Sx} {r : R} {e : List Sl} : thenS b (.rt r e) = .rt r e := (rfl : _ = _).trans rfl
theorem then_bk {b : Sx} {e : List Sl} : thenS b (.bk e) = .bk e := (rfl : _ = _).trans rfl
theorem then_exc {b : Sx} {k : Nat} : thenS b (.exc k) = .exc k := (rfl : _ = _).trans rfl
def keepB (s : Option Sl) (i : Nat) (e1 : List Sl) : Out R := match s with
    | some (.own o) => .ok (.dat o.toD) (e1.set i (.dat o.toD))
    | _ => .stuck
theorem keep_dat {d : D} {e : List Sl} : keepR (.dat d) e = .ok (.dat d) e := (rfl : _ = _).trans rfl
theorem keep_tmp {o : O} {e : List Sl} : keepR (.tmp o) e = .ok (.tmp o) e := (rfl : _ = _).trans rfl
theorem keep_bor {i : Nat} {e : List Sl} : keepR (.bor i) e = keepB e[i]? i e := (rfl : _ = _).trans rfl
theorem keepB_ok {i : Nat} {o : O} {e : List Sl} : keepB (some (.own o)) i e = .ok (.dat o.toD) (e.set i (.dat o.toD)) := (rfl : _ = _).trans rfl
theorem slot_dat {d : D} : slot (.dat d) = .dat d := (rfl : _ = _).trans rfl
theorem slot_tmp {o : O} : slot (.tmp o) = .own o := (rfl : _ = _).trans rfl
def set1 (i : Nat) (o : Out R) : SOut := match o with
  | .ok r e0 => (match keepR r e0 with
    | .ok r' e1 => .nx (e1.set i (slot r'))
    | _ => .stuck)
  | .exc k => .exc k
  | .stuck => .stuck
def set2 (i : Nat) (o : Out R) : SOut := match o with
    | .ok r' e1 => .nx (e1.set i (slot r'))
    | _ => .stuck
theorem ev_sSet {i : Nat} {f : Ex} {ev : List Sl} : sSet i f ev = set1 i (f ev) := (rfl : _ = _).trans rfl
theorem set1_ok {i : Nat} {r : R} {e : List Sl} : set1 i (.ok r e) = set2 i (keepR r e) := (rfl : _ = _).trans rfl
theorem set1_exc {i : Nat} {k : Nat} : set1 i (.exc k) = .exc k := (rfl : _ = _).trans rfl
theorem set2_ok {i : Nat} {r : R} {e : List Sl} : set2 i (.ok r e) = .nx (e.set i (slot r)) := (rfl : _ = _).trans rfl
def s21 (i j : Nat) (g : Ex) (o : Out R) : SOut := match o with
  | .ok r e0 => (match keepR r e0 with
    | .ok r' e1 => (match g e1 with
      | .ok q e2 => (match keepR q e2 with
        | .ok q' e3 => .nx ((e3.set i (slot r')).set j (slot q'))
        | _ => .stuck)
      | .exc k => .exc k
      | .stuck => .stuck)
    | _ => .stuck)
  | .exc k => .exc k
  | .stuck => .stuck
def s22 (i j : Nat) (g : Ex) (o : Out R) : SOut := match o with
    | .ok r' e1 => (match g e1 with
      | .ok q e2 => (match keepR q e2 with
        | .ok q' e3 => .nx ((e3.set i (slot r')).set j (slot q'))
        | _ => .stuck)
      | .exc k => .exc k
      | .stuck => .stuck)
    | _ => .stuck
def s23 (i j : Nat) (r' : R) (o : Out R) : SOut := match o with
      | .ok q e2 => (match keepR q e2 with
        | .ok q' e3 => .nx ((e3.set i (slot r')).set j (slot q'))
        | _ => .stuck)
      | .exc k => .exc k
      | .stuck => .stuck
def s24 (i j : Nat) (r' : R) (o : Out R) : SOut := match o with
        | .ok q' e3 => .nx ((e3.set i (slot r')).set j (slot q'))
        | _ => .stuck
theorem ev_sSet2 {i j : Nat} {f g : Ex} {ev : List Sl} : sSet2 i j f g ev = s21 i j g (f ev) := (rfl : _ = _).trans rfl
theorem s21_ok {i j : Nat} {g : Ex} {r : R} {e : List Sl} : s21 i j g (.ok r e) = s22 i j g (keepR r e) := (rfl : _ = _).trans rfl
theorem s22_ok {i j : Nat} {g : Ex} {r : R} {e : List Sl} : s22 i j g (.ok r e) = s23 i j r (g e) := (rfl : _ = _).trans rfl
theorem s23_ok {i j : Nat} {q r : R} {e : List Sl} : s23 i j r (.ok q e) = s24 i j r (keepR q e) := (rfl : _ = _).trans rfl
theorem s24_ok {i j : Nat} {q r : R} {e : List Sl} : s24 i j r (.ok q e) = .nx ((e.set i (slot r)).set j (slot q)) := (rfl : _ = _).trans rfl
def s31 (i j l : Nat) (gs : List Ex) (o : Out R) : SOut := match o with
  | .ok r e0 => (match keepR r e0 with
    | .ok r' e1 => (match argsS gs e1 with
      | .ok ds e2 => (match ds with
        | [d1, d2] => .nx (((e2.set i (slot r')).set j (.dat d1)).set l (.dat d2))
        | _ => .stuck)
      | .exc k => .exc k
      | .stuck => .stuck)
    | _ => .stuck)
  | .exc k => .exc k
  | .stuck => .stuck
def s32 (i j l : Nat) (gs : List Ex) (o : Out R) : SOut := match o with
    | .ok r' e1 => (match argsS gs e1 with
      | .ok ds e2 => (match ds with
        | [d1, d2] => .nx (((e2.set i (slot r')).set j (.dat d1)).set l (.dat d2))
        | _ => .stuck)
      | .exc k => .exc k
      | .stuck => .stuck)
    | _ => .stuck
def s33 (i j l : Nat) (r' : R) (o : Out (List D)) : SOut := match o with
      | .ok ds e2 => (match ds with
        | [d1, d2] => .nx (((e2.set i (slot r')).set j (.dat d1)).set l (.dat d2))
        | _ => .stuck)
      | .exc k => .exc k
      | .stuck => .stuck
theorem ev_sSet3 {i j l : Nat} {f : Ex} {gs : List Ex} {ev : List Sl} : sSet3 i j l f gs ev = s31 i j l gs (f ev) := (rfl : _ = _).trans rfl
theorem s31_ok {i j l : Nat} {gs : List Ex} {r : R} {e : List Sl} : s31 i j l gs (.ok r e) = s32 i j l gs (keepR r e) := (rfl : _ = _).trans rfl
theorem s32_ok {i j l : Nat} {gs : List Ex} {r : R} {e : List Sl} : s32 i j l gs (.ok r e) = s33 i j l r (argsS gs e) := (rfl : _ = _).trans rfl
theorem s33_ok {i j l : Nat} {r : R} {d1 d2 : D} {e : List Sl} : s33 i j l r (.ok [d1, d2] e) = .nx (((e.set i (slot r)).set j (.dat d1)).set l (.dat d2)) := (rfl : _ = _).trans rfl
def asg1 (b : Bx) (o : Out R) : SOut := match o with
  | .ok r e0 => (match stoR r e0 with
    | .ok d e1 => (match b d e1 with
      | some e2 => .nx e2
      | none => .stuck)
    | _ => .stuck)
  | .exc k => .exc k
  | .stuck => .stuck
def asg2 (b : Bx) (o : Out D) : SOut := match o with
    | .ok d e1 => (match b d e1 with
      | some e2 => .nx e2
      | none => .stuck)
    | _ => .stuck
def asg3 (o : Option (List Sl)) : SOut := match o with
      | some e2 => .nx e2
      | none => .stuck
theorem ev_sAsg {b : Bx} {f : Ex} {ev : List Sl} : sAsg b f ev = asg1 b (f ev) := (rfl : _ = _).trans rfl
theorem asg1_ok {b : Bx} {r : R} {e : List Sl} : asg1 b (.ok r e) = asg2 b (stoR r e) := (rfl : _ = _).trans rfl
theorem asg2_ok {b : Bx} {d : D} {e : List Sl} : asg2 b (.ok d e) = asg3 (b d e) := (rfl : _ = _).trans rfl
theorem asg3_ok {e : List Sl} : asg3 (some e) = .nx e := (rfl : _ = _).trans rfl
theorem b_Name {i : Nat} {d : D} {e : List Sl} : bName i d e = some (e.set i (.dat d)) := (rfl : _ = _).trans rfl
theorem b_Tup {r : Bxs} {ds : List D} {e : List Sl} : bTup r (.tup ds) e = r ds e := (rfl : _ = _).trans rfl
def bc1 (r : Bxs) (ds : List D) (o : Option (List Sl)) : Option (List Sl) := match o with
    | some e1 => r ds e1
    | none => none
theorem b_Cons {b : Bx} {r : Bxs} {d : D} {ds : List D} {e : List Sl} : bCons b r (d :: ds) e = bc1 r ds (b d e) := (rfl : _ = _).trans rfl
theorem bc1_ok {r : Bxs} {ds : List D} {e : List Sl} : bc1 r ds (some e) = r ds e := (rfl : _ = _).trans rfl
theorem b_Nil {e : List Sl} : bNil [] e = some e := (rfl : _ = _).trans rfl
def sif1 (a b : Sx) (o : Out Bool) : SOut := match o with
  | .ok k e1 => if k = true then a e1 else b e1
  | .exc k => .exc k
  | .stuck => .stuck
theorem ev_sIf {c : Tx} {a b : Sx} {ev : List Sl} : sIf c a b ev = sif1 a b (c ev) := (rfl : _ = _).trans rfl
theorem sif1_t {a b : Sx} {e : List Sl} : sif1 a b (.ok true e) = a e := (rfl : _ = _).trans rfl
theorem sif1_f {a b : Sx} {e : List Sl} : sif1 a b (.ok false e) = b e := (rfl : _ = _).trans rfl
def ret1 (o : Out R) : SOut := match o with
  | .ok (.bor i) e0 => (match e0[i]? with
    | some (.own o) => .rt (.tmp o) (e0.set i .un)
    | _ => .stuck)
  | .ok r e0 => .rt r e0
  | .exc k => .exc k
  | .stuck => .stuck
def retB (s : Option Sl) (i : Nat) (e0 : List Sl) : SOut := match s with
    | some (.own o) => .rt (.tmp o) (e0.set i .un)
    | _ => .stuck
theorem ev_sRet {f : Ex} {ev : List Sl} : sRet f ev = ret1 (f ev) := by unfold sRet ret1; rfl
theorem ret1_dat {d : D} {e : List Sl} : ret1 (.ok (.dat d) e) = .rt (.dat d) e := (rfl : _ = _).trans rfl
theorem ret1_tmp {o : O} {e : List Sl} : ret1 (.ok (.tmp o) e) = .rt (.tmp o) e := (rfl : _ = _).trans rfl
theorem ret1_exc {k : Nat} : ret1 (.exc k) = .exc k := (rfl : _ = _).trans rfl
theorem ret1_bor {i : Nat} {e : List Sl} : ret1 (.ok (.bor i) e) = retB e[i]? i e := (rfl : _ = _).trans rfl
theorem retB_ok {i : Nat} {o : O} {e : List Sl} : retB (some (.own o)) i e = .rt (.tmp o) (e.set i .un) := (rfl : _ = _).trans rfl
def drop1 (o : Out R) : SOut := match o with
  | .ok _ e1 => .nx e1
  | .exc k => .exc k
  | .stuck => .stuck
theorem ev_sDrop {f : Ex} {ev : List Sl} : sDrop f ev = drop1 (f ev) := (rfl : _ = _).trans rfl
theorem drop1_ok {r : R} {e : List Sl} : drop1 (.ok r e) = .nx e := (rfl : _ = _).trans rfl
theorem drop1_exc {k : Nat} : drop1 (.exc k) = .exc k := (rfl : _ = _).trans rfl
def app0 (s : Option Sl) (i : Nat) (f : Ex) (ev : List Sl) : SOut := match s with
  | some (.own (.lst _)) => (match f ev with
    | .ok r e0 => (match stoR r e0 with
      | .ok d e1 => (match e1[i]? with
        | some (.own (.lst xs)) => if xs.length < lim then .nx (e1.set i (.own (.lst (xs ++ [d])))) else .stuck
        | _ => .stuck)
      | _ => .stuck)
    | .exc k => .exc k
    | .stuck => .stuck)
  | _ => .stuck
def app1 (i : Nat) (o : Out R) : SOut := match o with
    | .ok r e0 => (match stoR r e0 with
      | .ok d e1 => (match e1[i]? with
        | some (.own (.lst xs)) => if xs.length < lim then .nx (e1.set i (.own (.lst (xs ++ [d])))) else .stuck
        | _ => .stuck)
      | _ => .stuck)
    | .exc k => .exc k
    | .stuck => .stuck
def app2 (i : Nat) (o : Out D) : SOut := match o with
      | .ok d e1 => (match e1[i]? with
        | some (.own (.lst xs)) => if xs.length < lim then .nx (e1.set i (.own (.lst (xs ++ [d])))) else .stuck
        | _ => .stuck)
      | _ => .stuck
def app3 (s : Option Sl) (i : Nat) (d : D) (e1 : List Sl) : SOut := match s with
        | some (.own (.lst xs)) => if xs.length < lim then .nx (e1.set i (.own (.lst (xs ++ [d])))) else .stuck
        | _ => .stuck
theorem ev_sApp {i : Nat} {f : Ex} {ev : List Sl} : sApp i f ev = app0 ev[i]? i f ev := by unfold sApp app0; rfl
theorem app0_ok {i : Nat} {f : Ex} {xs : List D} {ev : List Sl} : app0 (some (.own (.lst xs))) i f ev = app1 i (f ev) := (rfl : _ = _).trans rfl
theorem app1_ok {i : Nat} {r : R} {e : List Sl} : app1 i (.ok r e) = app2 i (stoR r e) := (rfl : _ = _).trans rfl
theorem app2_ok {i : Nat} {d : D} {e : List Sl} : app2 i (.ok d e) = app3 e[i]? i d e := (rfl : _ = _).trans rfl
theorem app3_ok {i : Nat} {d : D} {xs : List D} {e : List Sl} (h : xs.length < lim) : app3 (some (.own (.lst xs))) i d e = .nx (e.set i (.own (.lst (xs ++ [d])))) := if_pos h
def six1 (j : Nat) (ix : Ex) (o : Out R) : SOut := match o with
  | .ok r e0 => (match stoR r e0 with
    | .ok d e1 => (match e1[j]? with
      | some (.own (.lst _)) => (match ix e1 with
        | .ok (.dat (.int k)) e2 => (match e2[j]? with
          | some (.own (.lst xs)) => (match ixN xs.length k with
            | some n => .nx (e2.set j (.own (.lst (xs.set n d))))
            | none => .stuck)
          | _ => .stuck)
        | .exc k => .exc k
        | _ => .stuck)
      | _ => .stuck)
    | _ => .stuck)
  | .exc k => .exc k
  | .stuck => .stuck
def six2 (j : Nat) (ix : Ex) (o : Out D) : SOut := match o with
    | .ok d e1 => (match e1[j]? with
      | some (.own (.lst _)) => (match ix e1 with
        | .ok (.dat (.int k)) e2 => (match e2[j]? with
          | some (.own (.lst xs)) => (match ixN xs.length k with
            | some n => .nx (e2.set j (.own (.lst (xs.set n d))))
            | none => .stuck)
          | _ => .stuck)
        | .exc k => .exc k
        | _ => .stuck)
      | _ => .stuck)
    | _ => .stuck
def six3 (s : Option Sl) (j : Nat) (ix : Ex) (d : D) (e1 : List Sl) : SOut := match s with
      | some (.own (.lst _)) => (match ix e1 with
        | .ok (.dat (.int k)) e2 => (match e2[j]? with
          | some (.own (.lst xs)) => (match ixN xs.length k with
            | some n => .nx (e2.set j (.own (.lst (xs.set n d))))
            | none => .stuck)
          | _ => .stuck)
        | .exc k => .exc k
        | _ => .stuck)
      | _ => .stuck
def six4 (j : Nat) (d : D) (o : Out R) : SOut := match o with
        | .ok (.dat (.int k)) e2 => (match e2[j]? with
          | some (.own (.lst xs)) => (match ixN xs.length k with
            | some n => .nx (e2.set j (.own (.lst (xs.set n d))))
            | none => .stuck)
          | _ => .stuck)
        | .exc k => .exc k
        | _ => .stuck
def six5 (s : Option Sl) (j : Nat) (d : D) (k : Int) (e2 : List Sl) : SOut := match s with
          | some (.own (.lst xs)) => (match ixN xs.length k with
            | some n => .nx (e2.set j (.own (.lst (xs.set n d))))
            | none => .stuck)
          | _ => .stuck
def six6 (o : Option Nat) (j : Nat) (d : D) (xs : List D) (e2 : List Sl) : SOut := match o with
            | some n => .nx (e2.set j (.own (.lst (xs.set n d))))
            | none => .stuck
theorem ev_sSetIx {j : Nat} {ix f : Ex} {ev : List Sl} : sSetIx j ix f ev = six1 j ix (f ev) := by unfold sSetIx six1; rfl
theorem six1_ok {j : Nat} {ix : Ex} {r : R} {e : List Sl} : six1 j ix (.ok r e) = six2 j ix (stoR r e) := (rfl : _ = _).trans rfl
theorem six2_ok {j : Nat} {ix : Ex} {d : D} {e : List Sl} : six2 j ix (.ok d e) = six3 e[j]? j ix d e := (rfl : _ = _).trans rfl
theorem six3_ok {j : Nat} {ix : Ex} {d : D} {xs : List D} {e : List Sl} : six3 (some (.own (.lst xs))) j ix d e = six4 j d (ix e) := (rfl : _ = _).trans rfl
theorem six4_ok {j : Nat} {d : D} {k : Int} {e : List Sl} : six4 j d (.ok (.dat (.int k)) e) = six5 e[j]? j d k e := (rfl : _ = _).trans rfl
theorem six5_ok {j : Nat} {d : D} {k : Int} {xs : List D} {e : List Sl} : six5 (some (.own (.lst xs))) j d k e = six6 (ixN xs.length k) j d xs e := (rfl : _ = _).trans rfl
theorem six6_ok {j n : Nat} {d : D} {xs : List D} {e : List Sl} : six6 (some n) j d xs e = .nx (e.set j (.own (.lst (xs.set n d)))) := (rfl : _ = _).trans rfl
def for1 (b : Bx) (body : Sx) (o : Out (List D)) : SOut := match o with
  | .ok items e1 => forS b body items e1
  | .exc k => .exc k
  | .stuck => .stuck
theorem ev_sFor {f : Ix} {b : Bx} {body : Sx} {ev : List Sl} : sFor f b body ev = for1 b body (f ev) := (rfl : _ = _).trans rfl
theorem for1_ok {b : Bx} {body : Sx} {items : List D} {e : List Sl} : for1 b body (.ok items e) = forS b body items e := (rfl : _ = _).trans rfl
def forO1 (i : Nat) (body : Sx) (o : Out (List O)) : SOut := match o with
  | .ok items e1 => forO i body items e1
  | .exc k => .exc k
  | .stuck => .stuck
theorem ev_sForO {f : Ox} {i : Nat} {body : Sx} {ev : List Sl} : sForO f i body ev = forO1 i body (f ev) := (rfl : _ = _).trans rfl
theorem forO1_ok {i : Nat} {body : Sx} {items : List O} {e : List Sl} : forO1 i body (.ok items e) = forO i body items e := (rfl : _ = _).trans rfl
def oc1 (f : List Sl → FOutO) (o : Out (List D)) : Out (List O) := o.bind fun ds e1 => match f (ds.map Sl.dat) with
  | .ok os => .ok os e1
  | .stuck => .stuck
def oc2 (o : FOutO) (e1 : List Sl) : Out (List O) := match o with
  | .ok os => .ok os e1
  | .stuck => .stuck
theorem ev_oCall {f : List Sl → FOutO} {fs : List Ex} {ev : List Sl} : oCall f fs ev = oc1 f (argsS fs ev) := (rfl : _ = _).trans rfl
theorem oc1_ok {f : List Sl → FOutO} {ds : List D} {e : List Sl} : oc1 f (.ok ds e) = oc2 (f (ds.map Sl.dat)) e := (rfl : _ = _).trans rfl
theorem oc2_ok {os : List O} {e : List Sl} : oc2 (.ok os) e = .ok os e := (rfl : _ = _).trans rfl
def iseq1 (o : Out R) : Out (List D) := match o with
  | .ok r e0 => (match stoR r e0 with
    | .ok (.lst xs) e1 => .ok xs e1
    | .ok (.tup xs) e1 => .ok xs e1
    | _ => .stuck)
  | .exc k => .exc k
  | .stuck => .stuck
def iseq2 (o : Out D) : Out (List D) := match o with
    | .ok (.lst xs) e1 => .ok xs e1
    | .ok (.tup xs) e1 => .ok xs e1
    | _ => .stuck
theorem ev_iSeq {f : Ex} {ev : List Sl} : iSeq f ev = iseq1 (f ev) := by unfold iSeq iseq1; rfl
theorem iseq1_ok {r : R} {e : List Sl} : iseq1 (.ok r e) = iseq2 (stoR r e) := (rfl : _ = _).trans rfl
theorem iseq2_l {xs : List D} {e : List Sl} : iseq2 (.ok (.lst xs) e) = .ok xs e := (rfl : _ = _).trans rfl
theorem iseq2_t {xs : List D} {e : List Sl} : iseq2 (.ok (.tup xs) e) = .ok xs e := (rfl : _ = _).trans rfl
def ir1 (o : Out (List R)) : Out (List D) := o.bind fun rs e1 => match rs with
  | [.dat (.int j)] => if okI j = true then .ok (rangeD 0 j.toNat) e1 else .stuck
  | _ => .stuck
def ir2 (o : Out (List R)) : Out (List D) := o.bind fun rs e1 => match rs with
  | [.dat (.int i), .dat (.int j)] => if okI i = true ∧ okI j = true then .ok (rangeD i (j - i).toNat) e1 else .stuck
  | _ => .stuck
theorem ev_iRange1 {f : Ex} {ev : List Sl} : iRange1 f ev = ir1 (argsO [f] ev) := (rfl : _ = _).trans rfl
theorem ev_iRange2 {f g : Ex} {ev : List Sl} : iRange2 f g ev = ir2 (argsO [f, g] ev) := (rfl : _ = _).trans rfl
theorem okI_of {i : Int} (h1 : -4611686018427387904 ≤ i) (h2 : i < 4611686018427387904) : okI i = true := by unfold okI; rw [decide_eq_true h1, decide_eq_true h2]; rfl
theorem ir1_ok {j : Int} {e : List Sl} (h1 : -4611686018427387904 ≤ j) (h2 : j < 4611686018427387904) : ir1 (.ok [.dat (.int j)] e) = .ok (rangeD 0 j.toNat) e := if_pos (okI_of h1 h2)
theorem ir2_ok {i j : Int} {e : List Sl} (h1 : -4611686018427387904 ≤ i) (h2 : i < 4611686018427387904) (h3 : -4611686018427387904 ≤ j) (h4 : j < 4611686018427387904) : ir2 (.ok [.dat (.int i), .dat (.int j)] e) = .ok (rangeD i (j - i).toNat) e := if_pos ⟨okI_of h1 h2, okI_of h3 h4⟩
def iz1 (o : Out (List D)) : Out (List D) := o.bind fun ds e1 => match ds with
  | [.tup xs, .tup ys] => .ok (zipD xs ys) e1
  | [.lst xs, .lst ys] => .ok (zipD xs ys) e1
  | _ => .stuck
def ien1 (o : Out (List D)) : Out (List D) := o.bind fun ds e1 => match ds with
  | [.lst xs] => .ok (enumD 0 xs) e1
  | [.tup xs] => .ok (enumD 0 xs) e1
  | _ => .stuck
theorem ien1_t {xs : List D} {e : List Sl} : ien1 (.ok [.tup xs] e) = .ok (enumD 0 xs) e := (rfl : _ = _).trans rfl
def elg1 (f : List Sl → Option (List D)) (o : Out (List D)) : Out R := o.bind fun ds e1 => match f (ds.map Sl.dat) with
  | some xs => .ok (.tmp (.lst xs)) e1
  | none => .stuck
def elg2 (e1 : List Sl) (o : Option (List D)) : Out R := match o with
  | some xs => .ok (.tmp (.lst xs)) e1
  | none => .stuck
theorem ev_eListG {f : List Sl → Option (List D)} {fs : List Ex} {ev : List Sl} : eListG f fs ev = elg1 f (argsS fs ev) := (rfl : _ = _).trans rfl
theorem elg1_ok {f : List Sl → Option (List D)} {ds : List D} {e : List Sl} : elg1 f (.ok ds e) = elg2 e (f (ds.map Sl.dat)) := (rfl : _ = _).trans rfl
theorem elg2_ok {xs : List D} {e : List Sl} : elg2 e (some xs) = .ok (.tmp (.lst xs)) e := (rfl : _ = _).trans rfl
def elr1 (o : Out R) : Out R := o.bind fun r e1 => match r with
  | .dat (.int n) => if 0 ≤ n ∧ n ≤ 1000000 then .ok (.tmp (.lst (rangeD 0 n.toNat))) e1 else .stuck
  | _ => .stuck
theorem ev_eListR {f : Ex} {ev : List Sl} : eListR f ev = elr1 (f ev) := (rfl : _ = _).trans rfl
theorem elr1_ok {n : Int} {e : List Sl} (h1 : 0 ≤ n) (h2 : n ≤ 1000000) : elr1 (.ok (.dat (.int n)) e) = .ok (.tmp (.lst (rangeD 0 n.toNat))) e := if_pos ⟨h1, h2⟩
theorem dIn_l {i : Int} {ns : List Int} : dIn (.int i) (.lst (ns.map D.int)) = some (.dat (.bl (decide (i ∈ ns)))) := by simp only [dIn, intsOf_map, Option.map_some]
theorem dNotIn_l {i : Int} {ns : List Int} : dNotIn (.int i) (.lst (ns.map D.int)) = some (.dat (.bl (!decide (i ∈ ns)))) := by simp only [dNotIn, intsOf_map, Option.map_some]
def ed1 (i : Int) (o : Out R) : Out R := o.bind fun r e1 => (stoR r e1).bind fun d e2 => .ok (.tmp (.dK [(.inl i, d)])) e2
def ed2 (i : Int) (o : Out D) : Out R := o.bind fun d e2 => .ok (.tmp (.dK [(.inl i, d)])) e2
theorem ev_eDict1 {i : Int} {f : Ex} {ev : List Sl} : eDict1 i f ev = ed1 i (f ev) := (rfl : _ = _).trans rfl
theorem ed1_ok {i : Int} {r : R} {e : List Sl} : ed1 i (.ok r e) = ed2 i (stoR r e) := (rfl : _ = _).trans rfl
theorem ed2_ok {i : Int} {d : D} {e : List Sl} : ed2 i (.ok d e) = .ok (.tmp (.dK [(.inl i, d)])) e := (rfl : _ = _).trans rfl
def gt1 (i : Nat) (f g : Ex) (s : Option Sl) (ev : List Sl) : Out R := match s with
  | some (.own (.dK _)) => (f ev).bind fun r e1 => (match r with
    | .dat (.int k) => (g e1).bind fun q e2 => (match q with
      | .dat dd => (match e2[i]? with
        | some (.own (.dK kvs)) => .ok (.dat ((valD kvs (.inl k)).getD dd)) e2
        | _ => .stuck)
      | _ => .stuck)
    | _ => .stuck)
  | _ => .stuck
def gt2 (i : Nat) (g : Ex) (o : Out R) : Out R := o.bind fun r e1 => (match r with
    | .dat (.int k) => (g e1).bind fun q e2 => (match q with
      | .dat dd => (match e2[i]? with
        | some (.own (.dK kvs)) => .ok (.dat ((valD kvs (.inl k)).getD dd)) e2
        | _ => .stuck)
      | _ => .stuck)
    | _ => .stuck)
def gt3 (i : Nat) (k : Int) (o : Out R) : Out R := o.bind fun q e2 => (match q with
      | .dat dd => (match e2[i]? with
        | some (.own (.dK kvs)) => .ok (.dat ((valD kvs (.inl k)).getD dd)) e2
        | _ => .stuck)
      | _ => .stuck)
def gt4 (k : Int) (dd : D) (s : Option Sl) (e2 : List Sl) : Out R := match s with
        | some (.own (.dK kvs)) => .ok (.dat ((valD kvs (.inl k)).getD dd)) e2
        | _ => .stuck
theorem ev_eGet2 {i : Nat} {f g : Ex} {ev : List Sl} : eGet2 i f g ev = gt1 i f g ev[i]? ev := (rfl : _ = _).trans rfl
theorem gt1_ok {i : Nat} {f g : Ex} {ds : List (Key × D)} {ev : List Sl} : gt1 i f g (some (.own (.dK ds))) ev = gt2 i g (f ev) := (rfl : _ = _).trans rfl
theorem gt2_ok {i : Nat} {g : Ex} {k : Int} {e1 : List Sl} : gt2 i g (.ok (.dat (.int k)) e1) = gt3 i k (g e1) := (rfl : _ = _).trans rfl
theorem gt3_ok {i : Nat} {k : Int} {dd : D} {e2 : List Sl} : gt3 i k (.ok (.dat dd) e2) = gt4 k dd e2[i]? e2 := (rfl : _ = _).trans rfl
theorem gt4_ok {k : Int} {dd : D} {ds : List (Key × D)} {e2 : List Sl} : gt4 k dd (some (.own (.dK ds))) e2 = .ok (.dat ((valD ds (.inl k)).getD dd)) e2 := (rfl : _ = _).trans rfl
def pu1 (j : Nat) (ix : Ex) (o : Out R) : SOut := match o with
  | .ok r e0 => (match stoR r e0 with
    | .ok d e1 => (match e1[j]? with
      | some (.own (.dK _)) => (match ix e1 with
        | .ok (.dat (.int k)) e2 => (match e2[j]? with
          | some (.own (.dK ds)) => if ds.length < 100000 then .nx (e2.set j (.own (.dK (putD ds (.inl k) d)))) else .stuck
          | _ => .stuck)
        | .exc k => .exc k
        | _ => .stuck)
      | _ => .stuck)
    | _ => .stuck)
  | .exc k => .exc k
  | .stuck => .stuck
def pu2 (j : Nat) (ix : Ex) (o : Out D) : SOut := match o with
    | .ok d e1 => (match e1[j]? with
      | some (.own (.dK _)) => (match ix e1 with
        | .ok (.dat (.int k)) e2 => (match e2[j]? with
          | some (.own (.dK ds)) => if ds.length < 100000 then .nx (e2.set j (.own (.dK (putD ds (.inl k) d)))) else .stuck
          | _ => .stuck)
        | .exc k => .exc k
        | _ => .stuck)
      | _ => .stuck)
    | _ => .stuck
def pu3 (j : Nat) (ix : Ex) (d : D) (s : Option Sl) (e1 : List Sl) : SOut := match s with
      | some (.own (.dK _)) => (match ix e1 with
        | .ok (.dat (.int k)) e2 => (match e2[j]? with
          | some (.own (.dK ds)) => if ds.length < 100000 then .nx (e2.set j (.own (.dK (putD ds (.inl k) d)))) else .stuck
          | _ => .stuck)
        | .exc k => .exc k
        | _ => .stuck)
      | _ => .stuck
def pu4 (j : Nat) (d : D) (o : Out R) : SOut := match o with
        | .ok (.dat (.int k)) e2 => (match e2[j]? with
          | some (.own (.dK ds)) => if ds.length < 100000 then .nx (e2.set j (.own (.dK (putD ds (.inl k) d)))) else .stuck
          | _ => .stuck)
        | .exc k => .exc k
        | _ => .stuck
def pu5 (j : Nat) (d : D) (k : Int) (s : Option Sl) (e2 : List Sl) : SOut := match s with
          | some (.own (.dK ds)) => if ds.length < 100000 then .nx (e2.set j (.own (.dK (putD ds (.inl k) d)))) else .stuck
          | _ => .stuck
theorem ev_sPutD {j : Nat} {ix f : Ex} {ev : List Sl} : sPutD j ix f ev = pu1 j ix (f ev) := (rfl : _ = _).trans rfl
theorem pu1_ok {j : Nat} {ix : Ex} {r : R} {e0 : List Sl} : pu1 j ix (.ok r e0) = pu2 j ix (stoR r e0) := (rfl : _ = _).trans rfl
theorem pu2_ok {j : Nat} {ix : Ex} {d : D} {e1 : List Sl} : pu2 j ix (.ok d e1) = pu3 j ix d e1[j]? e1 := (rfl : _ = _).trans rfl
theorem pu3_ok {j : Nat} {ix : Ex} {d : D} {ds : List (Key × D)} {e1 : List Sl} : pu3 j ix d (some (.own (.dK ds))) e1 = pu4 j d (ix e1) := (rfl : _ = _).trans rfl
theorem pu4_ok {j : Nat} {d : D} {k : Int} {e2 : List Sl} : pu4 j d (.ok (.dat (.int k)) e2) = pu5 j d k e2[j]? e2 := (rfl : _ = _).trans rfl
theorem pu5_ok {j : Nat} {d : D} {k : Int} {ds : List (Key × D)} {e2 : List Sl} (h : ds.length < 100000) : pu5 j d k (some (.own (.dK ds))) e2 = .nx (e2.set j (.own (.dK (putD ds (.inl k) d)))) := if_pos h
def mv1 (s : Option Sl) (ev : List Sl) : Out R := match s with
  | some (.dat (.dK ds)) => maxV ds ev
  | some (.own (.dK ds)) => maxV ds ev
  | _ => .stuck
theorem ev_eMaxV {i : Nat} {ev : List Sl} : eMaxV i ev = mv1 ev[i]? ev := (rfl : _ = _).trans rfl
theorem mv1_1 {ds : List (Key × D)} {ev : List Sl} : mv1 (some (.dat (.dK ds))) ev = maxV ds ev := (rfl : _ = _).trans rfl
theorem mv1_2 {ds : List (Key × D)} {ev : List Sl} : mv1 (some (.own (.dK ds))) ev = maxV ds ev := (rfl : _ = _).trans rfl
theorem ev_iEnum {fs : List Ex} {ev : List Sl} : iEnumX fs ev = ien1 (argsS fs ev) := (rfl : _ = _).trans rfl
theorem ien1_l {xs : List D} {e : List Sl} : ien1 (.ok [.lst xs] e) = .ok (enumD 0 xs) e := (rfl : _ = _).trans rfl
theorem ev_iZip {fs : List Ex} {ev : List Sl} : iZip fs ev = iz1 (argsS fs ev) := (rfl : _ = _).trans rfl
theorem iz1_t {xs ys : List D} {e : List Sl} : iz1 (.ok [.tup xs, .tup ys] e) = .ok (zipD xs ys) e := (rfl : _ = _).trans rfl
theorem iz1_l {xs ys : List D} {e : List Sl} : iz1 (.ok [.lst xs, .lst ys] e) = .ok (zipD xs ys) e := (rfl : _ = _).trans rfl
def comp1 (b : Bx) (tt : Tx) (el : Ex) (vs : List Nat) (o : Out (List D)) : Out R := match o with
  | .ok items e1 => (match compS b tt el vs items [] (wipeE e1 vs) with
    | .ok ds e2 => .ok (.tmp (.lst ds)) (wipeE e2 vs)
    | _ => .stuck)
  | .exc k => .exc k
  | .stuck => .stuck
def comp2 (vs : List Nat) (o : Out (List D)) : Out R := match o with
    | .ok ds e2 => .ok (.tmp (.lst ds)) (wipeE e2 vs)
    | _ => .stuck
theorem ev_Comp {f : Ix} {b : Bx} {tt : Tx} {el : Ex} {vs : List Nat} {ev : List Sl} : eComp f b tt el vs ev = comp1 b tt el vs (f ev) := (rfl : _ = _).trans rfl
theorem comp1_ok {b : Bx} {tt : Tx} {el : Ex} {vs : List Nat} {items : List D} {e : List Sl} : comp1 b tt el vs (.ok items e) = comp2 vs (compS b tt el vs items [] (wipeE e vs)) := (rfl : _ = _).trans rfl
theorem comp2_ok {vs : List Nat} {ds : List D} {e : List Sl} : comp2 vs (.ok ds e) = .ok (.tmp (.lst ds)) (wipeE e vs) := (rfl : _ = _).trans rfl
theorem wipe_nil {e : List Sl} : wipeE e [] = e := (rfl : _ = _).trans rfl
theorem wipe_cons {e : List Sl} {v : Nat} {vs : List Nat} : wipeE e (v :: vs) = (wipeE e vs).set v .un := (rfl : _ = _).trans rfl
def fin1 (io : Bool) (o : SOut) : FOut := match o with
  | .rt r ev => finish io r ev
  | .nx ev => finish io (.dat .non) ev
  | .exc k => .exc k
  | _ => .stuck
theorem ev_fn {n : Nat} {io : Bool} {b : Sx} {args : List Sl} : fnSem n io b args = fin1 io (b (args ++ List.replicate (n - args.length) .un)) := (rfl : _ = _).trans rfl
theorem fin1_rt {io : Bool} {r : R} {e : List Sl} : fin1 io (.rt r e) = finish io r e := (rfl : _ = _).trans rfl
theorem fin1_nx {io : Bool} {e : List Sl} : fin1 io (.nx e) = finish io (.dat .non) e := (rfl : _ = _).trans rfl
theorem fin1_exc {io : Bool} {k : Nat} : fin1 io (.exc k) = .exc k := (rfl : _ = _).trans rfl
theorem fin_dat {d : D} {e : List Sl} : finish false (.dat d) e = .ok (.dat d) none := (rfl : _ = _).trans rfl
theorem fin_tmp {o : O} {e : List Sl} : finish false (.tmp o) e = .ok (.tmp o) none := (rfl : _ = _).trans rfl
def finB (r : R) (s : Option Sl) : FOut := match s with
      | some (Sl.own o) => .ok r (some o)
      | _ => .stuck
theorem finB_dat {d : D} {e : List Sl} : finish true (.dat d) e = finB (.dat d) e[(0 : Nat)]? := (rfl : _ = _).trans rfl
theorem finB_tmp {o : O} {e : List Sl} : finish true (.tmp o) e = finB (.tmp o) e[(0 : Nat)]? := (rfl : _ = _).trans rfl
theorem finB_ok {r : R} {o : O} : finB r (some (.own o)) = .ok r (some o) := (rfl : _ = _).trans rfl
theorem dAdd_i {i j : Int} : dAdd (.int i) (.int j) = some (.dat (.int (i + j))) := (rfl : _ = _).trans rfl
theorem dAdd_t {xs ys : List D} (h : xs.length + ys.length ≤ lim) : dAdd (.tup xs) (.tup ys) = some (.dat (.tup (xs ++ ys))) := if_pos h
theorem dAdd_l {xs ys : List D} (h : xs.length + ys.length ≤ lim) : dAdd (.lst xs) (.lst ys) = some (.tmp (.lst (xs ++ ys))) := if_pos h
theorem dSub_i {i j : Int} : dI iSub (.int i) (.int j) = some (.dat (.int (i - j))) := (rfl : _ = _).trans rfl
theorem dMul_1 {i j : Int} (h1 : -18446744073709551616 < i) (h2 : i < 18446744073709551616) : dMulX (.int i) (.int j) = some (.dat (.int (i * j))) := by unfold dMulX dMul iMul; simp [h1, h2]
theorem dMul_2 {i j : Int} (h1 : -18446744073709551616 < j) (h2 : j < 18446744073709551616) : dMulX (.int i) (.int j) = some (.dat (.int (i * j))) := by unfold dMulX dMul iMul; simp [h1, h2]
theorem dMul_t {xs : List D} {k : Int} (h0 : xs ≠ []) (h1 : 2 ≤ k) (h2 : k ≤ 1000) (h3 : xs.length ≤ 1000) : dMulX (.tup xs) (.int k) = some (.dat (.tup (List.replicate k.toNat xs).flatten)) := (if_neg (by omega)).trans (if_pos ⟨h0, h1, h2, h3⟩)
theorem dMul_t1 {xs : List D} : dMulX (.tup xs) (.int 1) = some (.dat (.tup xs)) := by simp [dMulX]
theorem dMul_b {i : Int} {b : Bool} : dMulX (.int i) (.int (if b then 1 else 0)) = some (.dat (.int (if b then i else 0))) := by cases b <;> simp [dMulX, dMul, iMul]
theorem dPow_18  : dI iPow (.int 10) (.int 18) = some (.dat (.int 1000000000000000000)) := (rfl : _ = _).trans rfl
theorem dPow_12  : dI iPow (.int 10) (.int 12) = some (.dat (.int 1000000000000)) := (rfl : _ = _).trans rfl
theorem dPow_6  : dI iPow (.int 10) (.int 6) = some (.dat (.int 1000000)) := (rfl : _ = _).trans rfl
theorem dPow_11  : dI iPow (.int 10) (.int 11) = some (.dat (.int 100000000000)) := (rfl : _ = _).trans rfl
theorem dDiv_i {i j : Int} (h1 : 0 < j) (h2 : j < 18446744073709551616) : dI iDiv (.int i) (.int j) = some (.dat (.int (i / j))) := by unfold dI iDiv; simp [h1, h2]
theorem dMod_i {i j : Int} (h1 : 0 < j) : dI iMod (.int i) (.int j) = some (.dat (.int (i % j))) := by unfold dI iMod; simp [h1]
theorem dB_i {g : Int → Int → Bool} {i j : Int} : dB g (.int i) (.int j) = some (.dat (.bl (g i j))) := (rfl : _ = _).trans rfl
theorem dNeg_i {i : Int} : dNeg (.int i) = some (.dat (.int (-i))) := (rfl : _ = _).trans rfl
theorem gInt_i {i : Int} : gInt [.int i] = some (.dat (.int i)) := (rfl : _ = _).trans rfl
theorem gInt_b {b : Bool} : gInt [.bl b] = some (.dat (.int (if b then 1 else 0))) := (rfl : _ = _).trans rfl
theorem gLen_l {xs : List D} : gLen [.lst xs] = some (.dat (.int xs.length)) := (rfl : _ = _).trans rfl
theorem gLen_t {xs : List D} : gLen [.tup xs] = some (.dat (.int xs.length)) := (rfl : _ = _).trans rfl
theorem gMin2_i {i j : Int} : gMin2 [.int i, .int j] = some (.dat (.int (if j < i then j else i))) := (rfl : _ = _).trans rfl
theorem gMax2_i {i j : Int} : gMax2 [.int i, .int j] = some (.dat (.int (if j > i then j else i))) := (rfl : _ = _).trans rfl
theorem gList_l {xs : List D} : gList [.lst xs] = some (.tmp (.lst xs)) := (rfl : _ = _).trans rfl
theorem gList_t {xs : List D} : gList [.tup xs] = some (.tmp (.lst xs)) := (rfl : _ = _).trans rfl
theorem gTuple_l {xs : List D} : gTuple [.lst xs] = some (.dat (.tup xs)) := (rfl : _ = _).trans rfl
theorem gTuple_t {xs : List D} : gTuple [.tup xs] = some (.dat (.tup xs)) := (rfl : _ = _).trans rfl
theorem gSum_i {ns : List Int} : gSumA [.lst (ns.map D.int)] = some (.dat (.int ns.sum)) := by simp only [gSumA, intsOf_map, Option.map_some]
theorem gSum_t {ns : List Int} : gSumA [.tup (ns.map D.int)] = some (.dat (.int ns.sum)) := by simp only [gSumA, intsOf_map, Option.map_some]
theorem gAll_b {bs : List Bool} : gAll [.lst (bs.map D.bl)] = some (.dat (.bl (bs.all id))) := by simp only [gAll, blsOf_map, Option.map_some]
theorem gMinL_i {ns : List Int} (h : 0 < ns.length) : gMinL [.lst (ns.map D.int)] = some (.dat (.int (minL ns))) := by simp only [gMinL, intsOf_map, if_pos h]
theorem gMaxL_i {ns : List Int} (h : 0 < ns.length) : gMaxL [.lst (ns.map D.int)] = some (.dat (.int (maxL ns))) := by simp only [gMaxL, intsOf_map, if_pos h]
theorem dIsN_n {d : D} : dIsN d .non = some (.dat (.bl (isNon d))) := (rfl : _ = _).trans rfl
theorem dNotN_n {d : D} : dNotN d .non = some (.dat (.bl (!isNon d))) := (rfl : _ = _).trans rfl
theorem dIsB_b {a b : Bool} : dIsB (.bl a) (.bl b) = some (.dat (.bl (a == b))) := (rfl : _ = _).trans rfl
theorem dNotB_b {a b : Bool} : dNotB (.bl a) (.bl b) = some (.dat (.bl (!(a == b)))) := (rfl : _ = _).trans rfl
theorem dIx_l {xs : List D} {i : Int} : dIx (.lst xs) (.int i) = (atI xs i).map R.dat := (rfl : _ = _).trans rfl
theorem dIx_t {xs : List D} {i : Int} : dIx (.tup xs) (.int i) = (atI xs i).map R.dat := (rfl : _ = _).trans rfl
theorem gIsi_ii {i : Int} : gIsi [.int i, .ty .int] = some (.dat (.bl true)) := (rfl : _ = _).trans rfl
theorem gIsi_ib {i : Int} : gIsi [.int i, .ty .bool] = some (.dat (.bl false)) := (rfl : _ = _).trans rfl
theorem gIsi_tt {xs : List D} : gIsi [.tup xs, .ty .tuple] = some (.dat (.bl true)) := (rfl : _ = _).trans rfl
theorem gIsi_ll {xs : List D} : gIsi [.lst xs, .ty .list] = some (.dat (.bl true)) := (rfl : _ = _).trans rfl
theorem dEq_ok {x y : D} (h1 : okD 16 x = true) (h2 : okD 16 y = true) : dEq x y = some (.dat (.bl (eqD x y))) := if_pos ⟨h1, h2⟩
theorem dNe_ok {x y : D} (h1 : okD 16 x = true) (h2 : okD 16 y = true) : dNe x y = some (.dat (.bl (!eqD x y))) := if_pos ⟨h1, h2⟩
theorem atI_0 {x0 : D} {l : List D} : atI (x0 :: l) 0 = some x0 := atI_nat (j := 0) rfl
theorem atI_1 {x0 x1 : D} {l : List D} : atI (x0 :: x1 :: l) 1 = some x1 := atI_nat (j := 1) rfl
theorem atI_2 {x0 x1 x2 : D} {l : List D} : atI (x0 :: x1 :: x2 :: l) 2 = some x2 := atI_nat (j := 2) rfl
theorem atI_3 {x0 x1 x2 x3 : D} {l : List D} : atI (x0 :: x1 :: x2 :: x3 :: l) 3 = some x3 := atI_nat (j := 3) rfl
theorem atI_4 {x0 x1 x2 x3 x4 : D} {l : List D} : atI (x0 :: x1 :: x2 :: x3 :: x4 :: l) 4 = some x4 := atI_nat (j := 4) rfl
theorem atI_5 {x0 x1 x2 x3 x4 x5 : D} {l : List D} : atI (x0 :: x1 :: x2 :: x3 :: x4 :: x5 :: l) 5 = some x5 := atI_nat (j := 5) rfl
theorem ixN_0 {n : Nat} (h : 0 < n) : ixN n 0 = some 0 := by unfold ixN; simp; omega
theorem ixN_1 {n : Nat} (h : 1 < n) : ixN n 1 = some 1 := by unfold ixN; simp; omega
theorem atI_last {xs : List D} {v : D} : atI (xs ++ [v]) (-1) = some v := L2.atI_last xs v
theorem atI_last1 {v : D} : atI [v] (-1) = some v := L2.atI_last [] v
theorem atI_get {xs : List D} {i : Int} {j : Nat} {v : D} (e : i = j) (h : xs[j]? = some v) : atI xs i = some v := by rw [e]; exact atI_nat h
end GW

set_option Elab.async false
set_option linter.all false
set_option maxRecDepth 100000
namespace GW
open PySem PySem.Spec L2
def b_is_integer : Sx := sRet (eAnd (eB gIsi [eV 0, eC (.ty .int)]) (eAnd (eNot (eB gIsi [eV 0, eC (.ty .bool)])) (eChain (fun i j => decide (i ≤ j)) (fun i j => decide (i ≤ j)) (eV 1) (eV 0) (eV 2))))
def s_is_integer : FS := fnSem 3 false b_is_integer
def e_never_falls_1 : Ex := eBin dLe (eV 1) (eV 2)
def b_never_falls : Sx := sRet (eB gAll [eComp (iZip [eV 0, eSl (eV 0) (pInt (eC (.int 1))) (pNo)]) (bTup (bCons (bName 1) (bCons (bName 2) (bNil)))) (tYes') (e_never_falls_1) [1, 2]])
def s_never_falls : FS := fnSem 3 false b_never_falls
def b_series_time : Sx := sSeq (sSet 2 (eSl (eBin dIx (eV 0) (eC (.int 0))) (pNo) (pInt (eUn dNeg (eC (.int 1))))))
  (sSeq (sIf (toB (eBin dLe (eV 1) (eB gLen [eBin dIx (eV 0) (eC (.int 0))]))) (sRet (eB gSumA [eSl (eV 2) (pNo) (pInt (eBin (dI iSub) (eV 1) (eC (.int 1))))])) (sSkip))
  (sRet (eBin dAdd (eB gSumA [eV 2]) (eBin dMulX (eBin dIx (eBin dIx (eV 0) (eC (.int 0))) (eUn dNeg (eC (.int 1)))) (eBin (dI iSub) (eV 1) (eB gLen [eBin dIx (eV 0) (eC (.int 0))]))))))
def s_series_time : FS := fnSem 3 false b_series_time
def b_law_cell_at : Sx := sSeq (sIf (toB (eBin dLt (eV 1) (eB gLen [eV 0]))) (sRet (eBin dIx (eV 0) (eV 1))) (sSkip))
  (sRet (eC (.int 0)))
def s_law_cell_at : FS := fnSem 2 false b_law_cell_at
def l_law_draws_1 : Sx := sSeq (sSet 5 (eBin (dI iMod) (eBin dAdd (eBin dAdd (eBin dAdd (eBin dMulX (eV 5) (eV 5)) (eBin dMulX (eC (.int 48271)) (eV 5))) (eV 6)) (eC (.int 1))) (eC (.int 2305843009213693951))))
  (sIf (tAnd (toB (eBin dGt (eV 6) (eC (.int 2)))) (toB (eBin dGt (eV 4) (eC (.int 0))))) (sSeq (sApp 3 (eBin (dI iMod) (eV 4) (eV 2)))
  (sSet 4 (eBin (dI iDiv) (eV 4) (eV 2)))) (sIf (toB (eBin dGt (eV 6) (eC (.int 2)))) (sApp 3 (eBin (dI iMod) (eBin (dI iDiv) (eV 5) (eC (.int 4096))) (eV 2))) (sSkip)))
def b_law_draws : Sx := sSeq (sSet 3 (eLst []))
  (sSeq (sSet 4 (eBin dMulX (eV 0) (eB gInt [eBin dGe (eV 0) (eBin (dI iPow) (eC (.int 10)) (eC (.int 18)))])))
  (sSeq (sSet 5 (eBin (dI iMod) (eV 0) (eC (.int 2305843009213693951))))
  (sSeq (sFor (iRange1 (eBin dAdd (eV 1) (eC (.int 3)))) (bName 6) l_law_draws_1)
  (sRet (eV 3)))))
def s_law_draws : FS := fnSem 7 false b_law_draws
def b_law_take : Sx := sSeq (sSetIx 0 (eC (.int 1)) (eBin dAdd (eBin dIx (eV 0) (eC (.int 1))) (eC (.int 1))))
  (sRet (eBin (dI iMod) (eBin dIx (eBin dIx (eV 0) (eC (.int 0))) (eBin (dI iMod) (eBin dIx (eV 0) (eC (.int 1))) (eB gLen [eBin dIx (eV 0) (eC (.int 0))]))) (eV 1)))
def s_law_take : FS := fnSem 2 true b_law_take
def b_law_wait : Sx := sSeq (sSet 2 (eBin dIx (eV 0) (eC (.int 0))))
  (sSeq (sIf (toB (eBin dGt (eV 1) (eB gLen [eV 2]))) (sRet (eBin dIx (eV 2) (eUn dNeg (eC (.int 1))))) (sSkip))
  (sRet (eBin dIx (eV 2) (eBin (dI iSub) (eV 1) (eC (.int 1))))))
def s_law_wait : FS := fnSem 3 false b_law_wait
def e_are_waits_1 : Ex := eCall s_is_integer [eV 1, eC (.int 1), eC (.int 100)]
def b_are_waits : Sx := sSeq (sIf (tOr (tNot (toB (eB gIsi [eV 0, eC (.ty .tuple)]))) (tNot (toB (eChain (fun i j => decide (i ≤ j)) (fun i j => decide (i ≤ j)) (eC (.int 1)) (eB gLen [eV 0]) (eC (.int 6)))))) (sRet (eC (.bl false))) (sSkip))
  (sRet (eAnd (eB gAll [eComp (iSeq (eV 0)) (bName 1) (tYes') (e_are_waits_1) [1]]) (eCall s_never_falls [eV 0])))
def s_are_waits : FS := fnSem 2 false b_are_waits
def b_need_time : Sx := sIf (tNot (toB (eCall s_is_integer [eV 0, eV 1, eV 2]))) (sRaise 2) (sSkip)
def s_need_time : FS := fnSem 3 false b_need_time
def l_length_of_1 : Sx := sIf (toB (eBin dGe (eBin dMulX (eV 3) (eBin dIx (eV 1) (eBin (dI iSub) (eV 3) (eC (.int 1))))) (eBin dAdd (eCall s_series_time [eV 0, eV 3]) (eV 2)))) (sRet (eV 3)) (sSkip)
def b_length_of : Sx := sSeq (sAsg (bTup (bCons (bName 1) (bCons (bName 2) (bNil)))) (eV 0))
  (sSeq (sFor (iRange2 (eC (.int 1)) (eBin dAdd (eB gLen [eV 1]) (eC (.int 1)))) (bName 3) l_length_of_1)
  (sRet (eC .non)))
def s_length_of : FS := fnSem 4 false b_length_of
def b_time_of : Sx := sSeq (sSet2 3 4 (eBin (dI iDiv) (eV 1) (eV 2)) (eBin (dI iMod) (eV 1) (eV 2)))
  (sSeq (sSet 5 (eBin dAdd (eBin dMulX (eBin (dI iSub) (eV 2) (eV 4)) (eCall s_series_time [eV 0, eV 3])) (eBin dMulX (eBin (dI iSub) (eV 2) (eC (.int 1))) (eBin dIx (eV 0) (eC (.int 1))))))
  (sRet (eBin dAdd (eV 5) (eBin dMulX (eV 4) (eCall s_series_time [eV 0, eBin dAdd (eV 3) (eC (.int 1))])))))
def s_time_of : FS := fnSem 6 false b_time_of
def b_law_bag : Sx := sRet (eLst [eCall s_law_draws [eCall s_law_cell_at [eV 0, eV 1], eC (.int 400), eC (.int 1000)], eC (.int 0)])
def s_law_bag : FS := fnSem 2 false b_law_bag
def l_law_far_draw_1 : Sx := sSet2 2 3 (eBin dAdd (eBin dMulX (eC (.int 1000)) (eV 2)) (eCallB 0 s_law_take [eC (.int 1000)])) (eBin (dI iDiv) (eV 3) (eC (.int 1000)))
def t_law_far_draw_2 : Tx := toB (eBin dGt (eV 3) (eC (.int 0)))
def b_law_far_draw : Sx := sSeq (sSet2 2 3 (eC (.int 0)) (eV 1))
  (sSeq (sWhile 1000000 t_law_far_draw_2 l_law_far_draw_1)
  (sRet (eBin dIx (eLst [eBin (dI iMod) (eV 2) (eV 1), eC (.int 0), eBin (dI iSub) (eV 1) (eC (.int 1)), eBin (dI iMod) (eV 2) (eV 1)]) (eCallB 0 s_law_take [eC (.int 4)]))))
def s_law_far_draw : FS := fnSem 4 true b_law_far_draw
def l_law_rule_1 : Sx := sSeq (sSet 2 (eBin dAdd (eV 2) (eTup [eB gMin2 [eC (.int 100), eV 1]])))
  (sSet 1 (eBin dAdd (eV 1) (eCallB 0 s_law_take [eV 3])))
def b_law_rule : Sx := sSeq (sSet2 1 2 (eBin dAdd (eC (.int 1)) (eCallB 0 s_law_take [eBin dIx (eLst [eC (.int 3), eC (.int 12)]) (eCallB 0 s_law_take [eC (.int 2)])])) (eTup []))
  (sSeq (sSet 3 (eBin dIx (eLst [eC (.int 1), eC (.int 2), eC (.int 2), eC (.int 6), eC (.int 20)]) (eCallB 0 s_law_take [eC (.int 5)])))
  (sSeq (sFor (iRange1 (eBin dAdd (eC (.int 1)) (eCallB 0 s_law_take [eC (.int 6)]))) (bName 4) l_law_rule_1)
  (sSeq (sSet 5 (eBin dIx (eLst [eC (.int 0), eC (.int 1), eCallB 0 s_law_take [eC (.int 5)], eCallB 0 s_law_take [eC (.int 30)], eC (.int 100)]) (eCallB 0 s_law_take [eC (.int 5)])))
  (sRet (eTup [eV 2, eB gMin2 [eC (.int 200), eBin dAdd (eBin dIx (eV 2) (eUn dNeg (eC (.int 1)))) (eV 5)]])))))
def s_law_rule : FS := fnSem 6 true b_law_rule
def e_law_series_1 : Ex := eCall s_law_wait [eV 0, eV 2]
def b_law_series : Sx := sRet (eB gSumA [eComp (iRange2 (eC (.int 1)) (eV 1)) (bName 2) (tYes') (e_law_series_1) [2]])
def s_law_series : FS := fnSem 3 false b_law_series
def b_is_rule : Sx := sSeq (sIf (tOr (tNot (toB (eB gIsi [eV 0, eC (.ty .tuple)]))) (tOr (toB (eBin dNe (eB gLen [eV 0]) (eC (.int 2)))) (tNot (toB (eCall s_are_waits [eBin dIx (eV 0) (eC (.int 0))]))))) (sRet (eC (.bl false))) (sSkip))
  (sRet (eCall s_is_integer [eBin dIx (eV 0) (eC (.int 1)), eBin dIx (eBin dIx (eV 0) (eC (.int 0))) (eUn dNeg (eC (.int 1))), eC (.int 200)]))
def s_is_rule : FS := fnSem 1 false b_is_rule
def e_earliest_of_1 : Ex := eV 5
def t_earliest_of_2 : Tx := toB (eChain (fun i j => decide (i ≤ j)) (fun i j => decide (i ≤ j)) (eC (.int 1)) (eV 5) (eV 1))
def e_earliest_of_3 : Ex := eCall s_time_of [eV 0, eV 1, eV 5]
def b_earliest_of : Sx := sSeq (sSet 2 (eCall s_length_of [eV 0]))
  (sSeq (sIf (toB (eBin dIsN (eV 2) (eC .non))) (sRet (eCall s_time_of [eV 0, eV 1, eC (.int 1)])) (sSkip))
  (sSeq (sSet 3 (eBin (dI iDiv) (eV 1) (eV 2)))
  (sSeq (sSet 4 (eComp (iRange2 (eBin (dI iSub) (eV 3) (eC (.int 2))) (eBin dAdd (eV 3) (eC (.int 4)))) (bName 5) (t_earliest_of_2) (e_earliest_of_1) [5]))
  (sRet (eB gMinL [eComp (iSeq (eBin dAdd (eV 4) (eLst [eC (.int 1)]))) (bName 5) (tYes') (e_earliest_of_3) [5]])))))
def s_earliest_of : FS := fnSem 6 false b_earliest_of
def s_law_bags : List Sl → FOutO := fnSemO 3 (oComp (iRange1 (eB gMax2 [eC (.int 1), eB gMin2 [eV 1, eB gLen [eV 0]]])) (bName 2) (eCall s_law_bag [eV 0, eV 2]) [2])
def e_law_small_1 : Ex := eBin dAdd (eBin dAdd (eBin dIx (eV 2) (eBin (dI iSub) (eV 3) (eV 5))) (eBin dIx (eV 0) (eC (.int 1)))) (eCall s_law_series [eV 0, eV 5])
def l_law_small_2 : Sx := sSeq (sSet 4 (eLst [eCall s_law_series [eV 0, eV 3]]))
  (sSeq (sSet 4 (eBin dAdd (eV 4) (eComp (iRange2 (eC (.int 1)) (eV 3)) (bName 5) (tYes') (e_law_small_1) [5])))
  (sApp 2 (eB gMinL [eV 4])))
def b_law_small : Sx := sSeq (sSet 2 (eLst [eC (.int 0)]))
  (sSeq (sFor (iRange2 (eC (.int 1)) (eBin dAdd (eV 1) (eC (.int 1)))) (bName 3) l_law_small_2)
  (sRet (eV 2)))
def s_law_small : FS := fnSem 6 false b_law_small
def b_need_rule : Sx := sIf (tNot (toB (eCall s_is_rule [eV 0]))) (sRaise 0) (sSkip)
def s_need_rule : FS := fnSem 1 false b_need_rule
def b_earliest : Sx := sSeq (sDrop (eCall s_need_rule [eV 0]))
  (sSeq (sIf (tNot (toB (eCall s_is_integer [eV 1, eC (.int 1), eC (.int 1000000000000)]))) (sRaise 3) (sSkip))
  (sRet (eCall s_earliest_of [eV 0, eV 1])))
def s_earliest : FS := fnSem 2 false b_earliest
def l_most_until_1 : Sx := sSeq (sSet 4 (eBin (dI iDiv) (eBin dAdd (eV 2) (eV 3)) (eC (.int 2))))
  (sIf (toB (eBin dLe (eCall s_earliest_of [eV 0, eV 4]) (eV 1))) (sSet 2 (eV 4)) (sSet 3 (eV 4)))
def t_most_until_2 : Tx := toB (eBin dGt (eBin (dI iSub) (eV 3) (eV 2)) (eC (.int 1)))
def b_most_until : Sx := sSeq (sDrop (eCall s_need_rule [eV 0]))
  (sSeq (sDrop (eCall s_need_time [eV 1, eC (.int 0), eC (.int 1000000000000)]))
  (sSeq (sSet2 2 3 (eC (.int 1)) (eBin dAdd (eV 1) (eC (.int 2))))
  (sSeq (sWhile 1000000 t_most_until_2 l_most_until_1)
  (sRet (eV 2)))))
def s_most_until : FS := fnSem 5 false b_most_until
def l_law_1 (Pt : Addr) : Sx := sSeq (sSet 6 (eCall s_most_until [eV 2, eV 3]))
  (sSeq (sIf (tOr (toB (eBin dLt (eV 6) (eC (.int 1)))) (tAnd (toB (eBin dLe (eV 6) (eBin (dI iPow) (eC (.int 10)) (eC (.int 12))))) (toB (eBin dGt (eCall s_earliest [eV 2, eV 6]) (eV 3))))) (sRet (eC (.bl false))) (sSkip))
  (sIf (tAnd (toB (eBin dLt (eV 6) (eBin (dI iPow) (eC (.int 10)) (eC (.int 12))))) (toB (eBin dLe (eCall s_earliest [eV 2, eBin dAdd (eV 6) (eC (.int 1))]) (eV 3)))) (sRet (eC (.bl false))) (sSkip)))
def e_law_2 (Pt : Addr) : Ex := eCallB 1 s_law_take [eBin dIx (eV 4) (eUn dNeg (eC (.int 1)))]
def e_law_3 (Pt : Addr) : Ex := eV 9
def t_law_4 (Pt : Addr) : Tx := toB (eBin dLe (eV 9) (eV 3))
def l_law_5 (Pt : Addr) : Sx := sSeq (sSet 7 (eB gLen [eComp (iSeq (eSl (eV 4) (pInt (eC (.int 1))) (pNo))) (bName 9) ((t_law_4 Pt)) ((e_law_3 Pt)) [9]]))
  (sIf (tAnd (toB (eChain (fun i j => decide (i ≤ j)) (fun i j => decide (i < j)) (eC (.int 0)) (eV 3) (eBin dIx (eV 4) (eUn dNeg (eC (.int 1)))))) (toB (eBin dNe (eCall s_most_until [eV 2, eV 3]) (eV 7)))) (sRet (eC (.bl false))) (sSkip))
def l_law_6 (Pt : Addr) : Sx := sIf (toB (eBin dNe (eLamErr Pt (lamFS (eCall s_most_until [eV 0, eV 1])) [eV 2, eV 5, eC (.int 0)]) (eLst [eC (.str "InvalidTime"), eC (.bl true)]))) (sRet (eC (.bl false))) (sSkip)
def l_law_7 (Pt : Addr) : Sx := sSeq (sSet 2 (eCallB 1 s_law_rule []))
  (sSeq (sFor (iSeq (eTup [eC (.int 0), eCallB 1 s_law_take [eC (.int 3000)], eCallB 1 s_law_far_draw [eBin (dI iPow) (eC (.int 10)) (eC (.int 12))], eBin (dI iPow) (eC (.int 10)) (eC (.int 12))])) (bName 3) (l_law_1 Pt))
  (sSeq (sSet 4 (eCall s_law_small [eV 2, eC (.int 30)]))
  (sSeq (sFor (iSeq (eBin dAdd (eComp (iRange1 (eC (.int 6))) (bName 8) (tYes') ((e_law_2 Pt)) [8]) (eLst [eBin dIx (eV 4) (eC (.int 5)), eBin dIx (eV 4) (eC (.int 9)), eBin (dI iSub) (eBin dIx (eV 4) (eC (.int 9))) (eC (.int 1))]))) (bName 3) (l_law_5 Pt))
  (sFor (iSeq (eTup [eUn dNeg (eC (.int 1)), eBin dAdd (eBin (dI iPow) (eC (.int 10)) (eC (.int 12))) (eC (.int 1)), eC .non, eC (.bl true), eC (.str "1")])) (bName 5) (l_law_6 Pt)))))
def b_law (Pt : Addr) : Sx := sSeq (sForO (oCall s_law_bags [eVT 0, eC (.int 8)]) 1 (l_law_7 Pt))
  (sRet (eAnd (eBin dEq (eCall s_most_until [eTup [eTup [eC (.int 1), eC (.int 8)], eC (.int 10)], eC (.int 22)]) (eC (.int 5))) (eBin dEq (eCall s_most_until [eTup [eTup [eC (.int 1)], eC (.int 1)], eBin (dI iPow) (eC (.int 10)) (eC (.int 12))]) (eBin dAdd (eBin (dI iPow) (eC (.int 10)) (eC (.int 12))) (eC (.int 1))))))
def s_law (Pt : Addr) : FS := fnSem 10 false (b_law Pt)
end GW

set_option Elab.async false
set_option linter.all false
set_option maxRecDepth 100000
namespace GW
open PySem L2
local macro_rules | `(tactic| walk_at "gw") => `(tactic| simp (disch := first | omega | (simp only [List.length_cons, List.length_nil, lim]; omega)) only [dMul_b, ev_C, ev_V, ev_V1, ev_V2, lk_dat, lk_tmp, lk_bor, lkB1, lkB2, so_dat, so_tmp, so_bor, toD1, toD2, toD3, op1, op2, ev_Bin, bin1_ok, bin2_ok, bin3_ok, ev_Un, un1_ok, un2_ok, aO_nil, aO_cons, aO1_ok, aO2_ok, lA_nil, lA_cons, lA_ok, ev_B, eB1_ok, eB2_ok, sto_dat, sto_tmp, sto_bor, stoB_ok, aS_nil, aS_cons, aS1_ok, aS2_ok, aS3_ok, ev_Tup, ev_Lst, tup1_ok, lst1_ok, ev_Call, call1_ok, back_dat, back_tmp, back_exc, ev_CallB, callB0_ok, callB1_ok, callB2_ok, callB3_dat, callB3_tmp, ev_Sl, sl1_ok, sl2_ok, sl3_ok, sl4_ok, gSl_t, gSl_l, ev_pNo, ev_pInt, pI1_ok, ev_If, if1_t, if1_f, ev_toB, toB1_ok, ev_And, ev_Or, ev_Not, and1_t, and1_f, or1_t, or1_f, not1_ok, ev_tAnd, ev_tOr, ev_tNot, tand1_t, tand1_f, tor1_t, tor1_f, tnot1_ok, ev_tYes, ev_Chain, ch1_ok, ch2_ok, ch3_t, ch3_f, ch4_ok, ev_Chain3, d31_ok, d32_ok, d33_t, d33_f, d34_ok, d35_t, d35_f, d36_ok, ev_iZipM, izm1_ok, ev_sSkip, ev_sBreak, ev_sRetN, ev_sSeq, then_nx, then_rt, then_bk, then_exc, keep_dat, keep_tmp, keep_bor, keepB_ok, slot_dat, slot_tmp, ev_sSet, set1_ok, set1_exc, set2_ok, ev_sSet2, s21_ok, s22_ok, s23_ok, s24_ok, ev_sSet3, s31_ok, s32_ok, s33_ok, ev_sAsg, asg1_ok, asg2_ok, asg3_ok, b_Name, b_Tup, b_Cons, bc1_ok, b_Nil, ev_sIf, sif1_t, sif1_f, ev_sRet, ret1_dat, ret1_tmp, ret1_exc, ret1_bor, retB_ok, ev_sDrop, drop1_ok, drop1_exc, ev_sApp, app0_ok, app1_ok, app2_ok, app3_ok, ev_sSetIx, six1_ok, six2_ok, six3_ok, six4_ok, six5_ok, six6_ok, ev_sFor, for1_ok, ev_sForO, forO1_ok, ev_oCall, oc1_ok, oc2_ok, ev_iSeq, iseq1_ok, iseq2_l, iseq2_t, ev_iRange1, ev_iRange2, ir1_ok, ir2_ok, ien1_t, ev_eListG, elg1_ok, elg2_ok, ev_eListR, elr1_ok, dIn_l, dNotIn_l, ev_eDict1, ed1_ok, ed2_ok, ev_eGet2, gt1_ok, gt2_ok, gt3_ok, gt4_ok, ev_sPutD, pu1_ok, pu2_ok, pu3_ok, pu4_ok, pu5_ok, ev_eMaxV, mv1_1, mv1_2, ev_iEnum, ien1_l, ev_iZip, iz1_t, iz1_l, ev_Comp, comp1_ok, comp2_ok, wipe_nil, wipe_cons, ev_fn, fin1_rt, fin1_nx, fin1_exc, fin_dat, fin_tmp, finB_dat, finB_tmp, finB_ok, dAdd_i, dAdd_t, dAdd_l, dSub_i, dMul_1, dMul_2, dMul_t, dMul_t1, dPow_18, dPow_12, dPow_6, dPow_11, dDiv_i, dMod_i, dB_i, dNeg_i, gInt_i, gInt_b, gLen_l, gLen_t, gMin2_i, gMax2_i, gList_l, gList_t, gTuple_l, gTuple_t, gSum_i, gSum_t, gAll_b, gMinL_i, gMaxL_i, dIsN_n, dNotN_n, dIsB_b, dNotB_b, dIx_l, dIx_t, gIsi_ii, gIsi_ib, gIsi_tt, gIsi_ll, dEq_ok, dNe_ok, atI_0, atI_1, atI_2, atI_3, atI_4, atI_5, ixN_0, ixN_1, atI_last, atI_last1, List.getElem?_cons_zero, List.getElem?_cons_succ, List.set_cons_zero, List.set_cons_succ, List.map_cons, List.map_nil, Option.map_some, Option.map_none, List.cons_append, List.nil_append, List.length_cons, List.length_nil, Nat.reduceAdd, Nat.reduceSub, List.replicate_succ, List.replicate_zero, dLt, dLe, dGt, dGe, lim, Nat.reduceLeDiff, Int.reduceNeg, Bool.and_self, Bool.true_and, Bool.false_and, Bool.and_true, Bool.and_false, Bool.not_true, Bool.not_false])
local macro_rules | `(tactic| walk_at "gwh") => `(tactic| simp (disch := first | omega | (simp only [List.length_cons, List.length_nil, lim]; omega)) only [dMul_b, ev_C, ev_V, ev_V1, ev_V2, lk_dat, lk_tmp, lk_bor, lkB1, lkB2, so_dat, so_tmp, so_bor, toD1, toD2, toD3, op1, op2, ev_Bin, bin1_ok, bin2_ok, bin3_ok, ev_Un, un1_ok, un2_ok, aO_nil, aO_cons, aO1_ok, aO2_ok, lA_nil, lA_cons, lA_ok, ev_B, eB1_ok, eB2_ok, sto_dat, sto_tmp, sto_bor, stoB_ok, aS_nil, aS_cons, aS1_ok, aS2_ok, aS3_ok, ev_Tup, ev_Lst, tup1_ok, lst1_ok, ev_Call, call1_ok, back_dat, back_tmp, back_exc, ev_CallB, callB0_ok, callB1_ok, callB2_ok, callB3_dat, callB3_tmp, ev_Sl, sl1_ok, sl2_ok, sl3_ok, sl4_ok, gSl_t, gSl_l, ev_pNo, ev_pInt, pI1_ok, ev_If, if1_t, if1_f, ev_toB, toB1_ok, ev_And, ev_Or, ev_Not, and1_t, and1_f, or1_t, or1_f, not1_ok, ev_tAnd, ev_tOr, ev_tNot, tand1_t, tand1_f, tor1_t, tor1_f, tnot1_ok, ev_tYes, ev_Chain, ch1_ok, ch2_ok, ch3_t, ch3_f, ch4_ok, ev_Chain3, d31_ok, d32_ok, d33_t, d33_f, d34_ok, d35_t, d35_f, d36_ok, ev_iZipM, izm1_ok, ev_sSkip, ev_sBreak, ev_sRetN, ev_sSeq, then_nx, then_rt, then_bk, then_exc, keep_dat, keep_tmp, keep_bor, keepB_ok, slot_dat, slot_tmp, ev_sSet, set1_ok, set1_exc, set2_ok, ev_sSet2, s21_ok, s22_ok, s23_ok, s24_ok, ev_sSet3, s31_ok, s32_ok, s33_ok, ev_sAsg, asg1_ok, asg2_ok, asg3_ok, b_Name, b_Tup, b_Cons, bc1_ok, b_Nil, ev_sIf, sif1_t, sif1_f, ev_sRet, ret1_dat, ret1_tmp, ret1_exc, ret1_bor, retB_ok, ev_sDrop, drop1_ok, drop1_exc, ev_sApp, app0_ok, app1_ok, app2_ok, app3_ok, ev_sSetIx, six1_ok, six2_ok, six3_ok, six4_ok, six5_ok, six6_ok, ev_sFor, for1_ok, ev_sForO, forO1_ok, ev_oCall, oc1_ok, oc2_ok, ev_iSeq, iseq1_ok, iseq2_l, iseq2_t, ev_iRange1, ev_iRange2, ir1_ok, ir2_ok, ien1_t, ev_eListG, elg1_ok, elg2_ok, ev_eListR, elr1_ok, dIn_l, dNotIn_l, ev_eDict1, ed1_ok, ed2_ok, ev_eGet2, gt1_ok, gt2_ok, gt3_ok, gt4_ok, ev_sPutD, pu1_ok, pu2_ok, pu3_ok, pu4_ok, pu5_ok, ev_eMaxV, mv1_1, mv1_2, ev_iEnum, ien1_l, ev_iZip, iz1_t, iz1_l, ev_Comp, comp1_ok, comp2_ok, wipe_nil, wipe_cons, ev_fn, fin1_rt, fin1_nx, fin1_exc, fin_dat, fin_tmp, finB_dat, finB_tmp, finB_ok, dAdd_i, dAdd_t, dAdd_l, dSub_i, dMul_1, dMul_2, dMul_t, dMul_t1, dPow_18, dPow_12, dPow_6, dPow_11, dDiv_i, dMod_i, dB_i, dNeg_i, gInt_i, gInt_b, gLen_l, gLen_t, gMin2_i, gMax2_i, gList_l, gList_t, gTuple_l, gTuple_t, gSum_i, gSum_t, gAll_b, gMinL_i, gMaxL_i, dIsN_n, dNotN_n, dIsB_b, dNotB_b, dIx_l, dIx_t, gIsi_ii, gIsi_ib, gIsi_tt, gIsi_ll, dEq_ok, dNe_ok, atI_0, atI_1, atI_2, atI_3, atI_4, atI_5, ixN_0, ixN_1, atI_last, atI_last1, List.getElem?_cons_zero, List.getElem?_cons_succ, List.set_cons_zero, List.set_cons_succ, List.map_cons, List.map_nil, Option.map_some, Option.map_none, List.cons_append, List.nil_append, List.length_cons, List.length_nil, Nat.reduceAdd, Nat.reduceSub, List.replicate_succ, List.replicate_zero, dLt, dLe, dGt, dGe, lim, Nat.reduceLeDiff, Int.reduceNeg, Bool.and_self, Bool.true_and, Bool.false_and, Bool.and_true, Bool.and_false, Bool.not_true, Bool.not_false, *])

theorem cell_ok (ns : List Int) (k : Nat) : s_law_cell_at [.dat (.lst (ns.map D.int)), .dat (.int k)] = .ok (.dat (.int (ns.getD k 0))) none := by
  unfold s_law_cell_at b_law_cell_at
  walk_at "gw"
  by_cases h : k < ns.length
  · have e : atI (ns.map D.int) (k : Int) = some (.int (ns.getD k 0)) := atI_nat (by simp [h])
    have h' : (k : Int) < ((ns.map D.int).length : Int) := by simp; exact h
    simp only [decide_eq_true h']
    walk_at "gwh"
  · have h' : ¬ (k : Int) < ((ns.map D.int).length : Int) := by simp; omega
    simp only [decide_eq_false h']
    walk_at "gw"
    simp [h]
def drawsOk (n : Nat) (size : Int) (ds : List Int) : Prop := ds.length = n ∧ ∀ d ∈ ds, 0 ≤ d ∧ d < size
/-- what holds between two turns -/
def DrawsInv (cell many size : Int) (i : Nat) (ev : List Sl) : Prop := ∃ (ds : List Int) (rest stirred : Int) (old : Sl), 0 ≤ rest ∧ 0 ≤ stirred ∧ stirred < 2305843009213693951 ∧ (∀ d ∈ ds, 0 ≤ d ∧ d < size) ∧ ds.length = i - 3 ∧
    ev = [.dat (.int cell), .dat (.int many), .dat (.int size), .own (.lst (ds.map D.int)), .dat (.int rest), .dat (.int stirred), old]
theorem draws_turn {cell many size : Int} (hs : 0 < size) (hs2 : size < 1000000) {i : Nat} (hi : i < 2000) {ev : List Sl} (h : DrawsInv cell many size i ev) : ∃ e2, l_law_draws_1 (ev.set 6 (.dat (.int (0 + (i : Nat))))) = .nx e2 ∧ DrawsInv cell many size (i + 1) e2 := by
  obtain ⟨ds, rest, st, old, q1, q2, q3, q4, hl, rfl⟩ := h
  unfold l_law_draws_1
  walk_at "gw"
  have p0 := Int.emod_nonneg (st * st + 48271 * st + (0 + (i : Int)) + 1) (show (2305843009213693951 : Int) ≠ 0 by decide)
  have p1 := Int.emod_lt_of_pos (st * st + 48271 * st + (0 + (i : Int)) + 1) (show (0 : Int) < 2305843009213693951 by decide)
  generalize (st * st + 48271 * st + (0 + (i : Int)) + 1) % 2305843009213693951 = st' at p0 p1 ⊢
  by_cases h3 : 2 < (0 + (i : Int))
  · simp only [decide_eq_true h3]; walk_at "gw"
    by_cases hr : 0 < rest
    · simp only [decide_eq_true hr]
      have hlen : (ds.map D.int).length < 1000000 := by simp; omega
      walk_at "gw"
      refine ⟨_, rfl, ds ++ [rest % size], rest / size, st', .dat (.int (0 + (i : Int))), ?_, p0, p1, ?_, ?_, ?_⟩
      · exact Int.ediv_nonneg q1 (by omega)
      · intro d hd
        rcases List.mem_append.mp hd with z | z
        · exact q4 d z
        · have := List.mem_singleton.mp z
          subst this
          exact ⟨Int.emod_nonneg _ (by omega), Int.emod_lt_of_pos _ hs⟩
      · simp; omega
      · simp
    · simp only [decide_eq_false hr]; walk_at "gw"; simp only [decide_eq_true h3]
      have hlen : (ds.map D.int).length < 1000000 := by simp; omega
      walk_at "gw"
      refine ⟨_, rfl, ds ++ [st' / 4096 % size], rest, st', .dat (.int (0 + (i : Int))), q1, p0, p1, ?_, ?_, ?_⟩
      · intro d hd
        rcases List.mem_append.mp hd with z | z
        · exact q4 d z
        · have := List.mem_singleton.mp z
          subst this
          exact ⟨Int.emod_nonneg _ (by omega), Int.emod_lt_of_pos _ hs⟩
      · simp; omega
      · simp
  · simp only [decide_eq_false h3]; walk_at "gw"; simp only [decide_eq_false h3]; walk_at "gw"
    exact ⟨_, rfl, ds, rest, st', _, q1, p0, p1, q4, by omega, rfl⟩
theorem draws_loop (cell size : Int) (many : Nat) (hm : many < 1000) (hs : 0 < size) (hs2 : size < 1000000) (rest stirred : Int) (r0 : 0 ≤ rest) (s0 : 0 ≤ stirred) (s1 : stirred < 2305843009213693951) :
    ∃ ds, drawsOk many size ds ∧ fin1 false (thenS (sRet (eV 3)) (forS (bName 6) l_law_draws_1 (rangeD 0 (many + 3)) [.dat (.int cell), .dat (.int many), .dat (.int size), .own (.lst []), .dat (.int rest), .dat (.int stirred), .un])) = .ok (.tmp (.lst (ds.map D.int))) none := by
  obtain ⟨e2, h1, ds, rest', st', old, _, _, _, hds, hl, rfl⟩ := forS_range (b := bName 6) (body := l_law_draws_1) (lo := 0) (n := many + 3) (ev := [.dat (.int cell), .dat (.int many), .dat (.int size), .own (.lst []), .dat (.int rest), .dat (.int stirred), .un]) (DrawsInv cell many size)
    ⟨[], rest, stirred, .un, r0, s0, s1, by simp, rfl, rfl⟩ (fun i ev hi h => by
      obtain ⟨e2, h1, h2⟩ := draws_turn hs hs2 (Nat.lt_of_lt_of_le hi (by omega)) h
      exact ⟨_, e2, rfl, .inl h1, h2⟩)
  rw [h1]
  walk_at "gw"
  exact ⟨ds, ⟨by omega, hds⟩, rfl⟩
theorem big_nn (cell : Int) : 0 ≤ cell * (if decide (1000000000000000000 ≤ cell) = true then 1 else 0) := by
  split
  · rename_i h; have := of_decide_eq_true h; omega
  · omega
theorem draws_ok (cell size : Int) (many : Nat) (hm : many < 1000) (hs : 0 < size) (hs2 : size < 1000000) :
    ∃ ds, drawsOk many size ds ∧ s_law_draws [.dat (.int cell), .dat (.int many), .dat (.int size)] = .ok (.tmp (.lst (ds.map D.int))) none := by
  obtain ⟨ds, h1, h2⟩ := draws_loop cell size many hm hs hs2 _ _ (big_nn cell) (Int.emod_nonneg cell (by decide)) (Int.emod_lt_of_pos cell (by decide))
  refine ⟨ds, h1, ?_⟩
  rw [← h2]
  unfold s_law_draws b_law_draws
  walk_at "gw"
  have e0 : ((many : Int) + 3).toNat = many + 3 := by omega
  rw [e0]

/-- a law's bag: its draws, how many were taken -/
def BagOk (o : O) : Prop := ∃ (ds : List Int) (k : Int), o = .lst [.lst (ds.map D.int), .int k] ∧ 0 < ds.length ∧ (∀ d ∈ ds, 0 ≤ d ∧ d < 1000) ∧ 0 ≤ k
theorem take_ok {o : O} (h : BagOk o) {m : Int} (hm : 0 < m) : ∃ r o', 0 ≤ r ∧ r < m ∧ BagOk o' ∧ s_law_take [.own o, .dat (.int m)] = .ok (.dat (.int r)) (some o') := by
  obtain ⟨ds, k, rfl, hl, hd, hk⟩ := h
  have hlm : 0 < ((ds.map D.int).length : Int) := by simp; omega
  have q0 := Int.emod_nonneg (k + 1) (show ((ds.map D.int).length : Int) ≠ 0 by omega)
  have q1 := Int.emod_lt_of_pos (k + 1) hlm
  obtain ⟨j, hj⟩ : ∃ j : Nat, (k + 1) % ((ds.map D.int).length : Int) = j := ⟨((k + 1) % ((ds.map D.int).length : Int)).toNat, by omega⟩
  have hj2 : j < ds.length := by rw [hj] at q1; simpa using q1
  have a0 : atI (ds.map D.int) ((k + 1) % ((ds.map D.int).length : Int)) = some (.int ds[j]) := by rw [hj]; exact atI_nat (by simp [hj2])
  refine ⟨ds[j] % m, .lst [.lst (ds.map D.int), .int (k + 1)], Int.emod_nonneg _ (by omega), Int.emod_lt_of_pos _ hm, ⟨ds, k + 1, rfl, hl, hd, by omega⟩, ?_⟩
  unfold s_law_take b_law_take
  walk_at "gw"
  rw [a0]
  walk_at "gw"
theorem bag_ok (ns : List Int) (k : Nat) : ∃ o, BagOk o ∧ s_law_bag [.dat (.lst (ns.map D.int)), .dat (.int k)] = .ok (.tmp o) none := by
  obtain ⟨ds, ⟨h1, h2⟩, h3⟩ := draws_ok (ns.getD k 0) 1000 400 (by decide) (by decide) (by decide)
  have h3' : s_law_draws [.dat (.int (ns.getD k 0)), .dat (.int 400), .dat (.int 1000)] = .ok (.tmp (.lst (ds.map D.int))) none := h3
  refine ⟨.lst [.lst (ds.map D.int), .int 0], ⟨ds, 0, rfl, by omega, h2, by omega⟩, ?_⟩
  have h4 := cell_ok ns k
  unfold s_law_bag b_law_bag
  walk_at "gw"
  rw [h4]
  walk_at "gw"
  rw [h3']
  walk_at "gw"
theorem compO_inv {b : Bx} {el : Ex} {vs : List Nat} (P : List Sl → Prop) : ∀ {items : List D} {acc : List O} {ev : List Sl}, P ev → (∀ o ∈ acc, BagOk o) → acc.length + items.length ≤ lim →
    (∀ (i : Nat) x ev, items[i]? = some x → P ev → ∃ e1 e2 o, b x ev = some e1 ∧ el e1 = .ok (.tmp o) e2 ∧ BagOk o ∧ P (wipeE e2 vs)) → ∃ os e2, compO b el vs items acc ev = .ok os e2 ∧ (∀ o ∈ os, BagOk o) ∧ P e2
  | [], acc, ev, h0, hb, _, _ => ⟨acc, ev, rfl, hb, h0⟩
  | x :: xs, acc, ev, h0, hb, hl, hs => by
    obtain ⟨e1, e2, o, h1, h2, h3, h4⟩ := hs 0 x ev rfl h0
    rw [List.length_cons] at hl
    obtain ⟨os, e3, q1, q2, q3⟩ := compO_inv P (items := xs) (acc := acc ++ [o]) (ev := wipeE e2 vs) h4 (fun o' h => by
      rcases List.mem_append.mp h with z | z
      · exact hb o' z
      · rw [List.mem_singleton.mp z]; exact h3) (by rw [List.length_append, List.length_singleton]; omega) fun i y ev' hy hp => hs (i + 1) y ev' (by simpa using hy) hp
    refine ⟨os, e3, ?_, q2, q3⟩
    unfold compO
    simp only [h1, h2]
    rw [if_pos (by omega)]
    exact q1
theorem bags_ok (ns : List Int) (hl : ns.length ≤ 63) (limit : Nat) (hm : limit < 1000) : ∃ os, (∀ o ∈ os, BagOk o) ∧ s_law_bags [.dat (.lst (ns.map D.int)), .dat (.int limit)] = .ok os := by
  unfold s_law_bags fnSemO oComp
  have e0 : iRange1 (eB gMax2 [eC (.int 1), eB gMin2 [eV 1, eB gLen [eV 0]]]) ([Sl.dat (.lst (ns.map D.int)), .dat (.int limit)] ++ List.replicate (3 - [Sl.dat (.lst (ns.map D.int)), Sl.dat (.int limit)].length) .un) = .ok (rangeD 0 (if (if ((ns.map D.int).length : Int) < limit then ((ns.map D.int).length : Int) else limit) > 1 then (if ((ns.map D.int).length : Int) < limit then ((ns.map D.int).length : Int) else limit) else 1).toNat) [.dat (.lst (ns.map D.int)), .dat (.int limit), .un] := by
    have l0 : ((ns.map D.int).length : Int) ≤ 63 := by simp; omega
    walk_at "gw"
  simp only [e0]
  generalize hn : (if (if ((ns.map D.int).length : Int) < limit then ((ns.map D.int).length : Int) else limit) > 1 then (if ((ns.map D.int).length : Int) < limit then ((ns.map D.int).length : Int) else limit) else 1).toNat = n
  have hn2 : n ≤ 1000 := by
    have l0 : ((ns.map D.int).length : Int) ≤ 63 := by simp; omega
    rw [← hn]
    split <;> split <;> omega
  obtain ⟨os, e2, h1, h2, _⟩ := compO_inv (b := bName 2) (el := eCall s_law_bag [eV 0, eV 2]) (vs := [2]) (fun ev => ev = [.dat (.lst (ns.map D.int)), .dat (.int limit), .un]) (items := rangeD 0 n) (acc := []) (ev := wipeE [.dat (.lst (ns.map D.int)), .dat (.int limit), .un] [2]) rfl (by simp) (by rw [rangeD_len]; show 0 + n ≤ 1000000; omega) (by
    rintro i x ev hx rfl
    have hi : i < n := by
      have := (List.getElem?_eq_some_iff.mp hx).1
      rwa [rangeD_len] at this
    rw [rangeD_get hi] at hx
    cases hx
    obtain ⟨o, q1, q2⟩ := bag_ok ns i
    have q2' : s_law_bag [.dat (.lst (ns.map D.int)), .dat (.int (0 + (i : Int)))] = .ok (.tmp o) none := by rw [Int.zero_add]; exact q2
    refine ⟨_, [.dat (.lst (ns.map D.int)), .dat (.int limit), .dat (.int (0 + (i : Int)))], o, rfl, ?_, q1, rfl⟩
    walk_at "gw"
    rw [q2']
    walk_at "gw")
  exact ⟨os, h2, by rw [h1]⟩
end GW

set_option Elab.async false
set_option linter.all false
set_option maxRecDepth 100000
namespace GW
open PySem L2
local macro_rules | `(tactic| walk_at "gw") => `(tactic| simp (disch := first | omega | (simp only [List.length_cons, List.length_nil, lim]; omega)) only [dMul_b, ev_C, ev_V, ev_V1, ev_V2, lk_dat, lk_tmp, lk_bor, lkB1, lkB2, so_dat, so_tmp, so_bor, toD1, toD2, toD3, op1, op2, ev_Bin, bin1_ok, bin2_ok, bin3_ok, ev_Un, un1_ok, un2_ok, aO_nil, aO_cons, aO1_ok, aO2_ok, lA_nil, lA_cons, lA_ok, ev_B, eB1_ok, eB2_ok, sto_dat, sto_tmp, sto_bor, stoB_ok, aS_nil, aS_cons, aS1_ok, aS2_ok, aS3_ok, ev_Tup, ev_Lst, tup1_ok, lst1_ok, ev_Call, call1_ok, back_dat, back_tmp, back_exc, ev_CallB, callB0_ok, callB1_ok, callB2_ok, callB3_dat, callB3_tmp, ev_Sl, sl1_ok, sl2_ok, sl3_ok, sl4_ok, gSl_t, gSl_l, ev_pNo, ev_pInt, pI1_ok, ev_If, if1_t, if1_f, ev_toB, toB1_ok, ev_And, ev_Or, ev_Not, and1_t, and1_f, or1_t, or1_f, not1_ok, ev_tAnd, ev_tOr, ev_tNot, tand1_t, tand1_f, tor1_t, tor1_f, tnot1_ok, ev_tYes, ev_Chain, ch1_ok, ch2_ok, ch3_t, ch3_f, ch4_ok, ev_Chain3, d31_ok, d32_ok, d33_t, d33_f, d34_ok, d35_t, d35_f, d36_ok, ev_iZipM, izm1_ok, ev_sSkip, ev_sBreak, ev_sRetN, ev_sSeq, then_nx, then_rt, then_bk, then_exc, keep_dat, keep_tmp, keep_bor, keepB_ok, slot_dat, slot_tmp, ev_sSet, set1_ok, set1_exc, set2_ok, ev_sSet2, s21_ok, s22_ok, s23_ok, s24_ok, ev_sSet3, s31_ok, s32_ok, s33_ok, ev_sAsg, asg1_ok, asg2_ok, asg3_ok, b_Name, b_Tup, b_Cons, bc1_ok, b_Nil, ev_sIf, sif1_t, sif1_f, ev_sRet, ret1_dat, ret1_tmp, ret1_exc, ret1_bor, retB_ok, ev_sDrop, drop1_ok, drop1_exc, ev_sApp, app0_ok, app1_ok, app2_ok, app3_ok, ev_sSetIx, six1_ok, six2_ok, six3_ok, six4_ok, six5_ok, six6_ok, ev_sFor, for1_ok, ev_sForO, forO1_ok, ev_oCall, oc1_ok, oc2_ok, ev_iSeq, iseq1_ok, iseq2_l, iseq2_t, ev_iRange1, ev_iRange2, ir1_ok, ir2_ok, ien1_t, ev_eListG, elg1_ok, elg2_ok, ev_eListR, elr1_ok, dIn_l, dNotIn_l, ev_eDict1, ed1_ok, ed2_ok, ev_eGet2, gt1_ok, gt2_ok, gt3_ok, gt4_ok, ev_sPutD, pu1_ok, pu2_ok, pu3_ok, pu4_ok, pu5_ok, ev_eMaxV, mv1_1, mv1_2, ev_iEnum, ien1_l, ev_iZip, iz1_t, iz1_l, ev_Comp, comp1_ok, comp2_ok, wipe_nil, wipe_cons, ev_fn, fin1_rt, fin1_nx, fin1_exc, fin_dat, fin_tmp, finB_dat, finB_tmp, finB_ok, dAdd_i, dAdd_t, dAdd_l, dSub_i, dMul_1, dMul_2, dMul_t, dMul_t1, dPow_18, dPow_12, dPow_6, dPow_11, dDiv_i, dMod_i, dB_i, dNeg_i, gInt_i, gInt_b, gLen_l, gLen_t, gMin2_i, gMax2_i, gList_l, gList_t, gTuple_l, gTuple_t, gSum_i, gSum_t, gAll_b, gMinL_i, gMaxL_i, dIsN_n, dNotN_n, dIsB_b, dNotB_b, dIx_l, dIx_t, gIsi_ii, gIsi_ib, gIsi_tt, gIsi_ll, dEq_ok, dNe_ok, atI_0, atI_1, atI_2, atI_3, atI_4, atI_5, ixN_0, ixN_1, atI_last, atI_last1, List.getElem?_cons_zero, List.getElem?_cons_succ, List.set_cons_zero, List.set_cons_succ, List.map_cons, List.map_nil, Option.map_some, Option.map_none, List.cons_append, List.nil_append, List.length_cons, List.length_nil, Nat.reduceAdd, Nat.reduceSub, List.replicate_succ, List.replicate_zero, dLt, dLe, dGt, dGe, lim, Nat.reduceLeDiff, Int.reduceNeg, Bool.and_self, Bool.true_and, Bool.false_and, Bool.and_true, Bool.and_false, Bool.not_true, Bool.not_false])
local macro_rules | `(tactic| walk_at "gwh") => `(tactic| simp (disch := first | omega | (simp only [List.length_cons, List.length_nil, lim]; omega)) only [dMul_b, ev_C, ev_V, ev_V1, ev_V2, lk_dat, lk_tmp, lk_bor, lkB1, lkB2, so_dat, so_tmp, so_bor, toD1, toD2, toD3, op1, op2, ev_Bin, bin1_ok, bin2_ok, bin3_ok, ev_Un, un1_ok, un2_ok, aO_nil, aO_cons, aO1_ok, aO2_ok, lA_nil, lA_cons, lA_ok, ev_B, eB1_ok, eB2_ok, sto_dat, sto_tmp, sto_bor, stoB_ok, aS_nil, aS_cons, aS1_ok, aS2_ok, aS3_ok, ev_Tup, ev_Lst, tup1_ok, lst1_ok, ev_Call, call1_ok, back_dat, back_tmp, back_exc, ev_CallB, callB0_ok, callB1_ok, callB2_ok, callB3_dat, callB3_tmp, ev_Sl, sl1_ok, sl2_ok, sl3_ok, sl4_ok, gSl_t, gSl_l, ev_pNo, ev_pInt, pI1_ok, ev_If, if1_t, if1_f, ev_toB, toB1_ok, ev_And, ev_Or, ev_Not, and1_t, and1_f, or1_t, or1_f, not1_ok, ev_tAnd, ev_tOr, ev_tNot, tand1_t, tand1_f, tor1_t, tor1_f, tnot1_ok, ev_tYes, ev_Chain, ch1_ok, ch2_ok, ch3_t, ch3_f, ch4_ok, ev_Chain3, d31_ok, d32_ok, d33_t, d33_f, d34_ok, d35_t, d35_f, d36_ok, ev_iZipM, izm1_ok, ev_sSkip, ev_sBreak, ev_sRetN, ev_sSeq, then_nx, then_rt, then_bk, then_exc, keep_dat, keep_tmp, keep_bor, keepB_ok, slot_dat, slot_tmp, ev_sSet, set1_ok, set1_exc, set2_ok, ev_sSet2, s21_ok, s22_ok, s23_ok, s24_ok, ev_sSet3, s31_ok, s32_ok, s33_ok, ev_sAsg, asg1_ok, asg2_ok, asg3_ok, b_Name, b_Tup, b_Cons, bc1_ok, b_Nil, ev_sIf, sif1_t, sif1_f, ev_sRet, ret1_dat, ret1_tmp, ret1_exc, ret1_bor, retB_ok, ev_sDrop, drop1_ok, drop1_exc, ev_sApp, app0_ok, app1_ok, app2_ok, app3_ok, ev_sSetIx, six1_ok, six2_ok, six3_ok, six4_ok, six5_ok, six6_ok, ev_sFor, for1_ok, ev_sForO, forO1_ok, ev_oCall, oc1_ok, oc2_ok, ev_iSeq, iseq1_ok, iseq2_l, iseq2_t, ev_iRange1, ev_iRange2, ir1_ok, ir2_ok, ien1_t, ev_eListG, elg1_ok, elg2_ok, ev_eListR, elr1_ok, dIn_l, dNotIn_l, ev_eDict1, ed1_ok, ed2_ok, ev_eGet2, gt1_ok, gt2_ok, gt3_ok, gt4_ok, ev_sPutD, pu1_ok, pu2_ok, pu3_ok, pu4_ok, pu5_ok, ev_eMaxV, mv1_1, mv1_2, ev_iEnum, ien1_l, ev_iZip, iz1_t, iz1_l, ev_Comp, comp1_ok, comp2_ok, wipe_nil, wipe_cons, ev_fn, fin1_rt, fin1_nx, fin1_exc, fin_dat, fin_tmp, finB_dat, finB_tmp, finB_ok, dAdd_i, dAdd_t, dAdd_l, dSub_i, dMul_1, dMul_2, dMul_t, dMul_t1, dPow_18, dPow_12, dPow_6, dPow_11, dDiv_i, dMod_i, dB_i, dNeg_i, gInt_i, gInt_b, gLen_l, gLen_t, gMin2_i, gMax2_i, gList_l, gList_t, gTuple_l, gTuple_t, gSum_i, gSum_t, gAll_b, gMinL_i, gMaxL_i, dIsN_n, dNotN_n, dIsB_b, dNotB_b, dIx_l, dIx_t, gIsi_ii, gIsi_ib, gIsi_tt, gIsi_ll, dEq_ok, dNe_ok, atI_0, atI_1, atI_2, atI_3, atI_4, atI_5, ixN_0, ixN_1, atI_last, atI_last1, List.getElem?_cons_zero, List.getElem?_cons_succ, List.set_cons_zero, List.set_cons_succ, List.map_cons, List.map_nil, Option.map_some, Option.map_none, List.cons_append, List.nil_append, List.length_cons, List.length_nil, Nat.reduceAdd, Nat.reduceSub, List.replicate_succ, List.replicate_zero, dLt, dLe, dGt, dGe, lim, Nat.reduceLeDiff, Int.reduceNeg, Bool.and_self, Bool.true_and, Bool.false_and, Bool.and_true, Bool.and_false, Bool.not_true, Bool.not_false, *])

def ruleD (ws : List Int) (p : Int) : D := .tup [.tup (ws.map D.int), .int p]
structure RuleOk (ws : List Int) (p : Int) : Prop where
  one : 1 ≤ ws.length
  six : ws.length ≤ 6
  up : ws.Pairwise (· ≤ ·)
  pos : ∀ x ∈ ws, 1 ≤ x ∧ x ≤ 100
  last : ∀ x ∈ ws, x ≤ p
  top : p ≤ 200
theorem pick_ok {ns : List Int} {r : Int} (h0 : 0 ≤ r) (h1 : r < ns.length) : ∃ v ∈ ns, atI (ns.map D.int) r = some (.int v) := by
  obtain ⟨j, rfl⟩ : ∃ j : Nat, r = j := ⟨r.toNat, by omega⟩
  have hj : j < ns.length := by omega
  exact ⟨ns[j], List.getElem_mem hj, atI_nat (by simp [hj])⟩
theorem lastI {ws : List Int} (h : 1 ≤ ws.length) : ∃ z, z ∈ ws ∧ atI (ws.map D.int) (-1) = some (.int z) ∧ ws.getLast? = some z ∧ (ws.Pairwise (· ≤ ·) → ∀ x ∈ ws, x ≤ z) := by
  have hne : ws ≠ [] := fun e => by rw [e] at h; simp at h
  refine ⟨ws.getLast hne, List.getLast_mem hne, ?_, List.getLast?_eq_getLast hne, fun hp x hx => ?_⟩
  · have e : ws.map D.int = (ws.dropLast.map D.int) ++ [.int (ws.getLast hne)] := by
      rw [← List.map_singleton, ← List.map_append, List.dropLast_concat_getLast]
    rw [e]
    exact atI_last
  · rw [← List.dropLast_concat_getLast hne] at hp hx
    rcases List.mem_append.mp hx with q | q
    · exact (List.pairwise_append.mp hp).2.2 x q _ (by simp)
    · rw [List.mem_singleton.mp q]; exact Int.le_refl _
end GW

set_option Elab.async false
set_option linter.all false
set_option maxRecDepth 100000
namespace GW
open PySem L2
local macro_rules | `(tactic| walk_at "gw") => `(tactic| simp (disch := first | omega | (simp only [List.length_cons, List.length_nil, lim]; omega)) only [dMul_b, ev_C, ev_V, ev_V1, ev_V2, lk_dat, lk_tmp, lk_bor, lkB1, lkB2, so_dat, so_tmp, so_bor, toD1, toD2, toD3, op1, op2, ev_Bin, bin1_ok, bin2_ok, bin3_ok, ev_Un, un1_ok, un2_ok, aO_nil, aO_cons, aO1_ok, aO2_ok, lA_nil, lA_cons, lA_ok, ev_B, eB1_ok, eB2_ok, sto_dat, sto_tmp, sto_bor, stoB_ok, aS_nil, aS_cons, aS1_ok, aS2_ok, aS3_ok, ev_Tup, ev_Lst, tup1_ok, lst1_ok, ev_Call, call1_ok, back_dat, back_tmp, back_exc, ev_CallB, callB0_ok, callB1_ok, callB2_ok, callB3_dat, callB3_tmp, ev_Sl, sl1_ok, sl2_ok, sl3_ok, sl4_ok, gSl_t, gSl_l, ev_pNo, ev_pInt, pI1_ok, ev_If, if1_t, if1_f, ev_toB, toB1_ok, ev_And, ev_Or, ev_Not, and1_t, and1_f, or1_t, or1_f, not1_ok, ev_tAnd, ev_tOr, ev_tNot, tand1_t, tand1_f, tor1_t, tor1_f, tnot1_ok, ev_tYes, ev_Chain, ch1_ok, ch2_ok, ch3_t, ch3_f, ch4_ok, ev_Chain3, d31_ok, d32_ok, d33_t, d33_f, d34_ok, d35_t, d35_f, d36_ok, ev_iZipM, izm1_ok, ev_sSkip, ev_sBreak, ev_sRetN, ev_sSeq, then_nx, then_rt, then_bk, then_exc, keep_dat, keep_tmp, keep_bor, keepB_ok, slot_dat, slot_tmp, ev_sSet, set1_ok, set1_exc, set2_ok, ev_sSet2, s21_ok, s22_ok, s23_ok, s24_ok, ev_sSet3, s31_ok, s32_ok, s33_ok, ev_sAsg, asg1_ok, asg2_ok, asg3_ok, b_Name, b_Tup, b_Cons, bc1_ok, b_Nil, ev_sIf, sif1_t, sif1_f, ev_sRet, ret1_dat, ret1_tmp, ret1_exc, ret1_bor, retB_ok, ev_sDrop, drop1_ok, drop1_exc, ev_sApp, app0_ok, app1_ok, app2_ok, app3_ok, ev_sSetIx, six1_ok, six2_ok, six3_ok, six4_ok, six5_ok, six6_ok, ev_sFor, for1_ok, ev_sForO, forO1_ok, ev_oCall, oc1_ok, oc2_ok, ev_iSeq, iseq1_ok, iseq2_l, iseq2_t, ev_iRange1, ev_iRange2, ir1_ok, ir2_ok, ien1_t, ev_eListG, elg1_ok, elg2_ok, ev_eListR, elr1_ok, dIn_l, dNotIn_l, ev_eDict1, ed1_ok, ed2_ok, ev_eGet2, gt1_ok, gt2_ok, gt3_ok, gt4_ok, ev_sPutD, pu1_ok, pu2_ok, pu3_ok, pu4_ok, pu5_ok, ev_eMaxV, mv1_1, mv1_2, ev_iEnum, ien1_l, ev_iZip, iz1_t, iz1_l, ev_Comp, comp1_ok, comp2_ok, wipe_nil, wipe_cons, ev_fn, fin1_rt, fin1_nx, fin1_exc, fin_dat, fin_tmp, finB_dat, finB_tmp, finB_ok, dAdd_i, dAdd_t, dAdd_l, dSub_i, dMul_1, dMul_2, dMul_t, dMul_t1, dPow_18, dPow_12, dPow_6, dPow_11, dDiv_i, dMod_i, dB_i, dNeg_i, gInt_i, gInt_b, gLen_l, gLen_t, gMin2_i, gMax2_i, gList_l, gList_t, gTuple_l, gTuple_t, gSum_i, gSum_t, gAll_b, gMinL_i, gMaxL_i, dIsN_n, dNotN_n, dIsB_b, dNotB_b, dIx_l, dIx_t, gIsi_ii, gIsi_ib, gIsi_tt, gIsi_ll, dEq_ok, dNe_ok, atI_0, atI_1, atI_2, atI_3, atI_4, atI_5, ixN_0, ixN_1, atI_last, atI_last1, List.getElem?_cons_zero, List.getElem?_cons_succ, List.set_cons_zero, List.set_cons_succ, List.map_cons, List.map_nil, Option.map_some, Option.map_none, List.cons_append, List.nil_append, List.length_cons, List.length_nil, Nat.reduceAdd, Nat.reduceSub, List.replicate_succ, List.replicate_zero, dLt, dLe, dGt, dGe, lim, Nat.reduceLeDiff, Int.reduceNeg, Bool.and_self, Bool.true_and, Bool.false_and, Bool.and_true, Bool.and_false, Bool.not_true, Bool.not_false])
local macro_rules | `(tactic| walk_at "gwh") => `(tactic| simp (disch := first | omega | (simp only [List.length_cons, List.length_nil, lim]; omega)) only [dMul_b, ev_C, ev_V, ev_V1, ev_V2, lk_dat, lk_tmp, lk_bor, lkB1, lkB2, so_dat, so_tmp, so_bor, toD1, toD2, toD3, op1, op2, ev_Bin, bin1_ok, bin2_ok, bin3_ok, ev_Un, un1_ok, un2_ok, aO_nil, aO_cons, aO1_ok, aO2_ok, lA_nil, lA_cons, lA_ok, ev_B, eB1_ok, eB2_ok, sto_dat, sto_tmp, sto_bor, stoB_ok, aS_nil, aS_cons, aS1_ok, aS2_ok, aS3_ok, ev_Tup, ev_Lst, tup1_ok, lst1_ok, ev_Call, call1_ok, back_dat, back_tmp, back_exc, ev_CallB, callB0_ok, callB1_ok, callB2_ok, callB3_dat, callB3_tmp, ev_Sl, sl1_ok, sl2_ok, sl3_ok, sl4_ok, gSl_t, gSl_l, ev_pNo, ev_pInt, pI1_ok, ev_If, if1_t, if1_f, ev_toB, toB1_ok, ev_And, ev_Or, ev_Not, and1_t, and1_f, or1_t, or1_f, not1_ok, ev_tAnd, ev_tOr, ev_tNot, tand1_t, tand1_f, tor1_t, tor1_f, tnot1_ok, ev_tYes, ev_Chain, ch1_ok, ch2_ok, ch3_t, ch3_f, ch4_ok, ev_Chain3, d31_ok, d32_ok, d33_t, d33_f, d34_ok, d35_t, d35_f, d36_ok, ev_iZipM, izm1_ok, ev_sSkip, ev_sBreak, ev_sRetN, ev_sSeq, then_nx, then_rt, then_bk, then_exc, keep_dat, keep_tmp, keep_bor, keepB_ok, slot_dat, slot_tmp, ev_sSet, set1_ok, set1_exc, set2_ok, ev_sSet2, s21_ok, s22_ok, s23_ok, s24_ok, ev_sSet3, s31_ok, s32_ok, s33_ok, ev_sAsg, asg1_ok, asg2_ok, asg3_ok, b_Name, b_Tup, b_Cons, bc1_ok, b_Nil, ev_sIf, sif1_t, sif1_f, ev_sRet, ret1_dat, ret1_tmp, ret1_exc, ret1_bor, retB_ok, ev_sDrop, drop1_ok, drop1_exc, ev_sApp, app0_ok, app1_ok, app2_ok, app3_ok, ev_sSetIx, six1_ok, six2_ok, six3_ok, six4_ok, six5_ok, six6_ok, ev_sFor, for1_ok, ev_sForO, forO1_ok, ev_oCall, oc1_ok, oc2_ok, ev_iSeq, iseq1_ok, iseq2_l, iseq2_t, ev_iRange1, ev_iRange2, ir1_ok, ir2_ok, ien1_t, ev_eListG, elg1_ok, elg2_ok, ev_eListR, elr1_ok, dIn_l, dNotIn_l, ev_eDict1, ed1_ok, ed2_ok, ev_eGet2, gt1_ok, gt2_ok, gt3_ok, gt4_ok, ev_sPutD, pu1_ok, pu2_ok, pu3_ok, pu4_ok, pu5_ok, ev_eMaxV, mv1_1, mv1_2, ev_iEnum, ien1_l, ev_iZip, iz1_t, iz1_l, ev_Comp, comp1_ok, comp2_ok, wipe_nil, wipe_cons, ev_fn, fin1_rt, fin1_nx, fin1_exc, fin_dat, fin_tmp, finB_dat, finB_tmp, finB_ok, dAdd_i, dAdd_t, dAdd_l, dSub_i, dMul_1, dMul_2, dMul_t, dMul_t1, dPow_18, dPow_12, dPow_6, dPow_11, dDiv_i, dMod_i, dB_i, dNeg_i, gInt_i, gInt_b, gLen_l, gLen_t, gMin2_i, gMax2_i, gList_l, gList_t, gTuple_l, gTuple_t, gSum_i, gSum_t, gAll_b, gMinL_i, gMaxL_i, dIsN_n, dNotN_n, dIsB_b, dNotB_b, dIx_l, dIx_t, gIsi_ii, gIsi_ib, gIsi_tt, gIsi_ll, dEq_ok, dNe_ok, atI_0, atI_1, atI_2, atI_3, atI_4, atI_5, ixN_0, ixN_1, atI_last, atI_last1, List.getElem?_cons_zero, List.getElem?_cons_succ, List.set_cons_zero, List.set_cons_succ, List.map_cons, List.map_nil, Option.map_some, Option.map_none, List.cons_append, List.nil_append, List.length_cons, List.length_nil, Nat.reduceAdd, Nat.reduceSub, List.replicate_succ, List.replicate_zero, dLt, dLe, dGt, dGe, lim, Nat.reduceLeDiff, Int.reduceNeg, Bool.and_self, Bool.true_and, Bool.false_and, Bool.and_true, Bool.and_false, Bool.not_true, Bool.not_false, *])

def RuleInv (wide : Int) (i : Nat) (ev : List Sl) : Prop := ∃ (o : O) (ws : List Int) (wait : Int) (old : Sl), BagOk o ∧ ws.length = i ∧ ws.Pairwise (· ≤ ·) ∧ (∀ x ∈ ws, 1 ≤ x ∧ x ≤ 100 ∧ x ≤ wait) ∧ 1 ≤ wait ∧
  ev = [.own o, .dat (.int wait), .dat (.tup (ws.map D.int)), .dat (.int wide), old, .un]
theorem rule_turn {wide : Int} (hw : 0 < wide) {i : Nat} (hi : i < 100) {d : D} {ev : List Sl} (h : RuleInv wide i ev) : ∃ e2, l_law_rule_1 (ev.set 4 (.dat d)) = .nx e2 ∧ RuleInv wide (i + 1) e2 := by
  obtain ⟨o, ws, wait, old, hb, hl, hp, hx, h1, rfl⟩ := h
  obtain ⟨r, o', r0, r1, hb', et⟩ := take_ok hb hw
  unfold l_law_rule_1
  have hlen : (ws.map D.int).length + [D.int (if wait < 100 then wait else 100)].length ≤ 1000000 := by simp; omega
  walk_at "gw"
  rw [et]
  walk_at "gw"
  refine ⟨_, rfl, o', ws ++ [if wait < 100 then wait else 100], wait + r, .dat d, hb', by simp [hl], ?_, ?_, by omega, by simp⟩
  · refine List.pairwise_append.mpr ⟨hp, by simp, fun x hx' y hy => ?_⟩
    rw [List.mem_singleton.mp hy]
    have := hx x hx'
    split <;> omega
  · intro x hx'
    rcases List.mem_append.mp hx' with q | q
    · have := hx x q; omega
    · rw [List.mem_singleton.mp q]
      split <;> omega
theorem rule_ok {o : O} (h : BagOk o) : ∃ (ws : List Int) (p : Int) (o' : O), RuleOk ws p ∧ BagOk o' ∧ s_law_rule [.own o] = .ok (.dat (ruleD ws p)) (some o') := by
  obtain ⟨r1, o1, a1, b1, c1, e1⟩ := take_ok h (m := 2) (by decide)
  obtain ⟨w1, hw1, p1⟩ := pick_ok (ns := [3, 12]) a1 b1
  have hw1' : 0 < w1 := by simp at hw1; omega
  obtain ⟨r2, o2, a2, b2, c2, e2⟩ := take_ok c1 hw1'
  obtain ⟨r3, o3, a3, b3, c3, e3⟩ := take_ok c2 (m := 5) (by decide)
  obtain ⟨w2, hw2, p2⟩ := pick_ok (ns := [1, 2, 2, 6, 20]) a3 b3
  have hw2' : 0 < w2 := by simp at hw2; omega
  obtain ⟨r4, o4, a4, b4, c4, e4⟩ := take_ok c3 (m := 6) (by decide)
  obtain ⟨n, hn⟩ : ∃ n : Nat, (1 + r4).toNat = n := ⟨_, rfl⟩
  obtain ⟨e5, f5, o5, ws, wait, old, c5, hl, hp, hx, h1, rfl⟩ := forS_range (b := bName 4) (body := l_law_rule_1) (lo := 0) (n := n) (ev := [.own o4, .dat (.int (1 + r2)), .dat (.tup []), .dat (.int w2), .un, .un]) (RuleInv w2)
    ⟨o4, [], 1 + r2, .un, c4, rfl, .nil, by simp, by omega, rfl⟩ (fun i ev hi h => by
      obtain ⟨e2, q1, q2⟩ := rule_turn hw2' (by omega) h
      exact ⟨_, e2, rfl, .inl q1, q2⟩)
  obtain ⟨r6, o6, a6, b6, c6, e6⟩ := take_ok c5 (m := 5) (by decide)
  obtain ⟨r7, o7, a7, b7, c7, e7⟩ := take_ok c6 (m := 30) (by decide)
  obtain ⟨r8, o8, a8, b8, c8, e8⟩ := take_ok c7 (m := 5) (by decide)
  obtain ⟨more, hmore, p3⟩ := pick_ok (ns := [0, 1, r6, r7, 100]) a8 b8
  have hmore' : 0 ≤ more := by simp at hmore; omega
  obtain ⟨z, hz, p4, _, hle⟩ := lastI (ws := ws) (by omega)
  refine ⟨ws, (if z + more < 200 then z + more else 200), o8, ⟨by omega, by omega, hp, fun x h => ⟨(hx x h).1, (hx x h).2.1⟩, fun x h => ?_, ?_⟩, c8, ?_⟩
  · have h1 := hle hp x h
    have h2 := hx x h
    split <;> omega
  · split <;> omega
  · unfold s_law_rule b_law_rule
    have p1' : atI [D.int 3, .int 12] r1 = some (.int w1) := p1
    have p2' : atI [D.int 1, .int 2, .int 2, .int 6, .int 20] r3 = some (.int w2) := p2
    have p3' : atI [D.int 0, .int 1, .int r6, .int r7, .int 100] r8 = some (.int more) := p3
    walk_at "gw"
    simp only [e1]; walk_at "gw"
    simp only [p1']; walk_at "gw"
    simp only [e2]; walk_at "gw"
    simp only [e3]; walk_at "gw"
    simp only [p2']; walk_at "gw"
    simp only [e4]; walk_at "gw"
    simp only [hn, f5]; walk_at "gw"
    simp only [e6]; walk_at "gw"
    simp only [e7]; walk_at "gw"
    simp only [e8]; walk_at "gw"
    simp only [p3']; walk_at "gw"
    simp only [p4]; walk_at "gw"
    rfl
end GW

set_option Elab.async false
set_option linter.all false
set_option maxRecDepth 100000
namespace GW
open PySem L2
local macro_rules | `(tactic| walk_at "gw") => `(tactic| simp (disch := first | omega | (simp only [List.length_cons, List.length_nil, lim]; omega)) only [dMul_b, ev_C, ev_V, ev_V1, ev_V2, lk_dat, lk_tmp, lk_bor, lkB1, lkB2, so_dat, so_tmp, so_bor, toD1, toD2, toD3, op1, op2, ev_Bin, bin1_ok, bin2_ok, bin3_ok, ev_Un, un1_ok, un2_ok, aO_nil, aO_cons, aO1_ok, aO2_ok, lA_nil, lA_cons, lA_ok, ev_B, eB1_ok, eB2_ok, sto_dat, sto_tmp, sto_bor, stoB_ok, aS_nil, aS_cons, aS1_ok, aS2_ok, aS3_ok, ev_Tup, ev_Lst, tup1_ok, lst1_ok, ev_Call, call1_ok, back_dat, back_tmp, back_exc, ev_CallB, callB0_ok, callB1_ok, callB2_ok, callB3_dat, callB3_tmp, ev_Sl, sl1_ok, sl2_ok, sl3_ok, sl4_ok, gSl_t, gSl_l, ev_pNo, ev_pInt, pI1_ok, ev_If, if1_t, if1_f, ev_toB, toB1_ok, ev_And, ev_Or, ev_Not, and1_t, and1_f, or1_t, or1_f, not1_ok, ev_tAnd, ev_tOr, ev_tNot, tand1_t, tand1_f, tor1_t, tor1_f, tnot1_ok, ev_tYes, ev_Chain, ch1_ok, ch2_ok, ch3_t, ch3_f, ch4_ok, ev_Chain3, d31_ok, d32_ok, d33_t, d33_f, d34_ok, d35_t, d35_f, d36_ok, ev_iZipM, izm1_ok, ev_sSkip, ev_sBreak, ev_sRetN, ev_sSeq, then_nx, then_rt, then_bk, then_exc, keep_dat, keep_tmp, keep_bor, keepB_ok, slot_dat, slot_tmp, ev_sSet, set1_ok, set1_exc, set2_ok, ev_sSet2, s21_ok, s22_ok, s23_ok, s24_ok, ev_sSet3, s31_ok, s32_ok, s33_ok, ev_sAsg, asg1_ok, asg2_ok, asg3_ok, b_Name, b_Tup, b_Cons, bc1_ok, b_Nil, ev_sIf, sif1_t, sif1_f, ev_sRet, ret1_dat, ret1_tmp, ret1_exc, ret1_bor, retB_ok, ev_sDrop, drop1_ok, drop1_exc, ev_sApp, app0_ok, app1_ok, app2_ok, app3_ok, ev_sSetIx, six1_ok, six2_ok, six3_ok, six4_ok, six5_ok, six6_ok, ev_sFor, for1_ok, ev_sForO, forO1_ok, ev_oCall, oc1_ok, oc2_ok, ev_iSeq, iseq1_ok, iseq2_l, iseq2_t, ev_iRange1, ev_iRange2, ir1_ok, ir2_ok, ien1_t, ev_eListG, elg1_ok, elg2_ok, ev_eListR, elr1_ok, dIn_l, dNotIn_l, ev_eDict1, ed1_ok, ed2_ok, ev_eGet2, gt1_ok, gt2_ok, gt3_ok, gt4_ok, ev_sPutD, pu1_ok, pu2_ok, pu3_ok, pu4_ok, pu5_ok, ev_eMaxV, mv1_1, mv1_2, ev_iEnum, ien1_l, ev_iZip, iz1_t, iz1_l, ev_Comp, comp1_ok, comp2_ok, wipe_nil, wipe_cons, ev_fn, fin1_rt, fin1_nx, fin1_exc, fin_dat, fin_tmp, finB_dat, finB_tmp, finB_ok, dAdd_i, dAdd_t, dAdd_l, dSub_i, dMul_1, dMul_2, dMul_t, dMul_t1, dPow_18, dPow_12, dPow_6, dPow_11, dDiv_i, dMod_i, dB_i, dNeg_i, gInt_i, gInt_b, gLen_l, gLen_t, gMin2_i, gMax2_i, gList_l, gList_t, gTuple_l, gTuple_t, gSum_i, gSum_t, gAll_b, gMinL_i, gMaxL_i, dIsN_n, dNotN_n, dIsB_b, dNotB_b, dIx_l, dIx_t, gIsi_ii, gIsi_ib, gIsi_tt, gIsi_ll, dEq_ok, dNe_ok, atI_0, atI_1, atI_2, atI_3, atI_4, atI_5, ixN_0, ixN_1, atI_last, atI_last1, List.getElem?_cons_zero, List.getElem?_cons_succ, List.set_cons_zero, List.set_cons_succ, List.map_cons, List.map_nil, Option.map_some, Option.map_none, List.cons_append, List.nil_append, List.length_cons, List.length_nil, Nat.reduceAdd, Nat.reduceSub, List.replicate_succ, List.replicate_zero, dLt, dLe, dGt, dGe, lim, Nat.reduceLeDiff, Int.reduceNeg, Bool.and_self, Bool.true_and, Bool.false_and, Bool.and_true, Bool.and_false, Bool.not_true, Bool.not_false])
local macro_rules | `(tactic| walk_at "gwh") => `(tactic| simp (disch := first | omega | (simp only [List.length_cons, List.length_nil, lim]; omega)) only [dMul_b, ev_C, ev_V, ev_V1, ev_V2, lk_dat, lk_tmp, lk_bor, lkB1, lkB2, so_dat, so_tmp, so_bor, toD1, toD2, toD3, op1, op2, ev_Bin, bin1_ok, bin2_ok, bin3_ok, ev_Un, un1_ok, un2_ok, aO_nil, aO_cons, aO1_ok, aO2_ok, lA_nil, lA_cons, lA_ok, ev_B, eB1_ok, eB2_ok, sto_dat, sto_tmp, sto_bor, stoB_ok, aS_nil, aS_cons, aS1_ok, aS2_ok, aS3_ok, ev_Tup, ev_Lst, tup1_ok, lst1_ok, ev_Call, call1_ok, back_dat, back_tmp, back_exc, ev_CallB, callB0_ok, callB1_ok, callB2_ok, callB3_dat, callB3_tmp, ev_Sl, sl1_ok, sl2_ok, sl3_ok, sl4_ok, gSl_t, gSl_l, ev_pNo, ev_pInt, pI1_ok, ev_If, if1_t, if1_f, ev_toB, toB1_ok, ev_And, ev_Or, ev_Not, and1_t, and1_f, or1_t, or1_f, not1_ok, ev_tAnd, ev_tOr, ev_tNot, tand1_t, tand1_f, tor1_t, tor1_f, tnot1_ok, ev_tYes, ev_Chain, ch1_ok, ch2_ok, ch3_t, ch3_f, ch4_ok, ev_Chain3, d31_ok, d32_ok, d33_t, d33_f, d34_ok, d35_t, d35_f, d36_ok, ev_iZipM, izm1_ok, ev_sSkip, ev_sBreak, ev_sRetN, ev_sSeq, then_nx, then_rt, then_bk, then_exc, keep_dat, keep_tmp, keep_bor, keepB_ok, slot_dat, slot_tmp, ev_sSet, set1_ok, set1_exc, set2_ok, ev_sSet2, s21_ok, s22_ok, s23_ok, s24_ok, ev_sSet3, s31_ok, s32_ok, s33_ok, ev_sAsg, asg1_ok, asg2_ok, asg3_ok, b_Name, b_Tup, b_Cons, bc1_ok, b_Nil, ev_sIf, sif1_t, sif1_f, ev_sRet, ret1_dat, ret1_tmp, ret1_exc, ret1_bor, retB_ok, ev_sDrop, drop1_ok, drop1_exc, ev_sApp, app0_ok, app1_ok, app2_ok, app3_ok, ev_sSetIx, six1_ok, six2_ok, six3_ok, six4_ok, six5_ok, six6_ok, ev_sFor, for1_ok, ev_sForO, forO1_ok, ev_oCall, oc1_ok, oc2_ok, ev_iSeq, iseq1_ok, iseq2_l, iseq2_t, ev_iRange1, ev_iRange2, ir1_ok, ir2_ok, ien1_t, ev_eListG, elg1_ok, elg2_ok, ev_eListR, elr1_ok, dIn_l, dNotIn_l, ev_eDict1, ed1_ok, ed2_ok, ev_eGet2, gt1_ok, gt2_ok, gt3_ok, gt4_ok, ev_sPutD, pu1_ok, pu2_ok, pu3_ok, pu4_ok, pu5_ok, ev_eMaxV, mv1_1, mv1_2, ev_iEnum, ien1_l, ev_iZip, iz1_t, iz1_l, ev_Comp, comp1_ok, comp2_ok, wipe_nil, wipe_cons, ev_fn, fin1_rt, fin1_nx, fin1_exc, fin_dat, fin_tmp, finB_dat, finB_tmp, finB_ok, dAdd_i, dAdd_t, dAdd_l, dSub_i, dMul_1, dMul_2, dMul_t, dMul_t1, dPow_18, dPow_12, dPow_6, dPow_11, dDiv_i, dMod_i, dB_i, dNeg_i, gInt_i, gInt_b, gLen_l, gLen_t, gMin2_i, gMax2_i, gList_l, gList_t, gTuple_l, gTuple_t, gSum_i, gSum_t, gAll_b, gMinL_i, gMaxL_i, dIsN_n, dNotN_n, dIsB_b, dNotB_b, dIx_l, dIx_t, gIsi_ii, gIsi_ib, gIsi_tt, gIsi_ll, dEq_ok, dNe_ok, atI_0, atI_1, atI_2, atI_3, atI_4, atI_5, ixN_0, ixN_1, atI_last, atI_last1, List.getElem?_cons_zero, List.getElem?_cons_succ, List.set_cons_zero, List.set_cons_succ, List.map_cons, List.map_nil, Option.map_some, Option.map_none, List.cons_append, List.nil_append, List.length_cons, List.length_nil, Nat.reduceAdd, Nat.reduceSub, List.replicate_succ, List.replicate_zero, dLt, dLe, dGt, dGe, lim, Nat.reduceLeDiff, Int.reduceNeg, Bool.and_self, Bool.true_and, Bool.false_and, Bool.and_true, Bool.and_false, Bool.not_true, Bool.not_false, *])

/-! ### comprehensions over a mapped list -/
theorem compS_map {α : Type} {b : Bx} {tt : Tx} {el : Ex} {vs : List Nat} (it f : α → D) {ev : List Sl} : ∀ {xs : List α} {acc : List D}, acc.length + xs.length ≤ lim →
    (∀ x ∈ xs, ∃ e1 e2 e3 e4 r, b (it x) ev = some e1 ∧ tt e1 = .ok true e2 ∧ el e2 = .ok r e3 ∧ stoR r e3 = .ok (f x) e4 ∧ wipeE e4 vs = ev) → compS b tt el vs (xs.map it) acc ev = .ok (acc ++ xs.map f) ev
  | [], acc, _, _ => by simp [compS]
  | x :: xs, acc, hl, hs => by
    obtain ⟨e1, e2, e3, e4, r, h1, h2, h3, h4, h5⟩ := hs x List.mem_cons_self
    rw [List.length_cons] at hl
    simp only [List.map_cons, compS, h1, h2, h3, h4, h5]
    rw [if_pos (by omega)]
    rw [compS_map it f (xs := xs) (acc := acc ++ [f x]) (by simp; omega) fun y hy => hs y (List.mem_cons_of_mem _ hy)]
    simp
theorem compS_filter {α : Type} {b : Bx} {tt : Tx} {el : Ex} {vs : List Nat} (it f : α → D) (keep : α → Bool) {ev : List Sl} : ∀ {xs : List α} {acc : List D}, acc.length + xs.length ≤ lim →
    (∀ x ∈ xs, ∃ e1 e2, b (it x) ev = some e1 ∧ tt e1 = .ok (keep x) e2 ∧ (keep x = true → ∃ e3 e4 r, el e2 = .ok r e3 ∧ stoR r e3 = .ok (f x) e4 ∧ wipeE e4 vs = ev) ∧ (keep x = false → wipeE e2 vs = ev)) →
    compS b tt el vs (xs.map it) acc ev = .ok (acc ++ (xs.filter keep).map f) ev
  | [], acc, _, _ => by simp [compS]
  | x :: xs, acc, hl, hs => by
    obtain ⟨e1, e2, h1, h2, h3, h4⟩ := hs x List.mem_cons_self
    rw [List.length_cons] at hl
    by_cases c : keep x = true
    · obtain ⟨e3, e4, r, h5, h6, h7⟩ := h3 c
      rw [c] at h2
      simp only [List.map_cons, compS, h1, h2, h5, h6, h7]
      rw [if_pos (by omega)]
      rw [compS_filter it f keep (xs := xs) (acc := acc ++ [f x]) (by simp; omega) fun y hy => hs y (List.mem_cons_of_mem _ hy)]
      rw [List.filter_cons_of_pos c]
      simp
    · have c' : keep x = false := by simpa using c
      rw [c'] at h2
      simp only [List.map_cons, compS, h1, h2, h4 c']
      rw [compS_filter it f keep (xs := xs) (acc := acc) (by omega) fun y hy => hs y (List.mem_cons_of_mem _ hy)]
      rw [List.filter_cons_of_neg c]
theorem rangeD_map (lo : Int) (n : Nat) : rangeD lo n = (List.range n).map fun (i : Nat) => D.int (lo + i) := rfl
/-! ### loops that may return -/
theorem forS_gen {b : Bx} {body : Sx} (P : Nat → List Sl → Prop) (Q : SOut → Prop) : ∀ {items : List D} {k : Nat} {ev : List Sl}, P k ev →
    (∀ i x ev, items[i]? = some x → P (k + i) ev → ∃ e1, b x ev = some e1 ∧ ((∃ e2, (body e1 = .nx e2 ∨ body e1 = .ct e2) ∧ P (k + i + 1) e2) ∨ (∃ r e2, body e1 = .rt r e2 ∧ Q (.rt r e2)) ∨ (∃ e2, body e1 = .bk e2 ∧ Q (.nx e2)))) →
    (∀ e2, P (k + items.length) e2 → Q (.nx e2)) → Q (forS b body items ev)
  | [], k, ev, h0, _, hq => hq _ h0
  | x :: xs, k, ev, h0, hs, hq => by
    obtain ⟨e1, h1, h2⟩ := hs 0 x ev rfl h0
    unfold forS
    rw [h1]
    rcases h2 with ⟨e2, h2, h3⟩ | ⟨r, e2, h2, h3⟩ | ⟨e2, h2, h3⟩
    · have h4 := forS_gen P Q (items := xs) (k := k + 1) (ev := e2) h3 (fun i y ev' hy hp => by
        have := hs (i + 1) y ev' (by simpa using hy) (by rw [show k + (i + 1) = k + 1 + i by omega]; exact hp)
        rw [show k + (i + 1) + 1 = k + 1 + i + 1 by omega] at this
        exact this) (fun e2 h => hq e2 (by rw [List.length_cons, show k + (xs.length + 1) = k + 1 + xs.length by omega]; exact h))
      rcases h2 with h2 | h2 <;> (simp only [h2]; exact h4)
    · simp only [h2]; exact h3
    · simp only [h2]; exact h3
theorem forS_genR {b : Bx} {body : Sx} {lo : Int} {n : Nat} {ev : List Sl} (P : Nat → List Sl → Prop) (Q : SOut → Prop) (h0 : P 0 ev)
    (hs : ∀ i ev, i < n → P i ev → ∃ e1, b (.int (lo + (i : Nat))) ev = some e1 ∧ ((∃ e2, (body e1 = .nx e2 ∨ body e1 = .ct e2) ∧ P (i + 1) e2) ∨ (∃ r e2, body e1 = .rt r e2 ∧ Q (.rt r e2)) ∨ (∃ e2, body e1 = .bk e2 ∧ Q (.nx e2))))
    (hq : ∀ e2, P n e2 → Q (.nx e2)) : Q (forS b body (rangeD lo n) ev) := by
  refine forS_gen P Q (k := 0) h0 (fun i x ev hx hp => ?_) (fun e2 h => hq e2 (by rw [Nat.zero_add, rangeD_len] at h; exact h))
  have hi : i < n := by
    have := (List.getElem?_eq_some_iff.mp hx).1
    rwa [rangeD_len] at this
  rw [rangeD_get hi] at hx
  cases hx
  rw [Nat.zero_add] at hp ⊢
  exact hs i ev hi hp
/-! ### slices -/
theorem cutD_from {xs : List D} (k : Nat) : cutD xs (some (k : Int)) none = xs.drop k := by
  unfold cutD
  rw [HT.sIx_nat, HT.sIx_none]
  by_cases h : k ≤ xs.length
  · rw [Nat.min_eq_left h, List.take_of_length_le (by simp)]
  · rw [Nat.min_eq_right (by omega), List.drop_of_length_le (Nat.le_refl _), List.drop_of_length_le (by omega)]; simp
theorem cutD_to {xs : List D} (k : Nat) : cutD xs none (some (k : Int)) = xs.take k := by
  unfold cutD
  rw [HT.sIx_nat, HT.sIx_none, List.drop_zero, Nat.sub_zero]
  by_cases h : k ≤ xs.length
  · rw [Nat.min_eq_left h]
  · rw [Nat.min_eq_right (by omega), List.take_of_length_le (Nat.le_refl _), List.take_of_length_le (by omega)]
theorem cutD_init {xs : List D} : cutD xs none (some (-1)) = xs.dropLast := by
  unfold cutD
  rw [HT.sIx_none, List.drop_zero, Nat.sub_zero, List.dropLast_eq_take]
  congr 1
  show (if (-1 : Int) < 0 then ((-1 : Int) + (xs.length : Int)).toNat else min (-1 : Int).toNat xs.length) = _
  rw [if_pos (by decide)]
  omega
/-! ### checks that hold -/
theorem is_integer_ok (i lo hi : Int) : s_is_integer [.dat (.int i), .dat (.int lo), .dat (.int hi)] = .ok (.dat (.bl (decide (lo ≤ i) && decide (i ≤ hi)))) none := by
  unfold s_is_integer b_is_integer
  by_cases h : lo ≤ i
  · simp only [decide_eq_true h, Bool.true_and]
    walk_at "gw"
    simp only [decide_eq_true h]
    walk_at "gw"
  · simp only [decide_eq_false h, Bool.false_and]
    walk_at "gw"
    simp only [decide_eq_false h]
    walk_at "gw"
def nf : List Int → Bool
  | x :: y :: r => decide (x ≤ y) && nf (y :: r)
  | _ => true
theorem nf_pw : ∀ {ws : List Int}, ws.Pairwise (· ≤ ·) → nf ws = true
  | [], _ => rfl
  | [_], _ => rfl
  | x :: y :: r, h => by
    have h' := List.pairwise_cons.mp h
    unfold nf
    rw [nf_pw h'.2, decide_eq_true (h'.1 y List.mem_cons_self)]
    rfl
def prs : List Int → List (Int × Int)
  | x :: y :: r => (x, y) :: prs (y :: r)
  | _ => []
theorem prs_len : ∀ ws : List Int, (prs ws).length = ws.length - 1
  | [] => rfl
  | [_] => rfl
  | x :: y :: r => by unfold prs; rw [List.length_cons, prs_len (y :: r)]; simp
theorem zip_prs : ∀ ws : List Int, zipD (ws.map D.int) ((ws.map D.int).drop 1) = (prs ws).map fun p => D.tup [.int p.1, .int p.2]
  | [] => rfl
  | [_] => rfl
  | x :: y :: r => by
    have := zip_prs (y :: r)
    simp only [List.map_cons, List.drop_succ_cons, List.drop_zero] at this ⊢
    simp only [zipD, prs, List.map_cons]
    rw [this]
theorem nf_prs : ∀ ws : List Int, ((prs ws).map fun p => decide (p.1 ≤ p.2)).all id = nf ws
  | [] => rfl
  | [_] => rfl
  | x :: y :: r => by
    simp only [prs, List.map_cons, List.all_cons, nf, id]
    rw [← nf_prs (y :: r)]
theorem never_falls_ok (ws : List Int) (hl : ws.length ≤ 1000) : s_never_falls [.dat (.tup (ws.map D.int))] = .ok (.dat (.bl (nf ws))) none := by
  unfold s_never_falls b_never_falls
  have c1 : cutD (ws.map D.int) (some 1) none = (ws.map D.int).drop 1 := cutD_from 1
  walk_at "gw"
  simp only [c1, zip_prs]
  have hc := compS_map (b := bTup (bCons (bName 1) (bCons (bName 2) bNil))) (tt := tYes') (el := e_never_falls_1) (vs := [1, 2]) (ev := [.dat (.tup (ws.map D.int)), .un, .un]) (fun p : Int × Int => D.tup [.int p.1, .int p.2]) (fun p : Int × Int => D.bl (decide (p.1 ≤ p.2))) (xs := prs ws) (acc := []) (by rw [List.length_nil, prs_len]; show 0 + (ws.length - 1) ≤ 1000000; omega)
    fun p _ => ⟨_, [.dat (.tup (ws.map D.int)), .dat (.int p.1), .dat (.int p.2)], [.dat (.tup (ws.map D.int)), .dat (.int p.1), .dat (.int p.2)], _, .dat (.bl (decide (p.1 ≤ p.2))), rfl, rfl, by unfold e_never_falls_1; walk_at "gw", rfl, rfl⟩
  rw [hc]
  walk_at "gw"
  have e : (prs ws).map (fun p : Int × Int => D.bl (decide (p.1 ≤ p.2))) = ((prs ws).map fun p => decide (p.1 ≤ p.2)).map D.bl := by rw [List.map_map]; rfl
  rw [e, gAll_b, nf_prs]
  walk_at "gw"
end GW

set_option Elab.async false
set_option linter.all false
set_option maxRecDepth 100000
namespace GW
open PySem L2
local macro_rules | `(tactic| walk_at "gw") => `(tactic| simp (disch := first | omega | (simp only [List.length_cons, List.length_nil, lim]; omega)) only [dMul_b, ev_C, ev_V, ev_V1, ev_V2, lk_dat, lk_tmp, lk_bor, lkB1, lkB2, so_dat, so_tmp, so_bor, toD1, toD2, toD3, op1, op2, ev_Bin, bin1_ok, bin2_ok, bin3_ok, ev_Un, un1_ok, un2_ok, aO_nil, aO_cons, aO1_ok, aO2_ok, lA_nil, lA_cons, lA_ok, ev_B, eB1_ok, eB2_ok, sto_dat, sto_tmp, sto_bor, stoB_ok, aS_nil, aS_cons, aS1_ok, aS2_ok, aS3_ok, ev_Tup, ev_Lst, tup1_ok, lst1_ok, ev_Call, call1_ok, back_dat, back_tmp, back_exc, ev_CallB, callB0_ok, callB1_ok, callB2_ok, callB3_dat, callB3_tmp, ev_Sl, sl1_ok, sl2_ok, sl3_ok, sl4_ok, gSl_t, gSl_l, ev_pNo, ev_pInt, pI1_ok, ev_If, if1_t, if1_f, ev_toB, toB1_ok, ev_And, ev_Or, ev_Not, and1_t, and1_f, or1_t, or1_f, not1_ok, ev_tAnd, ev_tOr, ev_tNot, tand1_t, tand1_f, tor1_t, tor1_f, tnot1_ok, ev_tYes, ev_Chain, ch1_ok, ch2_ok, ch3_t, ch3_f, ch4_ok, ev_Chain3, d31_ok, d32_ok, d33_t, d33_f, d34_ok, d35_t, d35_f, d36_ok, ev_iZipM, izm1_ok, ev_sSkip, ev_sBreak, ev_sRetN, ev_sSeq, then_nx, then_rt, then_bk, then_exc, keep_dat, keep_tmp, keep_bor, keepB_ok, slot_dat, slot_tmp, ev_sSet, set1_ok, set1_exc, set2_ok, ev_sSet2, s21_ok, s22_ok, s23_ok, s24_ok, ev_sSet3, s31_ok, s32_ok, s33_ok, ev_sAsg, asg1_ok, asg2_ok, asg3_ok, b_Name, b_Tup, b_Cons, bc1_ok, b_Nil, ev_sIf, sif1_t, sif1_f, ev_sRet, ret1_dat, ret1_tmp, ret1_exc, ret1_bor, retB_ok, ev_sDrop, drop1_ok, drop1_exc, ev_sApp, app0_ok, app1_ok, app2_ok, app3_ok, ev_sSetIx, six1_ok, six2_ok, six3_ok, six4_ok, six5_ok, six6_ok, ev_sFor, for1_ok, ev_sForO, forO1_ok, ev_oCall, oc1_ok, oc2_ok, ev_iSeq, iseq1_ok, iseq2_l, iseq2_t, ev_iRange1, ev_iRange2, ir1_ok, ir2_ok, ien1_t, ev_eListG, elg1_ok, elg2_ok, ev_eListR, elr1_ok, dIn_l, dNotIn_l, ev_eDict1, ed1_ok, ed2_ok, ev_eGet2, gt1_ok, gt2_ok, gt3_ok, gt4_ok, ev_sPutD, pu1_ok, pu2_ok, pu3_ok, pu4_ok, pu5_ok, ev_eMaxV, mv1_1, mv1_2, ev_iEnum, ien1_l, ev_iZip, iz1_t, iz1_l, ev_Comp, comp1_ok, comp2_ok, wipe_nil, wipe_cons, ev_fn, fin1_rt, fin1_nx, fin1_exc, fin_dat, fin_tmp, finB_dat, finB_tmp, finB_ok, dAdd_i, dAdd_t, dAdd_l, dSub_i, dMul_1, dMul_2, dMul_t, dMul_t1, dPow_18, dPow_12, dPow_6, dPow_11, dDiv_i, dMod_i, dB_i, dNeg_i, gInt_i, gInt_b, gLen_l, gLen_t, gMin2_i, gMax2_i, gList_l, gList_t, gTuple_l, gTuple_t, gSum_i, gSum_t, gAll_b, gMinL_i, gMaxL_i, dIsN_n, dNotN_n, dIsB_b, dNotB_b, dIx_l, dIx_t, gIsi_ii, gIsi_ib, gIsi_tt, gIsi_ll, dEq_ok, dNe_ok, atI_0, atI_1, atI_2, atI_3, atI_4, atI_5, ixN_0, ixN_1, atI_last, atI_last1, List.getElem?_cons_zero, List.getElem?_cons_succ, List.set_cons_zero, List.set_cons_succ, List.map_cons, List.map_nil, Option.map_some, Option.map_none, List.cons_append, List.nil_append, List.length_cons, List.length_nil, Nat.reduceAdd, Nat.reduceSub, List.replicate_succ, List.replicate_zero, dLt, dLe, dGt, dGe, lim, Nat.reduceLeDiff, Int.reduceNeg, Bool.and_self, Bool.true_and, Bool.false_and, Bool.and_true, Bool.and_false, Bool.not_true, Bool.not_false])
local macro_rules | `(tactic| walk_at "gwh") => `(tactic| simp (disch := first | omega | (simp only [List.length_cons, List.length_nil, lim]; omega)) only [dMul_b, ev_C, ev_V, ev_V1, ev_V2, lk_dat, lk_tmp, lk_bor, lkB1, lkB2, so_dat, so_tmp, so_bor, toD1, toD2, toD3, op1, op2, ev_Bin, bin1_ok, bin2_ok, bin3_ok, ev_Un, un1_ok, un2_ok, aO_nil, aO_cons, aO1_ok, aO2_ok, lA_nil, lA_cons, lA_ok, ev_B, eB1_ok, eB2_ok, sto_dat, sto_tmp, sto_bor, stoB_ok, aS_nil, aS_cons, aS1_ok, aS2_ok, aS3_ok, ev_Tup, ev_Lst, tup1_ok, lst1_ok, ev_Call, call1_ok, back_dat, back_tmp, back_exc, ev_CallB, callB0_ok, callB1_ok, callB2_ok, callB3_dat, callB3_tmp, ev_Sl, sl1_ok, sl2_ok, sl3_ok, sl4_ok, gSl_t, gSl_l, ev_pNo, ev_pInt, pI1_ok, ev_If, if1_t, if1_f, ev_toB, toB1_ok, ev_And, ev_Or, ev_Not, and1_t, and1_f, or1_t, or1_f, not1_ok, ev_tAnd, ev_tOr, ev_tNot, tand1_t, tand1_f, tor1_t, tor1_f, tnot1_ok, ev_tYes, ev_Chain, ch1_ok, ch2_ok, ch3_t, ch3_f, ch4_ok, ev_Chain3, d31_ok, d32_ok, d33_t, d33_f, d34_ok, d35_t, d35_f, d36_ok, ev_iZipM, izm1_ok, ev_sSkip, ev_sBreak, ev_sRetN, ev_sSeq, then_nx, then_rt, then_bk, then_exc, keep_dat, keep_tmp, keep_bor, keepB_ok, slot_dat, slot_tmp, ev_sSet, set1_ok, set1_exc, set2_ok, ev_sSet2, s21_ok, s22_ok, s23_ok, s24_ok, ev_sSet3, s31_ok, s32_ok, s33_ok, ev_sAsg, asg1_ok, asg2_ok, asg3_ok, b_Name, b_Tup, b_Cons, bc1_ok, b_Nil, ev_sIf, sif1_t, sif1_f, ev_sRet, ret1_dat, ret1_tmp, ret1_exc, ret1_bor, retB_ok, ev_sDrop, drop1_ok, drop1_exc, ev_sApp, app0_ok, app1_ok, app2_ok, app3_ok, ev_sSetIx, six1_ok, six2_ok, six3_ok, six4_ok, six5_ok, six6_ok, ev_sFor, for1_ok, ev_sForO, forO1_ok, ev_oCall, oc1_ok, oc2_ok, ev_iSeq, iseq1_ok, iseq2_l, iseq2_t, ev_iRange1, ev_iRange2, ir1_ok, ir2_ok, ien1_t, ev_eListG, elg1_ok, elg2_ok, ev_eListR, elr1_ok, dIn_l, dNotIn_l, ev_eDict1, ed1_ok, ed2_ok, ev_eGet2, gt1_ok, gt2_ok, gt3_ok, gt4_ok, ev_sPutD, pu1_ok, pu2_ok, pu3_ok, pu4_ok, pu5_ok, ev_eMaxV, mv1_1, mv1_2, ev_iEnum, ien1_l, ev_iZip, iz1_t, iz1_l, ev_Comp, comp1_ok, comp2_ok, wipe_nil, wipe_cons, ev_fn, fin1_rt, fin1_nx, fin1_exc, fin_dat, fin_tmp, finB_dat, finB_tmp, finB_ok, dAdd_i, dAdd_t, dAdd_l, dSub_i, dMul_1, dMul_2, dMul_t, dMul_t1, dPow_18, dPow_12, dPow_6, dPow_11, dDiv_i, dMod_i, dB_i, dNeg_i, gInt_i, gInt_b, gLen_l, gLen_t, gMin2_i, gMax2_i, gList_l, gList_t, gTuple_l, gTuple_t, gSum_i, gSum_t, gAll_b, gMinL_i, gMaxL_i, dIsN_n, dNotN_n, dIsB_b, dNotB_b, dIx_l, dIx_t, gIsi_ii, gIsi_ib, gIsi_tt, gIsi_ll, dEq_ok, dNe_ok, atI_0, atI_1, atI_2, atI_3, atI_4, atI_5, ixN_0, ixN_1, atI_last, atI_last1, List.getElem?_cons_zero, List.getElem?_cons_succ, List.set_cons_zero, List.set_cons_succ, List.map_cons, List.map_nil, Option.map_some, Option.map_none, List.cons_append, List.nil_append, List.length_cons, List.length_nil, Nat.reduceAdd, Nat.reduceSub, List.replicate_succ, List.replicate_zero, dLt, dLe, dGt, dGe, lim, Nat.reduceLeDiff, Int.reduceNeg, Bool.and_self, Bool.true_and, Bool.false_and, Bool.and_true, Bool.and_false, Bool.not_true, Bool.not_false, *])

theorem are_waits_ok {ws : List Int} {p : Int} (h : RuleOk ws p) : s_are_waits [.dat (.tup (ws.map D.int))] = .ok (.dat (.bl true)) none := by
  unfold s_are_waits b_are_waits
  have n1 := never_falls_ok ws (by have := h.six; omega)
  rw [nf_pw h.up] at n1
  have g1 : (1 : Int) ≤ ((ws.map D.int).length : Int) := by have := h.one; simp; omega
  have g2 : ((ws.map D.int).length : Int) ≤ 6 := by have := h.six; simp; omega
  walk_at "gw"
  simp only [decide_eq_true g1]; walk_at "gw"
  simp only [decide_eq_true g2]; walk_at "gw"
  have hc := compS_map (b := bName 1) (tt := tYes') (el := e_are_waits_1) (vs := [1]) (ev := [.dat (.tup (ws.map D.int)), .un]) D.int (fun _ => D.bl true) (xs := ws) (acc := []) (by rw [List.length_nil]; have := h.six; show 0 + ws.length ≤ 1000000; omega)
    fun x hx => ⟨_, [.dat (.tup (ws.map D.int)), .dat (.int x)], [.dat (.tup (ws.map D.int)), .dat (.int x)], _, .dat (.bl true), rfl, rfl, by
    unfold e_are_waits_1
    have := is_integer_ok x 1 100
    rw [decide_eq_true (h.pos x hx).1, decide_eq_true (h.pos x hx).2] at this
    walk_at "gw"
    rw [this]
    walk_at "gw", rfl, rfl⟩
  rw [hc]
  walk_at "gw"
  have e : ws.map (fun _ => D.bl true) = (ws.map fun _ => true).map D.bl := by rw [List.map_map]; rfl
  have e2 : (ws.map fun _ => true).all id = true := by simp
  rw [e, gAll_b, e2]
  walk_at "gw"
  rw [n1]
  walk_at "gw"
end GW

set_option Elab.async false
set_option linter.all false
set_option maxRecDepth 100000
namespace GW
open PySem L2
local macro_rules | `(tactic| walk_at "gw") => `(tactic| simp (disch := first | omega | (simp only [List.length_cons, List.length_nil, lim]; omega)) only [dMul_b, ev_C, ev_V, ev_V1, ev_V2, lk_dat, lk_tmp, lk_bor, lkB1, lkB2, so_dat, so_tmp, so_bor, toD1, toD2, toD3, op1, op2, ev_Bin, bin1_ok, bin2_ok, bin3_ok, ev_Un, un1_ok, un2_ok, aO_nil, aO_cons, aO1_ok, aO2_ok, lA_nil, lA_cons, lA_ok, ev_B, eB1_ok, eB2_ok, sto_dat, sto_tmp, sto_bor, stoB_ok, aS_nil, aS_cons, aS1_ok, aS2_ok, aS3_ok, ev_Tup, ev_Lst, tup1_ok, lst1_ok, ev_Call, call1_ok, back_dat, back_tmp, back_exc, ev_CallB, callB0_ok, callB1_ok, callB2_ok, callB3_dat, callB3_tmp, ev_Sl, sl1_ok, sl2_ok, sl3_ok, sl4_ok, gSl_t, gSl_l, ev_pNo, ev_pInt, pI1_ok, ev_If, if1_t, if1_f, ev_toB, toB1_ok, ev_And, ev_Or, ev_Not, and1_t, and1_f, or1_t, or1_f, not1_ok, ev_tAnd, ev_tOr, ev_tNot, tand1_t, tand1_f, tor1_t, tor1_f, tnot1_ok, ev_tYes, ev_Chain, ch1_ok, ch2_ok, ch3_t, ch3_f, ch4_ok, ev_Chain3, d31_ok, d32_ok, d33_t, d33_f, d34_ok, d35_t, d35_f, d36_ok, ev_iZipM, izm1_ok, ev_sSkip, ev_sBreak, ev_sRetN, ev_sSeq, then_nx, then_rt, then_bk, then_exc, keep_dat, keep_tmp, keep_bor, keepB_ok, slot_dat, slot_tmp, ev_sSet, set1_ok, set1_exc, set2_ok, ev_sSet2, s21_ok, s22_ok, s23_ok, s24_ok, ev_sSet3, s31_ok, s32_ok, s33_ok, ev_sAsg, asg1_ok, asg2_ok, asg3_ok, b_Name, b_Tup, b_Cons, bc1_ok, b_Nil, ev_sIf, sif1_t, sif1_f, ev_sRet, ret1_dat, ret1_tmp, ret1_exc, ret1_bor, retB_ok, ev_sDrop, drop1_ok, drop1_exc, ev_sApp, app0_ok, app1_ok, app2_ok, app3_ok, ev_sSetIx, six1_ok, six2_ok, six3_ok, six4_ok, six5_ok, six6_ok, ev_sFor, for1_ok, ev_sForO, forO1_ok, ev_oCall, oc1_ok, oc2_ok, ev_iSeq, iseq1_ok, iseq2_l, iseq2_t, ev_iRange1, ev_iRange2, ir1_ok, ir2_ok, ien1_t, ev_eListG, elg1_ok, elg2_ok, ev_eListR, elr1_ok, dIn_l, dNotIn_l, ev_eDict1, ed1_ok, ed2_ok, ev_eGet2, gt1_ok, gt2_ok, gt3_ok, gt4_ok, ev_sPutD, pu1_ok, pu2_ok, pu3_ok, pu4_ok, pu5_ok, ev_eMaxV, mv1_1, mv1_2, ev_iEnum, ien1_l, ev_iZip, iz1_t, iz1_l, ev_Comp, comp1_ok, comp2_ok, wipe_nil, wipe_cons, ev_fn, fin1_rt, fin1_nx, fin1_exc, fin_dat, fin_tmp, finB_dat, finB_tmp, finB_ok, dAdd_i, dAdd_t, dAdd_l, dSub_i, dMul_1, dMul_2, dMul_t, dMul_t1, dPow_18, dPow_12, dPow_6, dPow_11, dDiv_i, dMod_i, dB_i, dNeg_i, gInt_i, gInt_b, gLen_l, gLen_t, gMin2_i, gMax2_i, gList_l, gList_t, gTuple_l, gTuple_t, gSum_i, gSum_t, gAll_b, gMinL_i, gMaxL_i, dIsN_n, dNotN_n, dIsB_b, dNotB_b, dIx_l, dIx_t, gIsi_ii, gIsi_ib, gIsi_tt, gIsi_ll, dEq_ok, dNe_ok, atI_0, atI_1, atI_2, atI_3, atI_4, atI_5, ixN_0, ixN_1, atI_last, atI_last1, List.getElem?_cons_zero, List.getElem?_cons_succ, List.set_cons_zero, List.set_cons_succ, List.map_cons, List.map_nil, Option.map_some, Option.map_none, List.cons_append, List.nil_append, List.length_cons, List.length_nil, Nat.reduceAdd, Nat.reduceSub, List.replicate_succ, List.replicate_zero, dLt, dLe, dGt, dGe, lim, Nat.reduceLeDiff, Int.reduceNeg, Bool.and_self, Bool.true_and, Bool.false_and, Bool.and_true, Bool.and_false, Bool.not_true, Bool.not_false])
local macro_rules | `(tactic| walk_at "gwh") => `(tactic| simp (disch := first | omega | (simp only [List.length_cons, List.length_nil, lim]; omega)) only [dMul_b, ev_C, ev_V, ev_V1, ev_V2, lk_dat, lk_tmp, lk_bor, lkB1, lkB2, so_dat, so_tmp, so_bor, toD1, toD2, toD3, op1, op2, ev_Bin, bin1_ok, bin2_ok, bin3_ok, ev_Un, un1_ok, un2_ok, aO_nil, aO_cons, aO1_ok, aO2_ok, lA_nil, lA_cons, lA_ok, ev_B, eB1_ok, eB2_ok, sto_dat, sto_tmp, sto_bor, stoB_ok, aS_nil, aS_cons, aS1_ok, aS2_ok, aS3_ok, ev_Tup, ev_Lst, tup1_ok, lst1_ok, ev_Call, call1_ok, back_dat, back_tmp, back_exc, ev_CallB, callB0_ok, callB1_ok, callB2_ok, callB3_dat, callB3_tmp, ev_Sl, sl1_ok, sl2_ok, sl3_ok, sl4_ok, gSl_t, gSl_l, ev_pNo, ev_pInt, pI1_ok, ev_If, if1_t, if1_f, ev_toB, toB1_ok, ev_And, ev_Or, ev_Not, and1_t, and1_f, or1_t, or1_f, not1_ok, ev_tAnd, ev_tOr, ev_tNot, tand1_t, tand1_f, tor1_t, tor1_f, tnot1_ok, ev_tYes, ev_Chain, ch1_ok, ch2_ok, ch3_t, ch3_f, ch4_ok, ev_Chain3, d31_ok, d32_ok, d33_t, d33_f, d34_ok, d35_t, d35_f, d36_ok, ev_iZipM, izm1_ok, ev_sSkip, ev_sBreak, ev_sRetN, ev_sSeq, then_nx, then_rt, then_bk, then_exc, keep_dat, keep_tmp, keep_bor, keepB_ok, slot_dat, slot_tmp, ev_sSet, set1_ok, set1_exc, set2_ok, ev_sSet2, s21_ok, s22_ok, s23_ok, s24_ok, ev_sSet3, s31_ok, s32_ok, s33_ok, ev_sAsg, asg1_ok, asg2_ok, asg3_ok, b_Name, b_Tup, b_Cons, bc1_ok, b_Nil, ev_sIf, sif1_t, sif1_f, ev_sRet, ret1_dat, ret1_tmp, ret1_exc, ret1_bor, retB_ok, ev_sDrop, drop1_ok, drop1_exc, ev_sApp, app0_ok, app1_ok, app2_ok, app3_ok, ev_sSetIx, six1_ok, six2_ok, six3_ok, six4_ok, six5_ok, six6_ok, ev_sFor, for1_ok, ev_sForO, forO1_ok, ev_oCall, oc1_ok, oc2_ok, ev_iSeq, iseq1_ok, iseq2_l, iseq2_t, ev_iRange1, ev_iRange2, ir1_ok, ir2_ok, ien1_t, ev_eListG, elg1_ok, elg2_ok, ev_eListR, elr1_ok, dIn_l, dNotIn_l, ev_eDict1, ed1_ok, ed2_ok, ev_eGet2, gt1_ok, gt2_ok, gt3_ok, gt4_ok, ev_sPutD, pu1_ok, pu2_ok, pu3_ok, pu4_ok, pu5_ok, ev_eMaxV, mv1_1, mv1_2, ev_iEnum, ien1_l, ev_iZip, iz1_t, iz1_l, ev_Comp, comp1_ok, comp2_ok, wipe_nil, wipe_cons, ev_fn, fin1_rt, fin1_nx, fin1_exc, fin_dat, fin_tmp, finB_dat, finB_tmp, finB_ok, dAdd_i, dAdd_t, dAdd_l, dSub_i, dMul_1, dMul_2, dMul_t, dMul_t1, dPow_18, dPow_12, dPow_6, dPow_11, dDiv_i, dMod_i, dB_i, dNeg_i, gInt_i, gInt_b, gLen_l, gLen_t, gMin2_i, gMax2_i, gList_l, gList_t, gTuple_l, gTuple_t, gSum_i, gSum_t, gAll_b, gMinL_i, gMaxL_i, dIsN_n, dNotN_n, dIsB_b, dNotB_b, dIx_l, dIx_t, gIsi_ii, gIsi_ib, gIsi_tt, gIsi_ll, dEq_ok, dNe_ok, atI_0, atI_1, atI_2, atI_3, atI_4, atI_5, ixN_0, ixN_1, atI_last, atI_last1, List.getElem?_cons_zero, List.getElem?_cons_succ, List.set_cons_zero, List.set_cons_succ, List.map_cons, List.map_nil, Option.map_some, Option.map_none, List.cons_append, List.nil_append, List.length_cons, List.length_nil, Nat.reduceAdd, Nat.reduceSub, List.replicate_succ, List.replicate_zero, dLt, dLe, dGt, dGe, lim, Nat.reduceLeDiff, Int.reduceNeg, Bool.and_self, Bool.true_and, Bool.false_and, Bool.and_true, Bool.and_false, Bool.not_true, Bool.not_false, *])

theorem is_rule_ok {ws : List Int} {p : Int} (h : RuleOk ws p) : s_is_rule [.dat (ruleD ws p)] = .ok (.dat (.bl true)) none := by
  unfold s_is_rule b_is_rule ruleD
  obtain ⟨z, hz, p4, _, _⟩ := lastI (ws := ws) h.one
  have a := are_waits_ok h
  have i := is_integer_ok p z 200
  rw [decide_eq_true (h.last z hz), decide_eq_true h.top] at i
  have e2 : eqD (.int ((0 + 1 + 1 : Nat) : Int)) (.int 2) = true := rfl
  walk_at "gw"
  rw [dNe_ok rfl rfl]
  walk_at "gw"
  simp only [e2]
  walk_at "gw"
  rw [a]
  walk_at "gw"
  rw [p4]
  walk_at "gw"
  rw [i]
  walk_at "gw"
theorem need_rule_ok {ws : List Int} {p : Int} (h : RuleOk ws p) : s_need_rule [.dat (ruleD ws p)] = .ok (.dat .non) none := by
  unfold s_need_rule b_need_rule
  have := is_rule_ok h
  walk_at "gw"
  rw [this]
  walk_at "gw"
end GW

set_option Elab.async false
set_option linter.all false
set_option maxRecDepth 100000
namespace GW
open PySem L2
/-! ### waits and series, plainly -/
/-- the wait after a press with the step j (from 1 on) -/
def wv (ws : List Int) (j : Nat) : Int := ws.getD (min j ws.length - 1) 0
/-- the time of a series with m tries -/
def Sv (ws : List Int) : Nat → Int
  | 0 => 0
  | 1 => 0
  | m + 2 => Sv ws (m + 1) + wv ws (m + 1)
theorem Sv_succ (ws : List Int) {m : Nat} (h : 1 ≤ m) : Sv ws (m + 1) = Sv ws m + wv ws m := by
  obtain ⟨k, rfl⟩ : ∃ k, m = k + 1 := ⟨m - 1, by omega⟩
  rfl
section
variable {ws : List Int} {p : Int}
theorem wv_get {j : Nat} (h1 : 1 ≤ j) (h2 : j ≤ ws.length) : ws[j - 1]? = some (wv ws j) := by
  unfold wv
  rw [Nat.min_eq_left h2, List.getElem?_eq_getElem (by omega)]
  simp [List.getD_eq_getElem?_getD, List.getElem?_eq_getElem (show j - 1 < ws.length by omega)]
theorem wv_far {j : Nat} (h1 : 1 ≤ ws.length) (h : ws.length ≤ j) : wv ws j = wv ws ws.length := by
  unfold wv
  rw [Nat.min_eq_right h, Nat.min_self]
theorem wv_last (h1 : 1 ≤ ws.length) : ws.getLast? = some (wv ws ws.length) := by
  rw [List.getLast?_eq_getElem?]
  exact wv_get h1 (Nat.le_refl _)
theorem wv_mem {j : Nat} (h1 : 1 ≤ j) (h : 1 ≤ ws.length) : wv ws j ∈ ws := by
  by_cases hj : j ≤ ws.length
  · exact List.mem_of_getElem? (wv_get h1 hj)
  · rw [wv_far h (by omega)]
    exact List.mem_of_getElem? (wv_get h (Nat.le_refl _))
theorem RuleOk.wv1 (h : RuleOk ws p) {j : Nat} (h1 : 1 ≤ j) : 1 ≤ wv ws j ∧ wv ws j ≤ 100 ∧ wv ws j ≤ p := by
  have m := wv_mem h1 h.one
  exact ⟨(h.pos _ m).1, (h.pos _ m).2, h.last _ m⟩
theorem RuleOk.wvUp (h : RuleOk ws p) {i j : Nat} (h1 : 1 ≤ i) (hij : i ≤ j) : wv ws i ≤ wv ws j := by
  have up : ∀ {i j : Nat}, 1 ≤ i → i ≤ j → j ≤ ws.length → wv ws i ≤ wv ws j := fun {i j} a b c => by
    by_cases e : i = j
    · subst e; exact Int.le_refl _
    · have hp := List.pairwise_iff_getElem.mp h.up (i - 1) (j - 1) (by omega) (by omega) (by omega)
      have e1 := wv_get (ws := ws) a (by omega)
      have e2 := wv_get (ws := ws) (show 1 ≤ j by omega) c
      rw [List.getElem?_eq_getElem (by omega)] at e1 e2
      rw [← Option.some.inj e1, ← Option.some.inj e2]
      exact hp
  by_cases hj : j ≤ ws.length
  · exact up h1 hij hj
  · rw [wv_far h.one (show ws.length ≤ j by omega)]
    by_cases hi : i ≤ ws.length
    · exact up h1 hi (Nat.le_refl _)
    · rw [wv_far h.one (show ws.length ≤ i by omega)]; exact Int.le_refl _
theorem RuleOk.Sv_bd (h : RuleOk ws p) : ∀ m : Nat, 0 ≤ Sv ws m ∧ Sv ws m ≤ 100 * (m : Int)
  | 0 => by simp [Sv]
  | 1 => by simp [Sv]
  | m + 2 => by
    have := h.Sv_bd (m + 1)
    have := h.wv1 (show 1 ≤ m + 1 by omega)
    simp only [Sv]
    omega
theorem Sv_sum : ∀ m : Nat, Sv ws m = ((List.range (m - 1)).map fun i => wv ws (i + 1)).sum
  | 0 => rfl
  | 1 => rfl
  | m + 2 => by
    have ih := Sv_sum (m + 1)
    simp only [Sv]
    rw [ih, show m + 2 - 1 = (m + 1 - 1) + 1 by omega, List.range_succ, List.map_append, List.sum_append]
    simp
theorem Sv_take : ∀ {m : Nat}, m ≤ ws.length + 1 → Sv ws m = (ws.take (m - 1)).sum
  | 0, _ => by simp [Sv]
  | 1, _ => by simp [Sv]
  | m + 2, h => by
    have ih := Sv_take (m := m + 1) (by omega)
    simp only [Sv]
    rw [ih, show m + 2 - 1 = m + 1 by omega, show m + 1 - 1 = m by omega, List.take_add_one]
    have := wv_get (ws := ws) (show 1 ≤ m + 1 by omega) (by omega)
    rw [show m + 1 - 1 = m by omega] at this
    rw [this]
    simp
theorem Sv_far (h1 : 1 ≤ ws.length) : ∀ (k : Nat), Sv ws (ws.length + k) = Sv ws ws.length + wv ws ws.length * (k : Int)
  | 0 => by simp
  | k + 1 => by
    rw [show ws.length + (k + 1) = (ws.length + k) + 1 by omega, Sv_succ ws (by omega), Sv_far h1 k, wv_far h1 (show ws.length ≤ ws.length + k by omega)]
    rw [Int.natCast_add, Int.mul_add]
    simp
    omega
end
end GW

set_option Elab.async false
set_option linter.all false
set_option maxRecDepth 100000
namespace GW
open PySem L2
local macro_rules | `(tactic| walk_at "gw") => `(tactic| simp (disch := first | omega | (simp only [List.length_cons, List.length_nil, lim]; omega)) only [dMul_b, ev_C, ev_V, ev_V1, ev_V2, lk_dat, lk_tmp, lk_bor, lkB1, lkB2, so_dat, so_tmp, so_bor, toD1, toD2, toD3, op1, op2, ev_Bin, bin1_ok, bin2_ok, bin3_ok, ev_Un, un1_ok, un2_ok, aO_nil, aO_cons, aO1_ok, aO2_ok, lA_nil, lA_cons, lA_ok, ev_B, eB1_ok, eB2_ok, sto_dat, sto_tmp, sto_bor, stoB_ok, aS_nil, aS_cons, aS1_ok, aS2_ok, aS3_ok, ev_Tup, ev_Lst, tup1_ok, lst1_ok, ev_Call, call1_ok, back_dat, back_tmp, back_exc, ev_CallB, callB0_ok, callB1_ok, callB2_ok, callB3_dat, callB3_tmp, ev_Sl, sl1_ok, sl2_ok, sl3_ok, sl4_ok, gSl_t, gSl_l, ev_pNo, ev_pInt, pI1_ok, ev_If, if1_t, if1_f, ev_toB, toB1_ok, ev_And, ev_Or, ev_Not, and1_t, and1_f, or1_t, or1_f, not1_ok, ev_tAnd, ev_tOr, ev_tNot, tand1_t, tand1_f, tor1_t, tor1_f, tnot1_ok, ev_tYes, ev_Chain, ch1_ok, ch2_ok, ch3_t, ch3_f, ch4_ok, ev_Chain3, d31_ok, d32_ok, d33_t, d33_f, d34_ok, d35_t, d35_f, d36_ok, ev_iZipM, izm1_ok, ev_sSkip, ev_sBreak, ev_sRetN, ev_sSeq, then_nx, then_rt, then_bk, then_exc, keep_dat, keep_tmp, keep_bor, keepB_ok, slot_dat, slot_tmp, ev_sSet, set1_ok, set1_exc, set2_ok, ev_sSet2, s21_ok, s22_ok, s23_ok, s24_ok, ev_sSet3, s31_ok, s32_ok, s33_ok, ev_sAsg, asg1_ok, asg2_ok, asg3_ok, b_Name, b_Tup, b_Cons, bc1_ok, b_Nil, ev_sIf, sif1_t, sif1_f, ev_sRet, ret1_dat, ret1_tmp, ret1_exc, ret1_bor, retB_ok, ev_sDrop, drop1_ok, drop1_exc, ev_sApp, app0_ok, app1_ok, app2_ok, app3_ok, ev_sSetIx, six1_ok, six2_ok, six3_ok, six4_ok, six5_ok, six6_ok, ev_sFor, for1_ok, ev_sForO, forO1_ok, ev_oCall, oc1_ok, oc2_ok, ev_iSeq, iseq1_ok, iseq2_l, iseq2_t, ev_iRange1, ev_iRange2, ir1_ok, ir2_ok, ien1_t, ev_eListG, elg1_ok, elg2_ok, ev_eListR, elr1_ok, dIn_l, dNotIn_l, ev_eDict1, ed1_ok, ed2_ok, ev_eGet2, gt1_ok, gt2_ok, gt3_ok, gt4_ok, ev_sPutD, pu1_ok, pu2_ok, pu3_ok, pu4_ok, pu5_ok, ev_eMaxV, mv1_1, mv1_2, ev_iEnum, ien1_l, ev_iZip, iz1_t, iz1_l, ev_Comp, comp1_ok, comp2_ok, wipe_nil, wipe_cons, ev_fn, fin1_rt, fin1_nx, fin1_exc, fin_dat, fin_tmp, finB_dat, finB_tmp, finB_ok, dAdd_i, dAdd_t, dAdd_l, dSub_i, dMul_1, dMul_2, dMul_t, dMul_t1, dPow_18, dPow_12, dPow_6, dPow_11, dDiv_i, dMod_i, dB_i, dNeg_i, gInt_i, gInt_b, gLen_l, gLen_t, gMin2_i, gMax2_i, gList_l, gList_t, gTuple_l, gTuple_t, gSum_i, gSum_t, gAll_b, gMinL_i, gMaxL_i, dIsN_n, dNotN_n, dIsB_b, dNotB_b, dIx_l, dIx_t, gIsi_ii, gIsi_ib, gIsi_tt, gIsi_ll, dEq_ok, dNe_ok, atI_0, atI_1, atI_2, atI_3, atI_4, atI_5, ixN_0, ixN_1, atI_last, atI_last1, List.getElem?_cons_zero, List.getElem?_cons_succ, List.set_cons_zero, List.set_cons_succ, List.map_cons, List.map_nil, Option.map_some, Option.map_none, List.cons_append, List.nil_append, List.length_cons, List.length_nil, Nat.reduceAdd, Nat.reduceSub, List.replicate_succ, List.replicate_zero, dLt, dLe, dGt, dGe, lim, Nat.reduceLeDiff, Int.reduceNeg, Bool.and_self, Bool.true_and, Bool.false_and, Bool.and_true, Bool.and_false, Bool.not_true, Bool.not_false])
local macro_rules | `(tactic| walk_at "gwh") => `(tactic| simp (disch := first | omega | (simp only [List.length_cons, List.length_nil, lim]; omega)) only [dMul_b, ev_C, ev_V, ev_V1, ev_V2, lk_dat, lk_tmp, lk_bor, lkB1, lkB2, so_dat, so_tmp, so_bor, toD1, toD2, toD3, op1, op2, ev_Bin, bin1_ok, bin2_ok, bin3_ok, ev_Un, un1_ok, un2_ok, aO_nil, aO_cons, aO1_ok, aO2_ok, lA_nil, lA_cons, lA_ok, ev_B, eB1_ok, eB2_ok, sto_dat, sto_tmp, sto_bor, stoB_ok, aS_nil, aS_cons, aS1_ok, aS2_ok, aS3_ok, ev_Tup, ev_Lst, tup1_ok, lst1_ok, ev_Call, call1_ok, back_dat, back_tmp, back_exc, ev_CallB, callB0_ok, callB1_ok, callB2_ok, callB3_dat, callB3_tmp, ev_Sl, sl1_ok, sl2_ok, sl3_ok, sl4_ok, gSl_t, gSl_l, ev_pNo, ev_pInt, pI1_ok, ev_If, if1_t, if1_f, ev_toB, toB1_ok, ev_And, ev_Or, ev_Not, and1_t, and1_f, or1_t, or1_f, not1_ok, ev_tAnd, ev_tOr, ev_tNot, tand1_t, tand1_f, tor1_t, tor1_f, tnot1_ok, ev_tYes, ev_Chain, ch1_ok, ch2_ok, ch3_t, ch3_f, ch4_ok, ev_Chain3, d31_ok, d32_ok, d33_t, d33_f, d34_ok, d35_t, d35_f, d36_ok, ev_iZipM, izm1_ok, ev_sSkip, ev_sBreak, ev_sRetN, ev_sSeq, then_nx, then_rt, then_bk, then_exc, keep_dat, keep_tmp, keep_bor, keepB_ok, slot_dat, slot_tmp, ev_sSet, set1_ok, set1_exc, set2_ok, ev_sSet2, s21_ok, s22_ok, s23_ok, s24_ok, ev_sSet3, s31_ok, s32_ok, s33_ok, ev_sAsg, asg1_ok, asg2_ok, asg3_ok, b_Name, b_Tup, b_Cons, bc1_ok, b_Nil, ev_sIf, sif1_t, sif1_f, ev_sRet, ret1_dat, ret1_tmp, ret1_exc, ret1_bor, retB_ok, ev_sDrop, drop1_ok, drop1_exc, ev_sApp, app0_ok, app1_ok, app2_ok, app3_ok, ev_sSetIx, six1_ok, six2_ok, six3_ok, six4_ok, six5_ok, six6_ok, ev_sFor, for1_ok, ev_sForO, forO1_ok, ev_oCall, oc1_ok, oc2_ok, ev_iSeq, iseq1_ok, iseq2_l, iseq2_t, ev_iRange1, ev_iRange2, ir1_ok, ir2_ok, ien1_t, ev_eListG, elg1_ok, elg2_ok, ev_eListR, elr1_ok, dIn_l, dNotIn_l, ev_eDict1, ed1_ok, ed2_ok, ev_eGet2, gt1_ok, gt2_ok, gt3_ok, gt4_ok, ev_sPutD, pu1_ok, pu2_ok, pu3_ok, pu4_ok, pu5_ok, ev_eMaxV, mv1_1, mv1_2, ev_iEnum, ien1_l, ev_iZip, iz1_t, iz1_l, ev_Comp, comp1_ok, comp2_ok, wipe_nil, wipe_cons, ev_fn, fin1_rt, fin1_nx, fin1_exc, fin_dat, fin_tmp, finB_dat, finB_tmp, finB_ok, dAdd_i, dAdd_t, dAdd_l, dSub_i, dMul_1, dMul_2, dMul_t, dMul_t1, dPow_18, dPow_12, dPow_6, dPow_11, dDiv_i, dMod_i, dB_i, dNeg_i, gInt_i, gInt_b, gLen_l, gLen_t, gMin2_i, gMax2_i, gList_l, gList_t, gTuple_l, gTuple_t, gSum_i, gSum_t, gAll_b, gMinL_i, gMaxL_i, dIsN_n, dNotN_n, dIsB_b, dNotB_b, dIx_l, dIx_t, gIsi_ii, gIsi_ib, gIsi_tt, gIsi_ll, dEq_ok, dNe_ok, atI_0, atI_1, atI_2, atI_3, atI_4, atI_5, ixN_0, ixN_1, atI_last, atI_last1, List.getElem?_cons_zero, List.getElem?_cons_succ, List.set_cons_zero, List.set_cons_succ, List.map_cons, List.map_nil, Option.map_some, Option.map_none, List.cons_append, List.nil_append, List.length_cons, List.length_nil, Nat.reduceAdd, Nat.reduceSub, List.replicate_succ, List.replicate_zero, dLt, dLe, dGt, dGe, lim, Nat.reduceLeDiff, Int.reduceNeg, Bool.and_self, Bool.true_and, Bool.false_and, Bool.and_true, Bool.and_false, Bool.not_true, Bool.not_false, *])

/-! ### the defs -/
theorem law_wait_ok {ws : List Int} {p : Int} (h : RuleOk ws p) {j : Nat} (h1 : 1 ≤ j) : s_law_wait [.dat (ruleD ws p), .dat (.int j)] = .ok (.dat (.int (wv ws j))) none := by
  unfold s_law_wait b_law_wait ruleD
  obtain ⟨z, _, p4, p5, _⟩ := lastI (ws := ws) h.one
  walk_at "gw"
  by_cases hj : (((ws.map D.int).length : Int)) < j
  · simp only [decide_eq_true hj]; walk_at "gw"
    have hj' : ws.length < j := by simpa using hj
    rw [wv_last h.one] at p5
    cases p5
    rw [p4]
    walk_at "gw"
    rw [wv_far (j := j) h.one (by omega)]
  · simp only [decide_eq_false hj]; walk_at "gw"
    have hj' : j ≤ ws.length := by simp at hj; omega
    have e : atI (ws.map D.int) ((j : Int) - 1) = some (.int (wv ws j)) := atI_get (j := j - 1) (by omega) (by rw [List.getElem?_map, wv_get h1 hj']; rfl)
    rw [e]
    walk_at "gw"
end GW

set_option Elab.async false
set_option linter.all false
set_option maxRecDepth 100000
namespace GW
open PySem L2
local macro_rules | `(tactic| walk_at "gw") => `(tactic| simp (disch := first | omega | (simp only [List.length_cons, List.length_nil, lim]; omega)) only [dMul_b, ev_C, ev_V, ev_V1, ev_V2, lk_dat, lk_tmp, lk_bor, lkB1, lkB2, so_dat, so_tmp, so_bor, toD1, toD2, toD3, op1, op2, ev_Bin, bin1_ok, bin2_ok, bin3_ok, ev_Un, un1_ok, un2_ok, aO_nil, aO_cons, aO1_ok, aO2_ok, lA_nil, lA_cons, lA_ok, ev_B, eB1_ok, eB2_ok, sto_dat, sto_tmp, sto_bor, stoB_ok, aS_nil, aS_cons, aS1_ok, aS2_ok, aS3_ok, ev_Tup, ev_Lst, tup1_ok, lst1_ok, ev_Call, call1_ok, back_dat, back_tmp, back_exc, ev_CallB, callB0_ok, callB1_ok, callB2_ok, callB3_dat, callB3_tmp, ev_Sl, sl1_ok, sl2_ok, sl3_ok, sl4_ok, gSl_t, gSl_l, ev_pNo, ev_pInt, pI1_ok, ev_If, if1_t, if1_f, ev_toB, toB1_ok, ev_And, ev_Or, ev_Not, and1_t, and1_f, or1_t, or1_f, not1_ok, ev_tAnd, ev_tOr, ev_tNot, tand1_t, tand1_f, tor1_t, tor1_f, tnot1_ok, ev_tYes, ev_Chain, ch1_ok, ch2_ok, ch3_t, ch3_f, ch4_ok, ev_Chain3, d31_ok, d32_ok, d33_t, d33_f, d34_ok, d35_t, d35_f, d36_ok, ev_iZipM, izm1_ok, ev_sSkip, ev_sBreak, ev_sRetN, ev_sSeq, then_nx, then_rt, then_bk, then_exc, keep_dat, keep_tmp, keep_bor, keepB_ok, slot_dat, slot_tmp, ev_sSet, set1_ok, set1_exc, set2_ok, ev_sSet2, s21_ok, s22_ok, s23_ok, s24_ok, ev_sSet3, s31_ok, s32_ok, s33_ok, ev_sAsg, asg1_ok, asg2_ok, asg3_ok, b_Name, b_Tup, b_Cons, bc1_ok, b_Nil, ev_sIf, sif1_t, sif1_f, ev_sRet, ret1_dat, ret1_tmp, ret1_exc, ret1_bor, retB_ok, ev_sDrop, drop1_ok, drop1_exc, ev_sApp, app0_ok, app1_ok, app2_ok, app3_ok, ev_sSetIx, six1_ok, six2_ok, six3_ok, six4_ok, six5_ok, six6_ok, ev_sFor, for1_ok, ev_sForO, forO1_ok, ev_oCall, oc1_ok, oc2_ok, ev_iSeq, iseq1_ok, iseq2_l, iseq2_t, ev_iRange1, ev_iRange2, ir1_ok, ir2_ok, ien1_t, ev_eListG, elg1_ok, elg2_ok, ev_eListR, elr1_ok, dIn_l, dNotIn_l, ev_eDict1, ed1_ok, ed2_ok, ev_eGet2, gt1_ok, gt2_ok, gt3_ok, gt4_ok, ev_sPutD, pu1_ok, pu2_ok, pu3_ok, pu4_ok, pu5_ok, ev_eMaxV, mv1_1, mv1_2, ev_iEnum, ien1_l, ev_iZip, iz1_t, iz1_l, ev_Comp, comp1_ok, comp2_ok, wipe_nil, wipe_cons, ev_fn, fin1_rt, fin1_nx, fin1_exc, fin_dat, fin_tmp, finB_dat, finB_tmp, finB_ok, dAdd_i, dAdd_t, dAdd_l, dSub_i, dMul_1, dMul_2, dMul_t, dMul_t1, dPow_18, dPow_12, dPow_6, dPow_11, dDiv_i, dMod_i, dB_i, dNeg_i, gInt_i, gInt_b, gLen_l, gLen_t, gMin2_i, gMax2_i, gList_l, gList_t, gTuple_l, gTuple_t, gSum_i, gSum_t, gAll_b, gMinL_i, gMaxL_i, dIsN_n, dNotN_n, dIsB_b, dNotB_b, dIx_l, dIx_t, gIsi_ii, gIsi_ib, gIsi_tt, gIsi_ll, dEq_ok, dNe_ok, atI_0, atI_1, atI_2, atI_3, atI_4, atI_5, ixN_0, ixN_1, atI_last, atI_last1, List.getElem?_cons_zero, List.getElem?_cons_succ, List.set_cons_zero, List.set_cons_succ, List.map_cons, List.map_nil, Option.map_some, Option.map_none, List.cons_append, List.nil_append, List.length_cons, List.length_nil, Nat.reduceAdd, Nat.reduceSub, List.replicate_succ, List.replicate_zero, dLt, dLe, dGt, dGe, lim, Nat.reduceLeDiff, Int.reduceNeg, Bool.and_self, Bool.true_and, Bool.false_and, Bool.and_true, Bool.and_false, Bool.not_true, Bool.not_false])
local macro_rules | `(tactic| walk_at "gwh") => `(tactic| simp (disch := first | omega | (simp only [List.length_cons, List.length_nil, lim]; omega)) only [dMul_b, ev_C, ev_V, ev_V1, ev_V2, lk_dat, lk_tmp, lk_bor, lkB1, lkB2, so_dat, so_tmp, so_bor, toD1, toD2, toD3, op1, op2, ev_Bin, bin1_ok, bin2_ok, bin3_ok, ev_Un, un1_ok, un2_ok, aO_nil, aO_cons, aO1_ok, aO2_ok, lA_nil, lA_cons, lA_ok, ev_B, eB1_ok, eB2_ok, sto_dat, sto_tmp, sto_bor, stoB_ok, aS_nil, aS_cons, aS1_ok, aS2_ok, aS3_ok, ev_Tup, ev_Lst, tup1_ok, lst1_ok, ev_Call, call1_ok, back_dat, back_tmp, back_exc, ev_CallB, callB0_ok, callB1_ok, callB2_ok, callB3_dat, callB3_tmp, ev_Sl, sl1_ok, sl2_ok, sl3_ok, sl4_ok, gSl_t, gSl_l, ev_pNo, ev_pInt, pI1_ok, ev_If, if1_t, if1_f, ev_toB, toB1_ok, ev_And, ev_Or, ev_Not, and1_t, and1_f, or1_t, or1_f, not1_ok, ev_tAnd, ev_tOr, ev_tNot, tand1_t, tand1_f, tor1_t, tor1_f, tnot1_ok, ev_tYes, ev_Chain, ch1_ok, ch2_ok, ch3_t, ch3_f, ch4_ok, ev_Chain3, d31_ok, d32_ok, d33_t, d33_f, d34_ok, d35_t, d35_f, d36_ok, ev_iZipM, izm1_ok, ev_sSkip, ev_sBreak, ev_sRetN, ev_sSeq, then_nx, then_rt, then_bk, then_exc, keep_dat, keep_tmp, keep_bor, keepB_ok, slot_dat, slot_tmp, ev_sSet, set1_ok, set1_exc, set2_ok, ev_sSet2, s21_ok, s22_ok, s23_ok, s24_ok, ev_sSet3, s31_ok, s32_ok, s33_ok, ev_sAsg, asg1_ok, asg2_ok, asg3_ok, b_Name, b_Tup, b_Cons, bc1_ok, b_Nil, ev_sIf, sif1_t, sif1_f, ev_sRet, ret1_dat, ret1_tmp, ret1_exc, ret1_bor, retB_ok, ev_sDrop, drop1_ok, drop1_exc, ev_sApp, app0_ok, app1_ok, app2_ok, app3_ok, ev_sSetIx, six1_ok, six2_ok, six3_ok, six4_ok, six5_ok, six6_ok, ev_sFor, for1_ok, ev_sForO, forO1_ok, ev_oCall, oc1_ok, oc2_ok, ev_iSeq, iseq1_ok, iseq2_l, iseq2_t, ev_iRange1, ev_iRange2, ir1_ok, ir2_ok, ien1_t, ev_eListG, elg1_ok, elg2_ok, ev_eListR, elr1_ok, dIn_l, dNotIn_l, ev_eDict1, ed1_ok, ed2_ok, ev_eGet2, gt1_ok, gt2_ok, gt3_ok, gt4_ok, ev_sPutD, pu1_ok, pu2_ok, pu3_ok, pu4_ok, pu5_ok, ev_eMaxV, mv1_1, mv1_2, ev_iEnum, ien1_l, ev_iZip, iz1_t, iz1_l, ev_Comp, comp1_ok, comp2_ok, wipe_nil, wipe_cons, ev_fn, fin1_rt, fin1_nx, fin1_exc, fin_dat, fin_tmp, finB_dat, finB_tmp, finB_ok, dAdd_i, dAdd_t, dAdd_l, dSub_i, dMul_1, dMul_2, dMul_t, dMul_t1, dPow_18, dPow_12, dPow_6, dPow_11, dDiv_i, dMod_i, dB_i, dNeg_i, gInt_i, gInt_b, gLen_l, gLen_t, gMin2_i, gMax2_i, gList_l, gList_t, gTuple_l, gTuple_t, gSum_i, gSum_t, gAll_b, gMinL_i, gMaxL_i, dIsN_n, dNotN_n, dIsB_b, dNotB_b, dIx_l, dIx_t, gIsi_ii, gIsi_ib, gIsi_tt, gIsi_ll, dEq_ok, dNe_ok, atI_0, atI_1, atI_2, atI_3, atI_4, atI_5, ixN_0, ixN_1, atI_last, atI_last1, List.getElem?_cons_zero, List.getElem?_cons_succ, List.set_cons_zero, List.set_cons_succ, List.map_cons, List.map_nil, Option.map_some, Option.map_none, List.cons_append, List.nil_append, List.length_cons, List.length_nil, Nat.reduceAdd, Nat.reduceSub, List.replicate_succ, List.replicate_zero, dLt, dLe, dGt, dGe, lim, Nat.reduceLeDiff, Int.reduceNeg, Bool.and_self, Bool.true_and, Bool.false_and, Bool.and_true, Bool.and_false, Bool.not_true, Bool.not_false, *])

theorem law_series_ok {ws : List Int} {p : Int} (h : RuleOk ws p) (m : Nat) (hm : m ≤ 100000) : s_law_series [.dat (ruleD ws p), .dat (.int m)] = .ok (.dat (.int (Sv ws m))) none := by
  unfold s_law_series b_law_series
  walk_at "gw"
  have e0 : ((m : Int) - 1).toNat = m - 1 := by omega
  rw [e0, rangeD_map]
  have hc := compS_map (b := bName 2) (tt := tYes') (el := e_law_series_1) (vs := [2]) (ev := [.dat (ruleD ws p), .dat (.int m), .un]) (fun i : Nat => D.int (1 + i)) (fun i : Nat => D.int (wv ws (i + 1))) (xs := List.range (m - 1)) (acc := []) (by rw [List.length_nil, List.length_range]; show 0 + (m - 1) ≤ 1000000; omega)
    fun i _ => ⟨_, [.dat (ruleD ws p), .dat (.int m), .dat (.int (1 + (i : Int)))], [.dat (ruleD ws p), .dat (.int m), .dat (.int (1 + (i : Int)))], _, .dat (.int (wv ws (i + 1))), rfl, rfl, by
    unfold e_law_series_1
    have := law_wait_ok h (show 1 ≤ i + 1 by omega)
    rw [show (((i + 1 : Nat)) : Int) = 1 + (i : Int) by omega] at this
    walk_at "gw"
    rw [this]
    walk_at "gw", rfl, rfl⟩
  rw [hc]
  walk_at "gw"
  have e : (List.range (m - 1)).map (fun i : Nat => D.int (wv ws (i + 1))) = ((List.range (m - 1)).map fun i : Nat => wv ws (i + 1)).map D.int := by rw [List.map_map]; rfl
  rw [e, gSum_i, ← Sv_sum]
  walk_at "gw"
theorem series_time_ok {ws : List Int} {p : Int} (h : RuleOk ws p) {m : Nat} (h1 : 1 ≤ m) : s_series_time [.dat (ruleD ws p), .dat (.int m)] = .ok (.dat (.int (Sv ws m))) none := by
  unfold s_series_time b_series_time ruleD
  obtain ⟨z, hz, p4, p5, _⟩ := lastI (ws := ws) h.one
  rw [wv_last h.one] at p5
  cases p5
  walk_at "gw"
  simp only [cutD_init]
  have e1 : (ws.map D.int).dropLast = ws.dropLast.map D.int := by rw [List.map_dropLast]
  rw [e1]
  have hl : (ws.map D.int).length = ws.length := by simp
  by_cases hm : (m : Int) ≤ ((ws.map D.int).length : Int)
  · simp only [decide_eq_true hm]; walk_at "gw"
    have hm' : m ≤ ws.length := by simpa using hm
    have e2 : ((m : Int) - 1) = ((m - 1 : Nat) : Int) := by omega
    rw [e2, cutD_to, ← List.map_take, gSum_t]
    walk_at "gw"
    rw [Sv_take (by omega), List.dropLast_eq_take, List.take_take, Nat.min_eq_left (by omega)]
  · simp only [decide_eq_false hm]; walk_at "gw"
    rw [p4]
    have hb := h.pos _ hz
    walk_at "gw"
    have hm' : ws.length < m := by simp at hm; omega
    have e3 := Sv_far h.one (m - ws.length)
    rw [show ws.length + (m - ws.length) = m by omega] at e3
    rw [e3, hl, Sv_take (by omega), List.dropLast_eq_take, show (((m - ws.length : Nat)) : Int) = (m : Int) - ws.length by omega]
end GW

set_option Elab.async false
set_option linter.all false
set_option maxRecDepth 100000
namespace GW
open PySem L2
local macro_rules | `(tactic| walk_at "gw") => `(tactic| simp (disch := first | omega | (simp only [List.length_cons, List.length_nil, lim]; omega)) only [dMul_b, ev_C, ev_V, ev_V1, ev_V2, lk_dat, lk_tmp, lk_bor, lkB1, lkB2, so_dat, so_tmp, so_bor, toD1, toD2, toD3, op1, op2, ev_Bin, bin1_ok, bin2_ok, bin3_ok, ev_Un, un1_ok, un2_ok, aO_nil, aO_cons, aO1_ok, aO2_ok, lA_nil, lA_cons, lA_ok, ev_B, eB1_ok, eB2_ok, sto_dat, sto_tmp, sto_bor, stoB_ok, aS_nil, aS_cons, aS1_ok, aS2_ok, aS3_ok, ev_Tup, ev_Lst, tup1_ok, lst1_ok, ev_Call, call1_ok, back_dat, back_tmp, back_exc, ev_CallB, callB0_ok, callB1_ok, callB2_ok, callB3_dat, callB3_tmp, ev_Sl, sl1_ok, sl2_ok, sl3_ok, sl4_ok, gSl_t, gSl_l, ev_pNo, ev_pInt, pI1_ok, ev_If, if1_t, if1_f, ev_toB, toB1_ok, ev_And, ev_Or, ev_Not, and1_t, and1_f, or1_t, or1_f, not1_ok, ev_tAnd, ev_tOr, ev_tNot, tand1_t, tand1_f, tor1_t, tor1_f, tnot1_ok, ev_tYes, ev_Chain, ch1_ok, ch2_ok, ch3_t, ch3_f, ch4_ok, ev_Chain3, d31_ok, d32_ok, d33_t, d33_f, d34_ok, d35_t, d35_f, d36_ok, ev_iZipM, izm1_ok, ev_sSkip, ev_sBreak, ev_sRetN, ev_sSeq, then_nx, then_rt, then_bk, then_exc, keep_dat, keep_tmp, keep_bor, keepB_ok, slot_dat, slot_tmp, ev_sSet, set1_ok, set1_exc, set2_ok, ev_sSet2, s21_ok, s22_ok, s23_ok, s24_ok, ev_sSet3, s31_ok, s32_ok, s33_ok, ev_sAsg, asg1_ok, asg2_ok, asg3_ok, b_Name, b_Tup, b_Cons, bc1_ok, b_Nil, ev_sIf, sif1_t, sif1_f, ev_sRet, ret1_dat, ret1_tmp, ret1_exc, ret1_bor, retB_ok, ev_sDrop, drop1_ok, drop1_exc, ev_sApp, app0_ok, app1_ok, app2_ok, app3_ok, ev_sSetIx, six1_ok, six2_ok, six3_ok, six4_ok, six5_ok, six6_ok, ev_sFor, for1_ok, ev_sForO, forO1_ok, ev_oCall, oc1_ok, oc2_ok, ev_iSeq, iseq1_ok, iseq2_l, iseq2_t, ev_iRange1, ev_iRange2, ir1_ok, ir2_ok, ien1_t, ev_eListG, elg1_ok, elg2_ok, ev_eListR, elr1_ok, dIn_l, dNotIn_l, ev_eDict1, ed1_ok, ed2_ok, ev_eGet2, gt1_ok, gt2_ok, gt3_ok, gt4_ok, ev_sPutD, pu1_ok, pu2_ok, pu3_ok, pu4_ok, pu5_ok, ev_eMaxV, mv1_1, mv1_2, ev_iEnum, ien1_l, ev_iZip, iz1_t, iz1_l, ev_Comp, comp1_ok, comp2_ok, wipe_nil, wipe_cons, ev_fn, fin1_rt, fin1_nx, fin1_exc, fin_dat, fin_tmp, finB_dat, finB_tmp, finB_ok, dAdd_i, dAdd_t, dAdd_l, dSub_i, dMul_1, dMul_2, dMul_t, dMul_t1, dPow_18, dPow_12, dPow_6, dPow_11, dDiv_i, dMod_i, dB_i, dNeg_i, gInt_i, gInt_b, gLen_l, gLen_t, gMin2_i, gMax2_i, gList_l, gList_t, gTuple_l, gTuple_t, gSum_i, gSum_t, gAll_b, gMinL_i, gMaxL_i, dIsN_n, dNotN_n, dIsB_b, dNotB_b, dIx_l, dIx_t, gIsi_ii, gIsi_ib, gIsi_tt, gIsi_ll, dEq_ok, dNe_ok, atI_0, atI_1, atI_2, atI_3, atI_4, atI_5, ixN_0, ixN_1, atI_last, atI_last1, List.getElem?_cons_zero, List.getElem?_cons_succ, List.set_cons_zero, List.set_cons_succ, List.map_cons, List.map_nil, Option.map_some, Option.map_none, List.cons_append, List.nil_append, List.length_cons, List.length_nil, Nat.reduceAdd, Nat.reduceSub, List.replicate_succ, List.replicate_zero, dLt, dLe, dGt, dGe, lim, Nat.reduceLeDiff, Int.reduceNeg, Bool.and_self, Bool.true_and, Bool.false_and, Bool.and_true, Bool.and_false, Bool.not_true, Bool.not_false])
local macro_rules | `(tactic| walk_at "gwh") => `(tactic| simp (disch := first | omega | (simp only [List.length_cons, List.length_nil, lim]; omega)) only [dMul_b, ev_C, ev_V, ev_V1, ev_V2, lk_dat, lk_tmp, lk_bor, lkB1, lkB2, so_dat, so_tmp, so_bor, toD1, toD2, toD3, op1, op2, ev_Bin, bin1_ok, bin2_ok, bin3_ok, ev_Un, un1_ok, un2_ok, aO_nil, aO_cons, aO1_ok, aO2_ok, lA_nil, lA_cons, lA_ok, ev_B, eB1_ok, eB2_ok, sto_dat, sto_tmp, sto_bor, stoB_ok, aS_nil, aS_cons, aS1_ok, aS2_ok, aS3_ok, ev_Tup, ev_Lst, tup1_ok, lst1_ok, ev_Call, call1_ok, back_dat, back_tmp, back_exc, ev_CallB, callB0_ok, callB1_ok, callB2_ok, callB3_dat, callB3_tmp, ev_Sl, sl1_ok, sl2_ok, sl3_ok, sl4_ok, gSl_t, gSl_l, ev_pNo, ev_pInt, pI1_ok, ev_If, if1_t, if1_f, ev_toB, toB1_ok, ev_And, ev_Or, ev_Not, and1_t, and1_f, or1_t, or1_f, not1_ok, ev_tAnd, ev_tOr, ev_tNot, tand1_t, tand1_f, tor1_t, tor1_f, tnot1_ok, ev_tYes, ev_Chain, ch1_ok, ch2_ok, ch3_t, ch3_f, ch4_ok, ev_Chain3, d31_ok, d32_ok, d33_t, d33_f, d34_ok, d35_t, d35_f, d36_ok, ev_iZipM, izm1_ok, ev_sSkip, ev_sBreak, ev_sRetN, ev_sSeq, then_nx, then_rt, then_bk, then_exc, keep_dat, keep_tmp, keep_bor, keepB_ok, slot_dat, slot_tmp, ev_sSet, set1_ok, set1_exc, set2_ok, ev_sSet2, s21_ok, s22_ok, s23_ok, s24_ok, ev_sSet3, s31_ok, s32_ok, s33_ok, ev_sAsg, asg1_ok, asg2_ok, asg3_ok, b_Name, b_Tup, b_Cons, bc1_ok, b_Nil, ev_sIf, sif1_t, sif1_f, ev_sRet, ret1_dat, ret1_tmp, ret1_exc, ret1_bor, retB_ok, ev_sDrop, drop1_ok, drop1_exc, ev_sApp, app0_ok, app1_ok, app2_ok, app3_ok, ev_sSetIx, six1_ok, six2_ok, six3_ok, six4_ok, six5_ok, six6_ok, ev_sFor, for1_ok, ev_sForO, forO1_ok, ev_oCall, oc1_ok, oc2_ok, ev_iSeq, iseq1_ok, iseq2_l, iseq2_t, ev_iRange1, ev_iRange2, ir1_ok, ir2_ok, ien1_t, ev_eListG, elg1_ok, elg2_ok, ev_eListR, elr1_ok, dIn_l, dNotIn_l, ev_eDict1, ed1_ok, ed2_ok, ev_eGet2, gt1_ok, gt2_ok, gt3_ok, gt4_ok, ev_sPutD, pu1_ok, pu2_ok, pu3_ok, pu4_ok, pu5_ok, ev_eMaxV, mv1_1, mv1_2, ev_iEnum, ien1_l, ev_iZip, iz1_t, iz1_l, ev_Comp, comp1_ok, comp2_ok, wipe_nil, wipe_cons, ev_fn, fin1_rt, fin1_nx, fin1_exc, fin_dat, fin_tmp, finB_dat, finB_tmp, finB_ok, dAdd_i, dAdd_t, dAdd_l, dSub_i, dMul_1, dMul_2, dMul_t, dMul_t1, dPow_18, dPow_12, dPow_6, dPow_11, dDiv_i, dMod_i, dB_i, dNeg_i, gInt_i, gInt_b, gLen_l, gLen_t, gMin2_i, gMax2_i, gList_l, gList_t, gTuple_l, gTuple_t, gSum_i, gSum_t, gAll_b, gMinL_i, gMaxL_i, dIsN_n, dNotN_n, dIsB_b, dNotB_b, dIx_l, dIx_t, gIsi_ii, gIsi_ib, gIsi_tt, gIsi_ll, dEq_ok, dNe_ok, atI_0, atI_1, atI_2, atI_3, atI_4, atI_5, ixN_0, ixN_1, atI_last, atI_last1, List.getElem?_cons_zero, List.getElem?_cons_succ, List.set_cons_zero, List.set_cons_succ, List.map_cons, List.map_nil, Option.map_some, Option.map_none, List.cons_append, List.nil_append, List.length_cons, List.length_nil, Nat.reduceAdd, Nat.reduceSub, List.replicate_succ, List.replicate_zero, dLt, dLe, dGt, dGe, lim, Nat.reduceLeDiff, Int.reduceNeg, Bool.and_self, Bool.true_and, Bool.false_and, Bool.and_true, Bool.and_false, Bool.not_true, Bool.not_false, *])

/-! ### where growing stops -/
def gv (ws : List Int) (p : Int) (t : Nat) : Int := (t : Int) * wv ws t - Sv ws t - p
section
variable {ws : List Int} {p : Int}
theorem gv_step (ws : List Int) (p : Int) {t : Nat} (h1 : 1 ≤ t) : gv ws p (t + 1) = gv ws p t + ((t : Int) + 1) * (wv ws (t + 1) - wv ws t) := by
  unfold gv
  rw [Sv_succ ws h1]
  push_cast
  rw [Int.mul_sub, Int.add_mul, Int.add_mul, Int.one_mul, Int.one_mul]
  omega
theorem gv_up (h : RuleOk ws p) {t : Nat} (h1 : 1 ≤ t) : gv ws p t ≤ gv ws p (t + 1) := by
  rw [gv_step ws p h1]
  have := Int.mul_nonneg (show (0 : Int) ≤ (t : Int) + 1 by omega) (show 0 ≤ wv ws (t + 1) - wv ws t by have := h.wvUp h1 (show t ≤ t + 1 by omega); omega)
  omega
theorem gv_mono (h : RuleOk ws p) {s : Nat} (h1 : 1 ≤ s) : ∀ k : Nat, gv ws p s ≤ gv ws p (s + k)
  | 0 => Int.le_refl _
  | k + 1 => Int.le_trans (gv_mono h h1 k) (gv_up h (by omega))
theorem gv_le (h : RuleOk ws p) {s t : Nat} (h1 : 1 ≤ s) (h2 : s ≤ t) : gv ws p s ≤ gv ws p t := by
  obtain ⟨k, rfl⟩ : ∃ k, t = s + k := ⟨t - s, by omega⟩
  exact gv_mono h h1 k
theorem gv_far (h1 : 1 ≤ ws.length) : ∀ k : Nat, gv ws p (ws.length + k) = gv ws p ws.length
  | 0 => rfl
  | k + 1 => by
    rw [show ws.length + (k + 1) = (ws.length + k) + 1 by omega, gv_step ws p (by omega), wv_far h1 (show ws.length ≤ ws.length + k by omega), wv_far h1 (show ws.length ≤ ws.length + k + 1 by omega), gv_far h1 k]
    rw [Int.sub_self, Int.mul_zero, Int.add_zero]
end
/-- where growing stops: the first place where the next press pays, or nowhere -/
def BestD (ws : List Int) (p : Int) (d : D) : Prop :=
  (∃ b : Nat, d = .int b ∧ 1 ≤ b ∧ b ≤ ws.length ∧ 0 ≤ gv ws p b ∧ ∀ j : Nat, 1 ≤ j → j < b → gv ws p j < 0) ∨ (d = .non ∧ ∀ j : Nat, 1 ≤ j → gv ws p j < 0)
theorem BestD.one {ws : List Int} {p : Int} {d e : D} (h : BestD ws p d) (g : BestD ws p e) : d = e := by
  rcases h with ⟨b, rfl, h1, h2, h3, h4⟩ | ⟨rfl, h1⟩ <;> rcases g with ⟨c, rfl, g1, g2, g3, g4⟩ | ⟨rfl, g1⟩
  · have : b = c := by
      rcases Nat.lt_trichotomy b c with l | l | l
      · have := g4 b h1 l; omega
      · exact l
      · have := h4 c g1 l; omega
    rw [this]
  · have := g1 b h1; omega
  · have := h1 c g1; omega
  · rfl
theorem wv_at {ws : List Int} {j : Nat} (h1 : 1 ≤ j) (h2 : j ≤ ws.length) : atI (ws.map D.int) ((j : Int) - 1) = some (.int (wv ws j)) :=
  atI_get (j := j - 1) (by omega) (by rw [List.getElem?_map, wv_get h1 h2]; rfl)
theorem length_of_ok {ws : List Int} {p : Int} (h : RuleOk ws p) : ∃ d, s_length_of [.dat (ruleD ws p)] = .ok (.dat d) none ∧ BestD ws p d := by
  unfold s_length_of b_length_of
  have hd : ruleD ws p = .tup [.tup (ws.map D.int), .int p] := rfl
  have hlen : (ws.map D.int).length = ws.length := by simp
  have hsix0 := h.six
  rw [hd]
  walk_at "gw"
  rw [← hd]
  have e0 : (((ws.map D.int).length : Int) + 1 - 1).toNat = ws.length := by simp
  rw [e0]
  refine (forS_genR (b := bName 3) (body := l_length_of_1) (lo := 1) (n := ws.length) (ev := [.dat (ruleD ws p), .dat (.tup (ws.map D.int)), .dat (.int p), .un])
    (fun i ev => (∃ z, ev = [.dat (ruleD ws p), .dat (.tup (ws.map D.int)), .dat (.int p), z]) ∧ ∀ j : Nat, 1 ≤ j → j ≤ i → gv ws p j < 0)
    (fun o => ∃ d, fin1 false (thenS (sRet (eC .non)) o) = .ok (.dat d) none ∧ BestD ws p d) ⟨⟨_, rfl⟩, fun j a b => absurd b (by omega)⟩ (fun i ev hi hp => ?_) (fun e2 hp => ?_))
  · obtain ⟨⟨z, rfl⟩, hj⟩ := hp
    refine ⟨_, rfl, ?_⟩
    have hs := series_time_ok h (show 1 ≤ i + 1 by omega)
    have hw := wv_at (ws := ws) (show 1 ≤ i + 1 by omega) (by omega)
    rw [show (((i + 1 : Nat)) : Int) = 1 + (i : Int) by omega] at hs hw
    have hsix := h.six
    by_cases c : Sv ws (i + 1) + p ≤ (1 + (i : Int)) * wv ws (i + 1)
    · refine .inr (.inl ⟨.dat (.int (1 + (i : Int))), [.dat (ruleD ws p), .dat (.tup (ws.map D.int)), .dat (.int p), .dat (.int (1 + (i : Int)))], ?_, .int (1 + (i : Int)), ?_, .inl ⟨i + 1, ?_, by omega, by omega, ?_, fun j a b => hj j a (by omega)⟩⟩)
      · show l_length_of_1 [.dat (ruleD ws p), .dat (.tup (ws.map D.int)), .dat (.int p), .dat (.int (1 + (i : Int)))] = _
        unfold l_length_of_1
        walk_at "gw"
        rw [hw]
        walk_at "gw"
        rw [hs]
        walk_at "gw"
        simp only [decide_eq_true c]
        walk_at "gw"
      · walk_at "gw"
      · rw [show (((i + 1 : Nat)) : Int) = 1 + (i : Int) by omega]
      · unfold gv
        rw [show (((i + 1 : Nat)) : Int) = 1 + (i : Int) by omega]
        omega
    · refine .inl ⟨[.dat (ruleD ws p), .dat (.tup (ws.map D.int)), .dat (.int p), .dat (.int (1 + (i : Int)))], .inl ?_, ⟨_, rfl⟩, fun j a b => ?_⟩
      · show l_length_of_1 [.dat (ruleD ws p), .dat (.tup (ws.map D.int)), .dat (.int p), .dat (.int (1 + (i : Int)))] = _
        unfold l_length_of_1
        walk_at "gw"
        rw [hw]
        walk_at "gw"
        rw [hs]
        walk_at "gw"
        simp only [decide_eq_false c]
        walk_at "gw"
      · by_cases e : j = i + 1
        · subst e
          unfold gv
          rw [show (((i + 1 : Nat)) : Int) = 1 + (i : Int) by omega]
          omega
        · exact hj j a (by omega)
  · obtain ⟨⟨z, rfl⟩, hj⟩ := hp
    refine ⟨.non, by walk_at "gw", .inr ⟨rfl, fun j a => ?_⟩⟩
    by_cases e : j ≤ ws.length
    · exact hj j a e
    · have := gv_far (p := p) h.one (j - ws.length)
      rw [show ws.length + (j - ws.length) = j by omega] at this
      rw [this]
      exact hj _ h.one (Nat.le_refl _)
end GW

set_option Elab.async false
set_option linter.all false
set_option maxRecDepth 100000
namespace GW
open PySem L2
/-! ### many tries, plainly -/
section
variable {ws : List Int} {p : Int}
theorem Sv_hi (h : RuleOk ws p) {a : Nat} (ha : 1 ≤ a) : ∀ d : Nat, Sv ws a + wv ws a * (d : Int) ≤ Sv ws (a + d)
  | 0 => by simp
  | d + 1 => by
    have ih := Sv_hi h ha d
    have := h.wvUp ha (show a ≤ a + d by omega)
    rw [show a + (d + 1) = (a + d) + 1 by omega, Sv_succ ws (by omega)]
    push_cast
    rw [Int.mul_add, Int.mul_one]
    omega
theorem Sv_lo (h : RuleOk ws p) {m : Nat} (hm : 1 ≤ m) : ∀ d : Nat, Sv ws (m + d) ≤ Sv ws m + wv ws (m + d) * (d : Int)
  | 0 => by simp
  | d + 1 => by
    have ih := Sv_lo h hm d
    have g := h.wvUp (show 1 ≤ m + d by omega) (show m + d ≤ m + d + 1 by omega)
    rw [show m + (d + 1) = (m + d) + 1 by omega, Sv_succ ws (by omega)]
    have g2 := Int.mul_le_mul_of_nonneg_right g (show (0 : Int) ≤ (d : Int) by omega)
    push_cast
    rw [Int.mul_add, Int.mul_one]
    omega
theorem Sv_sup (h : RuleOk ws p) {a m : Nat} (ha : 1 ≤ a) (hm : 1 ≤ m) : Sv ws a + wv ws a * ((m : Int) - (a : Int)) ≤ Sv ws m := by
  by_cases c : a ≤ m
  · have := Sv_hi h ha (m - a)
    rw [show a + (m - a) = m by omega, show ((m - a : Nat) : Int) = (m : Int) - a by omega] at this
    exact this
  · have := Sv_lo h hm (a - m)
    rw [show m + (a - m) = a by omega, show ((a - m : Nat) : Int) = (a : Int) - m by omega] at this
    have e : wv ws a * ((m : Int) - (a : Int)) = -(wv ws a * ((a : Int) - m)) := by grind
    omega
/-- the time of n tries in k series of even lengths -/
def Tm (ws : List Int) (p : Int) (n k : Nat) : Int := ((k : Int) - ((n % k : Nat) : Int)) * Sv ws (n / k) + ((k : Int) - 1) * p + ((n % k : Nat) : Int) * Sv ws (n / k + 1)
theorem q_one {n k : Nat} (h1 : 1 ≤ k) (h2 : k ≤ n) : 1 ≤ n / k := (Nat.one_le_div_iff (by omega)).mpr h2
theorem nkr (n k : Nat) : (n : Int) = (k : Int) * ((n / k : Nat) : Int) + ((n % k : Nat) : Int) := by
  rw [← Int.natCast_mul, ← Int.natCast_add, Nat.div_add_mod]
theorem Tm_sup (h : RuleOk ws p) {n k a : Nat} (h1 : 1 ≤ k) (h2 : k ≤ n) (ha : 1 ≤ a) : (n : Int) * wv ws a - (k : Int) * gv ws p a ≤ Tm ws p n k + p := by
  have q := q_one h1 h2
  have s0 := Sv_sup h ha q
  have s1 := Sv_sup h ha (show 1 ≤ n / k + 1 by omega)
  have hr : n % k < k := Nat.mod_lt _ (by omega)
  have hn := nkr n k
  have e1 := Int.mul_le_mul_of_nonneg_left s0 (show (0 : Int) ≤ (k : Int) - ((n % k : Nat) : Int) by omega)
  have e2 := Int.mul_le_mul_of_nonneg_left s1 (show (0 : Int) ≤ ((n % k : Nat) : Int) by omega)
  have c1 : ((n / k + 1 : Nat) : Int) = ((n / k : Nat) : Int) + 1 := by omega
  unfold Tm gv
  rw [c1] at e2
  generalize ((n / k : Nat) : Int) = qq at *
  generalize ((n % k : Nat) : Int) = r at *
  generalize Sv ws (n / k) = S0 at *
  generalize Sv ws (n / k + 1) = S1 at *
  generalize Sv ws a = Sa at *
  generalize wv ws a = w at *
  rw [hn]
  grind
theorem Tm_eq (ws : List Int) (p : Int) {n k : Nat} (h1 : 1 ≤ k) (h2 : k ≤ n) : Tm ws p n k + p = (n : Int) * wv ws (n / k) - (k : Int) * gv ws p (n / k) := by
  have q := q_one h1 h2
  have hn := nkr n k
  unfold Tm gv
  rw [Sv_succ ws q]
  generalize ((n / k : Nat) : Int) = qq at *
  generalize ((n % k : Nat) : Int) = r at *
  rw [hn]
  grind
theorem div_le_div' {n k : Nat} (h : 1 ≤ k) : n / (k + 1) ≤ n / k := Nat.div_le_div_left (by omega) (by omega)
/-- more series cost no more, as long as they are longer than the best length -/
theorem Tm_down (h : RuleOk ws p) {n k : Nat} (h1 : 1 ≤ k) (h2 : k + 1 ≤ n) (hg : 0 ≤ gv ws p (n / (k + 1))) : Tm ws p n (k + 1) ≤ Tm ws p n k := by
  have q := q_one (n := n) (k := k + 1) (by omega) h2
  have a := Tm_sup h h1 (show k ≤ n by omega) q
  have b := Tm_eq ws p (n := n) (k := k + 1) (by omega) h2
  have e : ((k + 1 : Nat) : Int) * gv ws p (n / (k + 1)) = (k : Int) * gv ws p (n / (k + 1)) + gv ws p (n / (k + 1)) := by push_cast; rw [Int.add_mul, Int.one_mul]
  omega
theorem Tm_up (h : RuleOk ws p) {n k : Nat} (h1 : 1 ≤ k) (h2 : k + 1 ≤ n) (hg : gv ws p (n / k) ≤ 0) : Tm ws p n k ≤ Tm ws p n (k + 1) := by
  have q := q_one (n := n) (k := k) h1 (by omega)
  have a := Tm_sup h (show 1 ≤ k + 1 by omega) h2 q
  have b := Tm_eq ws p (n := n) (k := k) h1 (by omega)
  have e : ((k + 1 : Nat) : Int) * gv ws p (n / k) = (k : Int) * gv ws p (n / k) + gv ws p (n / k) := by push_cast; rw [Int.add_mul, Int.one_mul]
  omega
theorem chain_up {f : Nat → Int} {a : Nat} : ∀ d : Nat, (∀ i : Nat, a ≤ i → i < a + d → f i ≤ f (i + 1)) → f a ≤ f (a + d)
  | 0, _ => Int.le_refl _
  | d + 1, h => Int.le_trans (chain_up d fun i a b => h i a (by omega)) (h (a + d) (by omega) (by omega))
theorem chain_down {f : Nat → Int} {a : Nat} : ∀ d : Nat, (∀ i : Nat, a ≤ i → i < a + d → f (i + 1) ≤ f i) → f (a + d) ≤ f a
  | 0, _ => Int.le_refl _
  | d + 1, h => Int.le_trans (h (a + d) (by omega) (by omega)) (chain_down d fun i a b => h i a (by omega))
/-- no best length: one series -/
theorem Tm_none (h : RuleOk ws p) (hg : ∀ j : Nat, 1 ≤ j → gv ws p j < 0) {n k : Nat} (h1 : 1 ≤ k) (h2 : k ≤ n) : Tm ws p n 1 ≤ Tm ws p n k := by
  have := chain_up (f := Tm ws p n) (a := 1) (k - 1) fun i a b => Tm_up h a (by omega) (Int.le_of_lt (hg _ (q_one a (by omega))))
  rwa [show 1 + (k - 1) = k by omega] at this
/-- a best length: one of two numbers of series -/
theorem Tm_best (h : RuleOk ws p) {b : Nat} (b1 : 1 ≤ b) (hb : 0 ≤ gv ws p b) (hg : ∀ j : Nat, 1 ≤ j → j < b → gv ws p j < 0) {n k : Nat} (h1 : 1 ≤ k) (h2 : k ≤ n) :
    (1 ≤ n / b ∧ Tm ws p n (n / b) ≤ Tm ws p n k) ∨ (n / b + 1 ≤ n ∧ Tm ws p n (n / b + 1) ≤ Tm ws p n k) := by
  have e := Nat.div_add_mod n b
  have m := Nat.mod_lt n (show 0 < b by omega)
  have z := Nat.div_mul_le_self n b
  have z2 := Nat.div_le_self n b
  generalize n / b = Q at *
  by_cases c : k ≤ Q
  · refine .inl ⟨by omega, ?_⟩
    have := chain_down (f := Tm ws p n) (a := k) (Q - k) fun i a d => by
      have l : (i + 1) * b ≤ n := Nat.le_trans (Nat.mul_le_mul_right b (show i + 1 ≤ Q by omega)) z
      have l2 : i + 1 ≤ n := Nat.le_trans (by omega) z2
      refine Tm_down h (by omega) l2 (Int.le_trans hb (gv_le h b1 ?_))
      exact (Nat.le_div_iff_mul_le (by omega)).mpr (by rw [Nat.mul_comm]; exact l)
    rwa [show k + (Q - k) = Q by omega] at this
  · refine .inr ⟨by omega, ?_⟩
    have := chain_up (f := Tm ws p n) (a := Q + 1) (k - (Q + 1)) fun i a d => by
      refine Tm_up h (by omega) (by omega) (Int.le_of_lt (hg _ (q_one (by omega) (by omega)) ?_))
      refine (Nat.div_lt_iff_lt_mul (by omega)).mpr ?_
      have l : b * (Q + 1) ≤ b * i := Nat.mul_le_mul_left b a
      rw [Nat.mul_add, Nat.mul_one] at l
      omega
    rwa [show Q + 1 + (k - (Q + 1)) = k by omega] at this
/-- the least time of n tries -/
def Least (ws : List Int) (p : Int) (n : Nat) (e : Int) : Prop := (∃ k : Nat, 1 ≤ k ∧ k ≤ n ∧ Tm ws p n k = e) ∧ ∀ k : Nat, 1 ≤ k → k ≤ n → e ≤ Tm ws p n k
theorem Least.one {n : Nat} {d e : Int} (h : Least ws p n d) (g : Least ws p n e) : d = e := by
  obtain ⟨⟨k, a, b, rfl⟩, c⟩ := h
  obtain ⟨⟨l, a', b', rfl⟩, c'⟩ := g
  have := c l a' b'
  have := c' k a b
  omega
theorem Least.step (h : RuleOk ws p) {n : Nat} (hn : 1 ≤ n) {d e : Int} (hd : Least ws p n d) (he : Least ws p (n + 1) e) : 0 < e - d ∧ e - d ≤ wv ws ws.length := by
  have one := h.one
  constructor
  · obtain ⟨⟨k, a, b, rfl⟩, _⟩ := he
    by_cases c : k ≤ n
    · have q := q_one a c
      have s := Tm_sup h a b q
      have t := Tm_eq ws p a c
      have w := (h.wv1 q).1
      have u := hd.2 k a c
      have e : ((n + 1 : Nat) : Int) * wv ws (n / k) = (n : Int) * wv ws (n / k) + wv ws (n / k) := by push_cast; rw [Int.add_mul, Int.one_mul]
      omega
    · have e : k = n + 1 := by omega
      subst e
      have u := hd.2 n hn (Nat.le_refl _)
      have t : Tm ws p n n = ((n : Int) - 1) * p := by
        unfold Tm
        rw [Nat.mod_self, Nat.div_self (by omega)]
        simp [Sv]
      have t2 : Tm ws p (n + 1) (n + 1) = (n : Int) * p := by
        unfold Tm
        rw [Nat.mod_self, Nat.div_self (by omega)]
        simp [Sv]
      have w := h.wv1 (show 1 ≤ 1 by omega)
      rw [Int.sub_mul, Int.one_mul] at t
      omega
  · obtain ⟨⟨k, a, b, rfl⟩, _⟩ := hd
    have q := q_one (n := n + 1) a (by omega)
    have s := Tm_sup h a b q
    have t := Tm_eq ws p (n := n + 1) a (by omega)
    have u := he.2 k a (by omega)
    have e : ((n + 1 : Nat) : Int) * wv ws ((n + 1) / k) = (n : Int) * wv ws ((n + 1) / k) + wv ws ((n + 1) / k) := by push_cast; rw [Int.add_mul, Int.one_mul]
    have w : wv ws ((n + 1) / k) ≤ wv ws ws.length := by
      by_cases c : (n + 1) / k ≤ ws.length
      · exact h.wvUp q c
      · rw [wv_far h.one (show ws.length ≤ (n + 1) / k by omega)]; exact Int.le_refl _
    omega
theorem Least.parts (h : RuleOk ws p) {m n : Nat} (hm : 1 ≤ m) (hn : 1 ≤ n) {c d e : Int} (hc : Least ws p m c) (hd : Least ws p n d) (he : Least ws p (m + n) e) : e ≤ c + p + d := by
  obtain ⟨⟨k, a, b, rfl⟩, _⟩ := hc
  obtain ⟨⟨l, a', b', rfl⟩, _⟩ := hd
  have q := q_one (n := m + n) (k := k + l) (by omega) (by omega)
  have s := Tm_sup h a b q
  have s' := Tm_sup h a' b' q
  have t := Tm_eq ws p (n := m + n) (k := k + l) (by omega) (by omega)
  have u := he.2 (k + l) (by omega) (by omega)
  have e1 : ((m + n : Nat) : Int) * wv ws ((m + n) / (k + l)) = (m : Int) * wv ws ((m + n) / (k + l)) + (n : Int) * wv ws ((m + n) / (k + l)) := by push_cast; rw [Int.add_mul]
  have e2 : ((k + l : Nat) : Int) * gv ws p ((m + n) / (k + l)) = (k : Int) * gv ws p ((m + n) / (k + l)) + (l : Int) * gv ws p ((m + n) / (k + l)) := by push_cast; rw [Int.add_mul]
  omega
theorem Least.best (h : RuleOk ws p) {b n : Nat} (b1 : 1 ≤ b) (b6 : b ≤ 6) (hb : 0 ≤ gv ws p b) (hg : ∀ j : Nat, 1 ≤ j → j < b → gv ws p j < 0) (hn : 900 < n) {d e : Int} (hd : Least ws p n d) (he : Least ws p (n + b) e) :
    e = d + Sv ws b + p := by
  have n1 : n / b ≤ n := Nat.div_le_self n b
  have big : 150 ≤ n / b := (Nat.le_div_iff_mul_le (by omega)).mpr (by have : 150 * b ≤ 150 * 6 := Nat.mul_le_mul_left 150 b6; omega)
  have dm := Nat.div_add_mod n b
  have md := Nat.mod_lt n (show 0 < b by omega)
  have nb : (n + b) / b = n / b + 1 := Nat.add_div_right n (by omega)
  have key : ∀ k q : Nat, 1 ≤ k → k ≤ n → n / k = q → (n + b) / (k + 1) = q → Sv ws b = Sv ws q + ((b : Int) - (q : Int)) * wv ws q → Tm ws p (n + b) (k + 1) = Tm ws p n k + Sv ws b + p := fun k q k1 k2 e1 e2 e3 => by
    have t1 := Tm_eq ws p k1 k2
    have t2 := Tm_eq ws p (n := n + b) (k := k + 1) (by omega) (by omega)
    rw [e1] at t1
    rw [e2] at t2
    unfold gv at t1 t2
    push_cast at t2
    grind
  have up : e ≤ d + Sv ws b + p := by
    obtain ⟨⟨k, a, c, rfl⟩, _⟩ := hd
    have q := q_one (n := n + b) (k := k + 1) (by omega) (by omega)
    have s := Tm_sup h a c q
    have t := Tm_eq ws p (n := n + b) (k := k + 1) (by omega) (by omega)
    have u := he.2 (k + 1) (by omega) (by omega)
    have v := Sv_sup h q b1
    generalize (n + b) / (k + 1) = g at *
    unfold gv at s t
    push_cast at t
    grind
  have lo : d + Sv ws b + p ≤ e := by
    obtain ⟨⟨k, a, c, e0⟩, _⟩ := he
    have g1 : n / (n / b) = b := by
      refine Nat.div_eq_of_lt_le ?_ ?_
      · rw [Nat.mul_comm]; exact Nat.div_mul_le_self n b
      · rw [Nat.add_mul, Nat.one_mul]
        omega
    have g2 : (n + b) / (n / b + 1) = b := by
      refine Nat.div_eq_of_lt_le ?_ ?_
      · rw [Nat.mul_add, Nat.mul_one]; omega
      · rw [Nat.add_mul, Nat.mul_add, Nat.one_mul, Nat.mul_one]
        omega
    rcases Tm_best h b1 hb hg a c with ⟨x, y⟩ | ⟨x, y⟩
    · rw [nb] at x y
      have := key (n / b) b (by omega) n1 g1 g2 (by rw [Int.sub_self, Int.zero_mul, Int.add_zero])
      have := hd.2 (n / b) (by omega) n1
      omega
    · rw [nb] at x y
      by_cases one : b = 1
      · subst one
        rw [Nat.div_one] at x
        omega
      have b2 : n / b + 1 ≤ n := by
        have z := Nat.div_mul_le_self n b
        have z2 : n / b * 2 ≤ n / b * b := Nat.mul_le_mul_left _ (by omega)
        generalize n / b = Q at *
        omega
      have g3 : n / (n / b + 1) = b - 1 := by
        refine Nat.div_eq_of_lt_le ?_ ?_
        · rw [Nat.sub_mul, Nat.mul_add, Nat.one_mul, Nat.mul_one]; omega
        · rw [show b - 1 + 1 = b by omega, Nat.mul_add, Nat.mul_one]; omega
      have g4 : (n + b) / (n / b + 1 + 1) = b - 1 := by
        refine Nat.div_eq_of_lt_le ?_ ?_
        · rw [Nat.sub_mul, Nat.mul_add, Nat.mul_add, Nat.one_mul, Nat.mul_one]; omega
        · rw [show b - 1 + 1 = b by omega, Nat.mul_add, Nat.mul_add, Nat.mul_one]; omega
      have sb : Sv ws b = Sv ws (b - 1) + ((b : Int) - ((b - 1 : Nat) : Int)) * wv ws (b - 1) := by
        have := Sv_succ ws (show 1 ≤ b - 1 by omega)
        rw [show b - 1 + 1 = b by omega] at this
        rw [this, show (b : Int) - ((b - 1 : Nat) : Int) = 1 by omega, Int.one_mul]
      have := key (n / b + 1) (b - 1) (by omega) b2 g3 g4 sb
      have := hd.2 (n / b + 1) (by omega) b2
      omega
  omega
end
end GW

set_option Elab.async false
set_option linter.all false
set_option maxRecDepth 100000
namespace GW
open PySem L2
local macro_rules | `(tactic| walk_at "gw") => `(tactic| simp (disch := first | omega | (simp only [List.length_cons, List.length_nil, lim]; omega)) only [dMul_b, ev_C, ev_V, ev_V1, ev_V2, lk_dat, lk_tmp, lk_bor, lkB1, lkB2, so_dat, so_tmp, so_bor, toD1, toD2, toD3, op1, op2, ev_Bin, bin1_ok, bin2_ok, bin3_ok, ev_Un, un1_ok, un2_ok, aO_nil, aO_cons, aO1_ok, aO2_ok, lA_nil, lA_cons, lA_ok, ev_B, eB1_ok, eB2_ok, sto_dat, sto_tmp, sto_bor, stoB_ok, aS_nil, aS_cons, aS1_ok, aS2_ok, aS3_ok, ev_Tup, ev_Lst, tup1_ok, lst1_ok, ev_Call, call1_ok, back_dat, back_tmp, back_exc, ev_CallB, callB0_ok, callB1_ok, callB2_ok, callB3_dat, callB3_tmp, ev_Sl, sl1_ok, sl2_ok, sl3_ok, sl4_ok, gSl_t, gSl_l, ev_pNo, ev_pInt, pI1_ok, ev_If, if1_t, if1_f, ev_toB, toB1_ok, ev_And, ev_Or, ev_Not, and1_t, and1_f, or1_t, or1_f, not1_ok, ev_tAnd, ev_tOr, ev_tNot, tand1_t, tand1_f, tor1_t, tor1_f, tnot1_ok, ev_tYes, ev_Chain, ch1_ok, ch2_ok, ch3_t, ch3_f, ch4_ok, ev_Chain3, d31_ok, d32_ok, d33_t, d33_f, d34_ok, d35_t, d35_f, d36_ok, ev_iZipM, izm1_ok, ev_sSkip, ev_sBreak, ev_sRetN, ev_sSeq, then_nx, then_rt, then_bk, then_exc, keep_dat, keep_tmp, keep_bor, keepB_ok, slot_dat, slot_tmp, ev_sSet, set1_ok, set1_exc, set2_ok, ev_sSet2, s21_ok, s22_ok, s23_ok, s24_ok, ev_sSet3, s31_ok, s32_ok, s33_ok, ev_sAsg, asg1_ok, asg2_ok, asg3_ok, b_Name, b_Tup, b_Cons, bc1_ok, b_Nil, ev_sIf, sif1_t, sif1_f, ev_sRet, ret1_dat, ret1_tmp, ret1_exc, ret1_bor, retB_ok, ev_sDrop, drop1_ok, drop1_exc, ev_sApp, app0_ok, app1_ok, app2_ok, app3_ok, ev_sSetIx, six1_ok, six2_ok, six3_ok, six4_ok, six5_ok, six6_ok, ev_sFor, for1_ok, ev_sForO, forO1_ok, ev_oCall, oc1_ok, oc2_ok, ev_iSeq, iseq1_ok, iseq2_l, iseq2_t, ev_iRange1, ev_iRange2, ir1_ok, ir2_ok, ien1_t, ev_eListG, elg1_ok, elg2_ok, ev_eListR, elr1_ok, dIn_l, dNotIn_l, ev_eDict1, ed1_ok, ed2_ok, ev_eGet2, gt1_ok, gt2_ok, gt3_ok, gt4_ok, ev_sPutD, pu1_ok, pu2_ok, pu3_ok, pu4_ok, pu5_ok, ev_eMaxV, mv1_1, mv1_2, ev_iEnum, ien1_l, ev_iZip, iz1_t, iz1_l, ev_Comp, comp1_ok, comp2_ok, wipe_nil, wipe_cons, ev_fn, fin1_rt, fin1_nx, fin1_exc, fin_dat, fin_tmp, finB_dat, finB_tmp, finB_ok, dAdd_i, dAdd_t, dAdd_l, dSub_i, dMul_1, dMul_2, dMul_t, dMul_t1, dPow_18, dPow_12, dPow_6, dPow_11, dDiv_i, dMod_i, dB_i, dNeg_i, gInt_i, gInt_b, gLen_l, gLen_t, gMin2_i, gMax2_i, gList_l, gList_t, gTuple_l, gTuple_t, gSum_i, gSum_t, gAll_b, gMinL_i, gMaxL_i, dIsN_n, dNotN_n, dIsB_b, dNotB_b, dIx_l, dIx_t, gIsi_ii, gIsi_ib, gIsi_tt, gIsi_ll, dEq_ok, dNe_ok, atI_0, atI_1, atI_2, atI_3, atI_4, atI_5, ixN_0, ixN_1, atI_last, atI_last1, List.getElem?_cons_zero, List.getElem?_cons_succ, List.set_cons_zero, List.set_cons_succ, List.map_cons, List.map_nil, Option.map_some, Option.map_none, List.cons_append, List.nil_append, List.length_cons, List.length_nil, Nat.reduceAdd, Nat.reduceSub, List.replicate_succ, List.replicate_zero, dLt, dLe, dGt, dGe, lim, Nat.reduceLeDiff, Int.reduceNeg, Bool.and_self, Bool.true_and, Bool.false_and, Bool.and_true, Bool.and_false, Bool.not_true, Bool.not_false])
local macro_rules | `(tactic| walk_at "gwh") => `(tactic| simp (disch := first | omega | (simp only [List.length_cons, List.length_nil, lim]; omega)) only [dMul_b, ev_C, ev_V, ev_V1, ev_V2, lk_dat, lk_tmp, lk_bor, lkB1, lkB2, so_dat, so_tmp, so_bor, toD1, toD2, toD3, op1, op2, ev_Bin, bin1_ok, bin2_ok, bin3_ok, ev_Un, un1_ok, un2_ok, aO_nil, aO_cons, aO1_ok, aO2_ok, lA_nil, lA_cons, lA_ok, ev_B, eB1_ok, eB2_ok, sto_dat, sto_tmp, sto_bor, stoB_ok, aS_nil, aS_cons, aS1_ok, aS2_ok, aS3_ok, ev_Tup, ev_Lst, tup1_ok, lst1_ok, ev_Call, call1_ok, back_dat, back_tmp, back_exc, ev_CallB, callB0_ok, callB1_ok, callB2_ok, callB3_dat, callB3_tmp, ev_Sl, sl1_ok, sl2_ok, sl3_ok, sl4_ok, gSl_t, gSl_l, ev_pNo, ev_pInt, pI1_ok, ev_If, if1_t, if1_f, ev_toB, toB1_ok, ev_And, ev_Or, ev_Not, and1_t, and1_f, or1_t, or1_f, not1_ok, ev_tAnd, ev_tOr, ev_tNot, tand1_t, tand1_f, tor1_t, tor1_f, tnot1_ok, ev_tYes, ev_Chain, ch1_ok, ch2_ok, ch3_t, ch3_f, ch4_ok, ev_Chain3, d31_ok, d32_ok, d33_t, d33_f, d34_ok, d35_t, d35_f, d36_ok, ev_iZipM, izm1_ok, ev_sSkip, ev_sBreak, ev_sRetN, ev_sSeq, then_nx, then_rt, then_bk, then_exc, keep_dat, keep_tmp, keep_bor, keepB_ok, slot_dat, slot_tmp, ev_sSet, set1_ok, set1_exc, set2_ok, ev_sSet2, s21_ok, s22_ok, s23_ok, s24_ok, ev_sSet3, s31_ok, s32_ok, s33_ok, ev_sAsg, asg1_ok, asg2_ok, asg3_ok, b_Name, b_Tup, b_Cons, bc1_ok, b_Nil, ev_sIf, sif1_t, sif1_f, ev_sRet, ret1_dat, ret1_tmp, ret1_exc, ret1_bor, retB_ok, ev_sDrop, drop1_ok, drop1_exc, ev_sApp, app0_ok, app1_ok, app2_ok, app3_ok, ev_sSetIx, six1_ok, six2_ok, six3_ok, six4_ok, six5_ok, six6_ok, ev_sFor, for1_ok, ev_sForO, forO1_ok, ev_oCall, oc1_ok, oc2_ok, ev_iSeq, iseq1_ok, iseq2_l, iseq2_t, ev_iRange1, ev_iRange2, ir1_ok, ir2_ok, ien1_t, ev_eListG, elg1_ok, elg2_ok, ev_eListR, elr1_ok, dIn_l, dNotIn_l, ev_eDict1, ed1_ok, ed2_ok, ev_eGet2, gt1_ok, gt2_ok, gt3_ok, gt4_ok, ev_sPutD, pu1_ok, pu2_ok, pu3_ok, pu4_ok, pu5_ok, ev_eMaxV, mv1_1, mv1_2, ev_iEnum, ien1_l, ev_iZip, iz1_t, iz1_l, ev_Comp, comp1_ok, comp2_ok, wipe_nil, wipe_cons, ev_fn, fin1_rt, fin1_nx, fin1_exc, fin_dat, fin_tmp, finB_dat, finB_tmp, finB_ok, dAdd_i, dAdd_t, dAdd_l, dSub_i, dMul_1, dMul_2, dMul_t, dMul_t1, dPow_18, dPow_12, dPow_6, dPow_11, dDiv_i, dMod_i, dB_i, dNeg_i, gInt_i, gInt_b, gLen_l, gLen_t, gMin2_i, gMax2_i, gList_l, gList_t, gTuple_l, gTuple_t, gSum_i, gSum_t, gAll_b, gMinL_i, gMaxL_i, dIsN_n, dNotN_n, dIsB_b, dNotB_b, dIx_l, dIx_t, gIsi_ii, gIsi_ib, gIsi_tt, gIsi_ll, dEq_ok, dNe_ok, atI_0, atI_1, atI_2, atI_3, atI_4, atI_5, ixN_0, ixN_1, atI_last, atI_last1, List.getElem?_cons_zero, List.getElem?_cons_succ, List.set_cons_zero, List.set_cons_succ, List.map_cons, List.map_nil, Option.map_some, Option.map_none, List.cons_append, List.nil_append, List.length_cons, List.length_nil, Nat.reduceAdd, Nat.reduceSub, List.replicate_succ, List.replicate_zero, dLt, dLe, dGt, dGe, lim, Nat.reduceLeDiff, Int.reduceNeg, Bool.and_self, Bool.true_and, Bool.false_and, Bool.and_true, Bool.and_false, Bool.not_true, Bool.not_false, *])

theorem time_of_ok {ws : List Int} {p : Int} (h : RuleOk ws p) {n k : Nat} (h1 : 1 ≤ k) (h2 : k ≤ n) (h3 : n ≤ 10000000000000) : s_time_of [.dat (ruleD ws p), .dat (.int n), .dat (.int k)] = .ok (.dat (.int (Tm ws p n k))) none := by
  unfold s_time_of b_time_of Tm
  have q1 := q_one h1 h2
  have r1 := Nat.mod_lt n (show 0 < k by omega)
  have e1 : (n : Int) / (k : Int) = ((n / k : Nat) : Int) := (Int.natCast_ediv n k).symm
  have e2 : (n : Int) % (k : Int) = ((n % k : Nat) : Int) := (Int.natCast_emod n k).symm
  walk_at "gw"
  rw [e1, e2]
  generalize n / k = q at *
  generalize n % k = r at *
  have s0 := series_time_ok h q1
  have s1 := series_time_ok h (show 1 ≤ q + 1 by omega)
  rw [show ((q + 1 : Nat) : Int) = (q : Int) + 1 by omega] at s1
  have hd : ruleD ws p = .tup [.tup (ws.map D.int), .int p] := rfl
  try walk_at "gw"
  rw [s0]
  rw [hd]
  walk_at "gw"
  rw [← hd, s1]
  walk_at "gw"
def nearD (n b : Nat) : List Int := ((List.range 6).map fun i : Nat => (((n / b : Nat) : Int) - 2 + (i : Int) : Int)).filter (fun z : Int => decide (1 ≤ z) && decide (z ≤ (n : Int))) ++ [(1 : Int)]
theorem earliest_of_ok {ws : List Int} {p : Int} (h : RuleOk ws p) {n : Nat} (h1 : 1 ≤ n) (h3 : n ≤ 10000000000000) : ∃ e : Int, s_earliest_of [.dat (ruleD ws p), .dat (.int n)] = .ok (.dat (.int e)) none ∧ Least ws p n e := by
  obtain ⟨d, l1, l2⟩ := length_of_ok h
  unfold s_earliest_of b_earliest_of
  walk_at "gw"
  rw [l1]
  walk_at "gw"
  rcases l2 with ⟨b, rfl, b1, b2, b3, b4⟩ | ⟨rfl, b4⟩
  · rw [show isNon (.int b) = false from rfl]
    have six := h.six
    have e1 : (n : Int) / (b : Int) = ((n / b : Nat) : Int) := (Int.natCast_ediv n b).symm
    walk_at "gw"
    rw [e1]
    have z2 := Nat.div_le_self n b
    generalize hq : n / b = Q at *
    walk_at "gw"
    rw [show ((Q : Int) + 4 - (Q - 2)).toNat = 6 by omega, rangeD_map]
    have c1 := compS_filter (b := bName 5) (tt := t_earliest_of_2) (el := e_earliest_of_1) (vs := [5]) (ev := [.dat (ruleD ws p), .dat (.int n), .dat (.int b), .dat (.int Q), .un, .un]) (fun i : Nat => D.int ((Q : Int) - 2 + i)) (fun i : Nat => D.int ((Q : Int) - 2 + i))
      (fun i : Nat => decide (1 ≤ (Q : Int) - 2 + i) && decide ((Q : Int) - 2 + i ≤ n)) (xs := List.range 6) (acc := []) (by simp [lim]) fun i hi => by
      refine ⟨[.dat (ruleD ws p), .dat (.int n), .dat (.int b), .dat (.int Q), .un, .dat (.int ((Q : Int) - 2 + i))], [.dat (ruleD ws p), .dat (.int n), .dat (.int b), .dat (.int Q), .un, .dat (.int ((Q : Int) - 2 + i))], rfl, ?_, fun _ => ?_, fun _ => rfl⟩
      · unfold t_earliest_of_2
        walk_at "gw"
        by_cases c : 1 ≤ (Q : Int) - 2 + i
        · simp only [decide_eq_true c]; walk_at "gw"
        · simp only [decide_eq_false c]; walk_at "gw"
      · refine ⟨[.dat (ruleD ws p), .dat (.int n), .dat (.int b), .dat (.int Q), .un, .dat (.int ((Q : Int) - 2 + i))], [.dat (ruleD ws p), .dat (.int n), .dat (.int b), .dat (.int Q), .un, .dat (.int ((Q : Int) - 2 + i))], .dat (.int ((Q : Int) - 2 + i)), ?_, rfl, rfl⟩
        unfold e_earliest_of_1
        walk_at "gw"
    rw [c1]
    have c2 : (((List.range 6).filter fun i : Nat => decide (1 ≤ (Q : Int) - 2 + i) && decide ((Q : Int) - 2 + i ≤ n)).map fun i : Nat => D.int ((Q : Int) - 2 + i)) ++ [.int 1] = (nearD n b).map D.int := by
      unfold nearD
      rw [List.map_append, List.filter_map, List.map_map, hq]
      rfl
    have c3 : (((List.range 6).filter fun i : Nat => decide (1 ≤ (Q : Int) - 2 + i) && decide ((Q : Int) - 2 + i ≤ n)).map fun i : Nat => D.int ((Q : Int) - 2 + i)).length ≤ 6 := by
      rw [List.length_map]
      exact Nat.le_trans (List.length_filter_le _ _) (by simp)
    walk_at "gw"
    rw [c2]
    have c4 : (nearD n b).length ≤ 7 := by
      have := congrArg List.length c2
      rw [List.length_append, List.length_map, List.length_map] at this
      rw [List.length_map] at c3
      simp at this
      omega
    have nz : ∀ z ∈ nearD n b, 1 ≤ z ∧ z ≤ n := fun z hz => by
      unfold nearD at hz
      rcases List.mem_append.mp hz with hz | hz
      · have := (List.mem_filter.mp hz).2
        simpa using this
      · simp at hz
        omega
    generalize hev : ([.dat (ruleD ws p), .dat (.int n), .dat (.int b), .dat (.int Q), .own (.lst (((List.range 6).filter fun i : Nat => decide (1 ≤ (Q : Int) - 2 + i) && decide ((Q : Int) - 2 + i ≤ n)).map fun i : Nat => D.int ((Q : Int) - 2 + i))), .un] : List Sl) = ev5
    have d1 := compS_map (b := bName 5) (tt := tYes') (el := e_earliest_of_3) (vs := [5]) (ev := ev5) D.int (fun z : Int => D.int (Tm ws p n z.toNat)) (xs := nearD n b) (acc := []) (by simp [lim]; omega) fun z hz => by
      subst hev
      obtain ⟨k1, k2⟩ := nz z hz
      obtain ⟨k, rfl⟩ : ∃ k : Nat, z = k := ⟨z.toNat, by omega⟩
      let ek : List Sl := [.dat (ruleD ws p), .dat (.int n), .dat (.int b), .dat (.int Q), .own (.lst (((List.range 6).filter fun i : Nat => decide (1 ≤ (Q : Int) - 2 + i) && decide ((Q : Int) - 2 + i ≤ n)).map fun i : Nat => D.int ((Q : Int) - 2 + i))), .dat (.int (k : Int))]
      refine ⟨ek, ek, ek, ek, .dat (.int (Tm ws p n k)), rfl, rfl, ?_, rfl, rfl⟩
      unfold e_earliest_of_3
      have := time_of_ok h (n := n) (k := k) (by omega) (by omega) h3
      show eCall s_time_of [eV 0, eV 1, eV 5] [_, _, _, _, _, .dat (.int (k : Int))] = _
      walk_at "gw"
      rw [this]
      walk_at "gw"
      rfl
    rw [d1]
    have e : (nearD n b).map (fun z : Int => D.int (Tm ws p n z.toNat)) = ((nearD n b).map fun z : Int => Tm ws p n z.toNat).map D.int := by rw [List.map_map]; rfl
    have hpos : 0 < ((nearD n b).map fun z : Int => Tm ws p n z.toNat).length := by simp [nearD]
    walk_at "gw"
    rw [e, gMinL_i hpos]
    walk_at "gw"
    refine ⟨_, rfl, ?_, ?_⟩
    · obtain ⟨m1, _⟩ := minL_spec _ hpos
      obtain ⟨z, hz, ez⟩ := List.mem_map.mp m1
      obtain ⟨k1, k2⟩ := nz z hz
      exact ⟨z.toNat, by omega, by omega, ez⟩
    · intro k k1 k2
      obtain ⟨_, m2⟩ := minL_spec _ hpos
      have near : ∀ m : Nat, 1 ≤ m → m ≤ n → Q ≤ m → m ≤ Q + 1 → minL ((nearD n b).map fun z : Int => Tm ws p n z.toNat) ≤ Tm ws p n m := fun m a1 a2 a3 a4 => by
        refine m2 _ (List.mem_map.mpr ⟨(m : Int), ?_, by simp⟩)
        unfold nearD
        refine List.mem_append_left _ (List.mem_filter.mpr ⟨List.mem_map.mpr ⟨m + 2 - Q, by simp; omega, by rw [hq]; omega⟩, ?_⟩)
        rw [decide_eq_true (show (1 : Int) ≤ m by omega), decide_eq_true (show (m : Int) ≤ n by omega)]
        rfl
      rcases Tm_best h b1 b3 b4 k1 k2 with ⟨x, y⟩ | ⟨x, y⟩
      · rw [hq] at x y
        exact Int.le_trans (near Q x z2 (Nat.le_refl _) (by omega)) y
      · rw [hq] at x y
        exact Int.le_trans (near (Q + 1) (by omega) x (by omega) (Nat.le_refl _)) y
  · rw [show isNon .non = true from rfl]
    have := time_of_ok h (n := n) (k := 1) (by omega) h1 h3
    rw [show ((1 : Nat) : Int) = 1 from rfl] at this
    walk_at "gw"
    rw [this]
    walk_at "gw"
    exact ⟨_, rfl, ⟨1, by omega, h1, rfl⟩, fun k k1 k2 => Tm_none h b4 k1 k2⟩
theorem earliest_ok {ws : List Int} {p : Int} (h : RuleOk ws p) {n : Nat} (h1 : 1 ≤ n) (h3 : n ≤ 1000000000000) : ∃ e : Int, s_earliest [.dat (ruleD ws p), .dat (.int n)] = .ok (.dat (.int e)) none ∧ Least ws p n e := by
  obtain ⟨e, q1, q2⟩ := earliest_of_ok h h1 (show n ≤ 10000000000000 by omega)
  refine ⟨e, ?_, q2⟩
  unfold s_earliest b_earliest
  have := need_rule_ok h
  have i := is_integer_ok n 1 1000000000000
  rw [decide_eq_true (show (1 : Int) ≤ n by omega), decide_eq_true (show (n : Int) ≤ 1000000000000 by omega)] at i
  walk_at "gw"
  rw [this]
  walk_at "gw"
  rw [i]
  walk_at "gw"
  rw [q1]
  walk_at "gw"
end GW

set_option Elab.async false
set_option linter.all false
set_option maxRecDepth 100000
namespace GW
open PySem L2
local macro_rules | `(tactic| walk_at "gw") => `(tactic| simp (disch := first | omega | (simp only [List.length_cons, List.length_nil, lim]; omega)) only [dMul_b, ev_C, ev_V, ev_V1, ev_V2, lk_dat, lk_tmp, lk_bor, lkB1, lkB2, so_dat, so_tmp, so_bor, toD1, toD2, toD3, op1, op2, ev_Bin, bin1_ok, bin2_ok, bin3_ok, ev_Un, un1_ok, un2_ok, aO_nil, aO_cons, aO1_ok, aO2_ok, lA_nil, lA_cons, lA_ok, ev_B, eB1_ok, eB2_ok, sto_dat, sto_tmp, sto_bor, stoB_ok, aS_nil, aS_cons, aS1_ok, aS2_ok, aS3_ok, ev_Tup, ev_Lst, tup1_ok, lst1_ok, ev_Call, call1_ok, back_dat, back_tmp, back_exc, ev_CallB, callB0_ok, callB1_ok, callB2_ok, callB3_dat, callB3_tmp, ev_Sl, sl1_ok, sl2_ok, sl3_ok, sl4_ok, gSl_t, gSl_l, ev_pNo, ev_pInt, pI1_ok, ev_If, if1_t, if1_f, ev_toB, toB1_ok, ev_And, ev_Or, ev_Not, and1_t, and1_f, or1_t, or1_f, not1_ok, ev_tAnd, ev_tOr, ev_tNot, tand1_t, tand1_f, tor1_t, tor1_f, tnot1_ok, ev_tYes, ev_Chain, ch1_ok, ch2_ok, ch3_t, ch3_f, ch4_ok, ev_Chain3, d31_ok, d32_ok, d33_t, d33_f, d34_ok, d35_t, d35_f, d36_ok, ev_iZipM, izm1_ok, ev_sSkip, ev_sBreak, ev_sRetN, ev_sSeq, then_nx, then_rt, then_bk, then_exc, keep_dat, keep_tmp, keep_bor, keepB_ok, slot_dat, slot_tmp, ev_sSet, set1_ok, set1_exc, set2_ok, ev_sSet2, s21_ok, s22_ok, s23_ok, s24_ok, ev_sSet3, s31_ok, s32_ok, s33_ok, ev_sAsg, asg1_ok, asg2_ok, asg3_ok, b_Name, b_Tup, b_Cons, bc1_ok, b_Nil, ev_sIf, sif1_t, sif1_f, ev_sRet, ret1_dat, ret1_tmp, ret1_exc, ret1_bor, retB_ok, ev_sDrop, drop1_ok, drop1_exc, ev_sApp, app0_ok, app1_ok, app2_ok, app3_ok, ev_sSetIx, six1_ok, six2_ok, six3_ok, six4_ok, six5_ok, six6_ok, ev_sFor, for1_ok, ev_sForO, forO1_ok, ev_oCall, oc1_ok, oc2_ok, ev_iSeq, iseq1_ok, iseq2_l, iseq2_t, ev_iRange1, ev_iRange2, ir1_ok, ir2_ok, ien1_t, ev_eListG, elg1_ok, elg2_ok, ev_eListR, elr1_ok, dIn_l, dNotIn_l, ev_eDict1, ed1_ok, ed2_ok, ev_eGet2, gt1_ok, gt2_ok, gt3_ok, gt4_ok, ev_sPutD, pu1_ok, pu2_ok, pu3_ok, pu4_ok, pu5_ok, ev_eMaxV, mv1_1, mv1_2, ev_iEnum, ien1_l, ev_iZip, iz1_t, iz1_l, ev_Comp, comp1_ok, comp2_ok, wipe_nil, wipe_cons, ev_fn, fin1_rt, fin1_nx, fin1_exc, fin_dat, fin_tmp, finB_dat, finB_tmp, finB_ok, dAdd_i, dAdd_t, dAdd_l, dSub_i, dMul_1, dMul_2, dMul_t, dMul_t1, dPow_18, dPow_12, dPow_6, dPow_11, dDiv_i, dMod_i, dB_i, dNeg_i, gInt_i, gInt_b, gLen_l, gLen_t, gMin2_i, gMax2_i, gList_l, gList_t, gTuple_l, gTuple_t, gSum_i, gSum_t, gAll_b, gMinL_i, gMaxL_i, dIsN_n, dNotN_n, dIsB_b, dNotB_b, dIx_l, dIx_t, gIsi_ii, gIsi_ib, gIsi_tt, gIsi_ll, dEq_ok, dNe_ok, atI_0, atI_1, atI_2, atI_3, atI_4, atI_5, ixN_0, ixN_1, atI_last, atI_last1, List.getElem?_cons_zero, List.getElem?_cons_succ, List.set_cons_zero, List.set_cons_succ, List.map_cons, List.map_nil, Option.map_some, Option.map_none, List.cons_append, List.nil_append, List.length_cons, List.length_nil, Nat.reduceAdd, Nat.reduceSub, List.replicate_succ, List.replicate_zero, dLt, dLe, dGt, dGe, lim, Nat.reduceLeDiff, Int.reduceNeg, Bool.and_self, Bool.true_and, Bool.false_and, Bool.and_true, Bool.and_false, Bool.not_true, Bool.not_false])
local macro_rules | `(tactic| walk_at "gwh") => `(tactic| simp (disch := first | omega | (simp only [List.length_cons, List.length_nil, lim]; omega)) only [dMul_b, ev_C, ev_V, ev_V1, ev_V2, lk_dat, lk_tmp, lk_bor, lkB1, lkB2, so_dat, so_tmp, so_bor, toD1, toD2, toD3, op1, op2, ev_Bin, bin1_ok, bin2_ok, bin3_ok, ev_Un, un1_ok, un2_ok, aO_nil, aO_cons, aO1_ok, aO2_ok, lA_nil, lA_cons, lA_ok, ev_B, eB1_ok, eB2_ok, sto_dat, sto_tmp, sto_bor, stoB_ok, aS_nil, aS_cons, aS1_ok, aS2_ok, aS3_ok, ev_Tup, ev_Lst, tup1_ok, lst1_ok, ev_Call, call1_ok, back_dat, back_tmp, back_exc, ev_CallB, callB0_ok, callB1_ok, callB2_ok, callB3_dat, callB3_tmp, ev_Sl, sl1_ok, sl2_ok, sl3_ok, sl4_ok, gSl_t, gSl_l, ev_pNo, ev_pInt, pI1_ok, ev_If, if1_t, if1_f, ev_toB, toB1_ok, ev_And, ev_Or, ev_Not, and1_t, and1_f, or1_t, or1_f, not1_ok, ev_tAnd, ev_tOr, ev_tNot, tand1_t, tand1_f, tor1_t, tor1_f, tnot1_ok, ev_tYes, ev_Chain, ch1_ok, ch2_ok, ch3_t, ch3_f, ch4_ok, ev_Chain3, d31_ok, d32_ok, d33_t, d33_f, d34_ok, d35_t, d35_f, d36_ok, ev_iZipM, izm1_ok, ev_sSkip, ev_sBreak, ev_sRetN, ev_sSeq, then_nx, then_rt, then_bk, then_exc, keep_dat, keep_tmp, keep_bor, keepB_ok, slot_dat, slot_tmp, ev_sSet, set1_ok, set1_exc, set2_ok, ev_sSet2, s21_ok, s22_ok, s23_ok, s24_ok, ev_sSet3, s31_ok, s32_ok, s33_ok, ev_sAsg, asg1_ok, asg2_ok, asg3_ok, b_Name, b_Tup, b_Cons, bc1_ok, b_Nil, ev_sIf, sif1_t, sif1_f, ev_sRet, ret1_dat, ret1_tmp, ret1_exc, ret1_bor, retB_ok, ev_sDrop, drop1_ok, drop1_exc, ev_sApp, app0_ok, app1_ok, app2_ok, app3_ok, ev_sSetIx, six1_ok, six2_ok, six3_ok, six4_ok, six5_ok, six6_ok, ev_sFor, for1_ok, ev_sForO, forO1_ok, ev_oCall, oc1_ok, oc2_ok, ev_iSeq, iseq1_ok, iseq2_l, iseq2_t, ev_iRange1, ev_iRange2, ir1_ok, ir2_ok, ien1_t, ev_eListG, elg1_ok, elg2_ok, ev_eListR, elr1_ok, dIn_l, dNotIn_l, ev_eDict1, ed1_ok, ed2_ok, ev_eGet2, gt1_ok, gt2_ok, gt3_ok, gt4_ok, ev_sPutD, pu1_ok, pu2_ok, pu3_ok, pu4_ok, pu5_ok, ev_eMaxV, mv1_1, mv1_2, ev_iEnum, ien1_l, ev_iZip, iz1_t, iz1_l, ev_Comp, comp1_ok, comp2_ok, wipe_nil, wipe_cons, ev_fn, fin1_rt, fin1_nx, fin1_exc, fin_dat, fin_tmp, finB_dat, finB_tmp, finB_ok, dAdd_i, dAdd_t, dAdd_l, dSub_i, dMul_1, dMul_2, dMul_t, dMul_t1, dPow_18, dPow_12, dPow_6, dPow_11, dDiv_i, dMod_i, dB_i, dNeg_i, gInt_i, gInt_b, gLen_l, gLen_t, gMin2_i, gMax2_i, gList_l, gList_t, gTuple_l, gTuple_t, gSum_i, gSum_t, gAll_b, gMinL_i, gMaxL_i, dIsN_n, dNotN_n, dIsB_b, dNotB_b, dIx_l, dIx_t, gIsi_ii, gIsi_ib, gIsi_tt, gIsi_ll, dEq_ok, dNe_ok, atI_0, atI_1, atI_2, atI_3, atI_4, atI_5, ixN_0, ixN_1, atI_last, atI_last1, List.getElem?_cons_zero, List.getElem?_cons_succ, List.set_cons_zero, List.set_cons_succ, List.map_cons, List.map_nil, Option.map_some, Option.map_none, List.cons_append, List.nil_append, List.length_cons, List.length_nil, Nat.reduceAdd, Nat.reduceSub, List.replicate_succ, List.replicate_zero, dLt, dLe, dGt, dGe, lim, Nat.reduceLeDiff, Int.reduceNeg, Bool.and_self, Bool.true_and, Bool.false_and, Bool.and_true, Bool.and_false, Bool.not_true, Bool.not_false, *])

theorem far_loop (many : Int) : ∀ (f fuel : Nat) (o : O) (a m : Int), f < fuel → BagOk o → 0 ≤ a → 0 ≤ m → m < 1000 ^ f →
    ∃ o' a', BagOk o' ∧ 0 ≤ a' ∧ whileS t_law_far_draw_2 l_law_far_draw_1 fuel [.own o, .dat (.int many), .dat (.int a), .dat (.int m)] = .nx [.own o', .dat (.int many), .dat (.int a'), .dat (.int 0)]
  | f, 0, o, a, m, hf, _, _, _, _ => absurd hf (by omega)
  | f, fuel + 1, o, a, m, hf, ho, ha, hm, hl => by
    have ht : t_law_far_draw_2 [.own o, .dat (.int many), .dat (.int a), .dat (.int m)] = .ok (decide (m > 0)) [.own o, .dat (.int many), .dat (.int a), .dat (.int m)] := by
      unfold t_law_far_draw_2
      walk_at "gw"
    by_cases c : m > 0
    · cases f with
      | zero => exact absurd hl (by simp; omega)
      | succ f =>
      obtain ⟨r, o', r0, r1, ho', hr⟩ := take_ok ho (show (0 : Int) < 1000 by omega)
      have hb : l_law_far_draw_1 [.own o, .dat (.int many), .dat (.int a), .dat (.int m)] = .nx [.own o', .dat (.int many), .dat (.int (1000 * a + r)), .dat (.int (m / 1000))] := by
        unfold l_law_far_draw_1
        walk_at "gw"
        rw [hr]
        walk_at "gw"
      have hl2 : m / 1000 < 1000 ^ f := by
        rw [Int.pow_succ] at hl
        omega
      obtain ⟨o2, a2, q1, q2, q3⟩ := far_loop many f fuel o' (1000 * a + r) (m / 1000) (by omega) ho' (by omega) (by omega) hl2
      refine ⟨o2, a2, q1, q2, ?_⟩
      unfold whileS
      rw [ht, decide_eq_true c]
      simp only [hb]
      exact q3
    · have : m = 0 := by omega
      subst this
      refine ⟨o, a, ho, ha, ?_⟩
      unfold whileS
      rw [ht, decide_eq_false c]
theorem far_draw_ok {o : O} (h : BagOk o) {many : Int} (h1 : 0 < many) (h2 : many ≤ 1000000000000) : ∃ v o', 0 ≤ v ∧ v < many ∧ BagOk o' ∧ s_law_far_draw [.own o, .dat (.int many)] = .ok (.dat (.int v)) (some o') := by
  unfold s_law_far_draw b_law_far_draw
  walk_at "gw"
  obtain ⟨o2, a, q1, q2, q3⟩ := far_loop many 5 1000000 o 0 many (by omega) h (by omega) (by omega) (by omega)
  unfold sWhile
  rw [q3]
  obtain ⟨r, o', r0, r1, ho', hr⟩ := take_ok q1 (show (0 : Int) < 4 by omega)
  walk_at "gw"
  rw [hr]
  walk_at "gw"
  obtain ⟨v, hv, e⟩ := pick_ok (ns := [a % many, 0, many - 1, a % many]) r0 (by simpa using r1)
  simp only [List.map_cons, List.map_nil] at e
  rw [e]
  have m0 := Int.emod_nonneg a (show many ≠ 0 by omega)
  have m1 := Int.emod_lt_of_pos a h1
  refine ⟨v, o', ?_, ?_, ho', by walk_at "gw"⟩
  · simp at hv; omega
  · simp at hv; omega
end GW

set_option Elab.async false
set_option linter.all false
set_option maxRecDepth 100000
namespace GW
open PySem L2
local macro_rules | `(tactic| walk_at "gw") => `(tactic| simp (disch := first | omega | (simp only [List.length_cons, List.length_nil, lim]; omega)) only [dMul_b, ev_C, ev_V, ev_V1, ev_V2, lk_dat, lk_tmp, lk_bor, lkB1, lkB2, so_dat, so_tmp, so_bor, toD1, toD2, toD3, op1, op2, ev_Bin, bin1_ok, bin2_ok, bin3_ok, ev_Un, un1_ok, un2_ok, aO_nil, aO_cons, aO1_ok, aO2_ok, lA_nil, lA_cons, lA_ok, ev_B, eB1_ok, eB2_ok, sto_dat, sto_tmp, sto_bor, stoB_ok, aS_nil, aS_cons, aS1_ok, aS2_ok, aS3_ok, ev_Tup, ev_Lst, tup1_ok, lst1_ok, ev_Call, call1_ok, back_dat, back_tmp, back_exc, ev_CallB, callB0_ok, callB1_ok, callB2_ok, callB3_dat, callB3_tmp, ev_Sl, sl1_ok, sl2_ok, sl3_ok, sl4_ok, gSl_t, gSl_l, ev_pNo, ev_pInt, pI1_ok, ev_If, if1_t, if1_f, ev_toB, toB1_ok, ev_And, ev_Or, ev_Not, and1_t, and1_f, or1_t, or1_f, not1_ok, ev_tAnd, ev_tOr, ev_tNot, tand1_t, tand1_f, tor1_t, tor1_f, tnot1_ok, ev_tYes, ev_Chain, ch1_ok, ch2_ok, ch3_t, ch3_f, ch4_ok, ev_Chain3, d31_ok, d32_ok, d33_t, d33_f, d34_ok, d35_t, d35_f, d36_ok, ev_iZipM, izm1_ok, ev_sSkip, ev_sBreak, ev_sRetN, ev_sSeq, then_nx, then_rt, then_bk, then_exc, keep_dat, keep_tmp, keep_bor, keepB_ok, slot_dat, slot_tmp, ev_sSet, set1_ok, set1_exc, set2_ok, ev_sSet2, s21_ok, s22_ok, s23_ok, s24_ok, ev_sSet3, s31_ok, s32_ok, s33_ok, ev_sAsg, asg1_ok, asg2_ok, asg3_ok, b_Name, b_Tup, b_Cons, bc1_ok, b_Nil, ev_sIf, sif1_t, sif1_f, ev_sRet, ret1_dat, ret1_tmp, ret1_exc, ret1_bor, retB_ok, ev_sDrop, drop1_ok, drop1_exc, ev_sApp, app0_ok, app1_ok, app2_ok, app3_ok, ev_sSetIx, six1_ok, six2_ok, six3_ok, six4_ok, six5_ok, six6_ok, ev_sFor, for1_ok, ev_sForO, forO1_ok, ev_oCall, oc1_ok, oc2_ok, ev_iSeq, iseq1_ok, iseq2_l, iseq2_t, ev_iRange1, ev_iRange2, ir1_ok, ir2_ok, ien1_t, ev_eListG, elg1_ok, elg2_ok, ev_eListR, elr1_ok, dIn_l, dNotIn_l, ev_eDict1, ed1_ok, ed2_ok, ev_eGet2, gt1_ok, gt2_ok, gt3_ok, gt4_ok, ev_sPutD, pu1_ok, pu2_ok, pu3_ok, pu4_ok, pu5_ok, ev_eMaxV, mv1_1, mv1_2, ev_iEnum, ien1_l, ev_iZip, iz1_t, iz1_l, ev_Comp, comp1_ok, comp2_ok, wipe_nil, wipe_cons, ev_fn, fin1_rt, fin1_nx, fin1_exc, fin_dat, fin_tmp, finB_dat, finB_tmp, finB_ok, dAdd_i, dAdd_t, dAdd_l, dSub_i, dMul_1, dMul_2, dMul_t, dMul_t1, dPow_18, dPow_12, dPow_6, dPow_11, dDiv_i, dMod_i, dB_i, dNeg_i, gInt_i, gInt_b, gLen_l, gLen_t, gMin2_i, gMax2_i, gList_l, gList_t, gTuple_l, gTuple_t, gSum_i, gSum_t, gAll_b, gMinL_i, gMaxL_i, dIsN_n, dNotN_n, dIsB_b, dNotB_b, dIx_l, dIx_t, gIsi_ii, gIsi_ib, gIsi_tt, gIsi_ll, dEq_ok, dNe_ok, atI_0, atI_1, atI_2, atI_3, atI_4, atI_5, ixN_0, ixN_1, atI_last, atI_last1, List.getElem?_cons_zero, List.getElem?_cons_succ, List.set_cons_zero, List.set_cons_succ, List.map_cons, List.map_nil, Option.map_some, Option.map_none, List.cons_append, List.nil_append, List.length_cons, List.length_nil, Nat.reduceAdd, Nat.reduceSub, List.replicate_succ, List.replicate_zero, dLt, dLe, dGt, dGe, lim, Nat.reduceLeDiff, Int.reduceNeg, Bool.and_self, Bool.true_and, Bool.false_and, Bool.and_true, Bool.and_false, Bool.not_true, Bool.not_false])
local macro_rules | `(tactic| walk_at "gwh") => `(tactic| simp (disch := first | omega | (simp only [List.length_cons, List.length_nil, lim]; omega)) only [dMul_b, ev_C, ev_V, ev_V1, ev_V2, lk_dat, lk_tmp, lk_bor, lkB1, lkB2, so_dat, so_tmp, so_bor, toD1, toD2, toD3, op1, op2, ev_Bin, bin1_ok, bin2_ok, bin3_ok, ev_Un, un1_ok, un2_ok, aO_nil, aO_cons, aO1_ok, aO2_ok, lA_nil, lA_cons, lA_ok, ev_B, eB1_ok, eB2_ok, sto_dat, sto_tmp, sto_bor, stoB_ok, aS_nil, aS_cons, aS1_ok, aS2_ok, aS3_ok, ev_Tup, ev_Lst, tup1_ok, lst1_ok, ev_Call, call1_ok, back_dat, back_tmp, back_exc, ev_CallB, callB0_ok, callB1_ok, callB2_ok, callB3_dat, callB3_tmp, ev_Sl, sl1_ok, sl2_ok, sl3_ok, sl4_ok, gSl_t, gSl_l, ev_pNo, ev_pInt, pI1_ok, ev_If, if1_t, if1_f, ev_toB, toB1_ok, ev_And, ev_Or, ev_Not, and1_t, and1_f, or1_t, or1_f, not1_ok, ev_tAnd, ev_tOr, ev_tNot, tand1_t, tand1_f, tor1_t, tor1_f, tnot1_ok, ev_tYes, ev_Chain, ch1_ok, ch2_ok, ch3_t, ch3_f, ch4_ok, ev_Chain3, d31_ok, d32_ok, d33_t, d33_f, d34_ok, d35_t, d35_f, d36_ok, ev_iZipM, izm1_ok, ev_sSkip, ev_sBreak, ev_sRetN, ev_sSeq, then_nx, then_rt, then_bk, then_exc, keep_dat, keep_tmp, keep_bor, keepB_ok, slot_dat, slot_tmp, ev_sSet, set1_ok, set1_exc, set2_ok, ev_sSet2, s21_ok, s22_ok, s23_ok, s24_ok, ev_sSet3, s31_ok, s32_ok, s33_ok, ev_sAsg, asg1_ok, asg2_ok, asg3_ok, b_Name, b_Tup, b_Cons, bc1_ok, b_Nil, ev_sIf, sif1_t, sif1_f, ev_sRet, ret1_dat, ret1_tmp, ret1_exc, ret1_bor, retB_ok, ev_sDrop, drop1_ok, drop1_exc, ev_sApp, app0_ok, app1_ok, app2_ok, app3_ok, ev_sSetIx, six1_ok, six2_ok, six3_ok, six4_ok, six5_ok, six6_ok, ev_sFor, for1_ok, ev_sForO, forO1_ok, ev_oCall, oc1_ok, oc2_ok, ev_iSeq, iseq1_ok, iseq2_l, iseq2_t, ev_iRange1, ev_iRange2, ir1_ok, ir2_ok, ien1_t, ev_eListG, elg1_ok, elg2_ok, ev_eListR, elr1_ok, dIn_l, dNotIn_l, ev_eDict1, ed1_ok, ed2_ok, ev_eGet2, gt1_ok, gt2_ok, gt3_ok, gt4_ok, ev_sPutD, pu1_ok, pu2_ok, pu3_ok, pu4_ok, pu5_ok, ev_eMaxV, mv1_1, mv1_2, ev_iEnum, ien1_l, ev_iZip, iz1_t, iz1_l, ev_Comp, comp1_ok, comp2_ok, wipe_nil, wipe_cons, ev_fn, fin1_rt, fin1_nx, fin1_exc, fin_dat, fin_tmp, finB_dat, finB_tmp, finB_ok, dAdd_i, dAdd_t, dAdd_l, dSub_i, dMul_1, dMul_2, dMul_t, dMul_t1, dPow_18, dPow_12, dPow_6, dPow_11, dDiv_i, dMod_i, dB_i, dNeg_i, gInt_i, gInt_b, gLen_l, gLen_t, gMin2_i, gMax2_i, gList_l, gList_t, gTuple_l, gTuple_t, gSum_i, gSum_t, gAll_b, gMinL_i, gMaxL_i, dIsN_n, dNotN_n, dIsB_b, dNotB_b, dIx_l, dIx_t, gIsi_ii, gIsi_ib, gIsi_tt, gIsi_ll, dEq_ok, dNe_ok, atI_0, atI_1, atI_2, atI_3, atI_4, atI_5, ixN_0, ixN_1, atI_last, atI_last1, List.getElem?_cons_zero, List.getElem?_cons_succ, List.set_cons_zero, List.set_cons_succ, List.map_cons, List.map_nil, Option.map_some, Option.map_none, List.cons_append, List.nil_append, List.length_cons, List.length_nil, Nat.reduceAdd, Nat.reduceSub, List.replicate_succ, List.replicate_zero, dLt, dLe, dGt, dGe, lim, Nat.reduceLeDiff, Int.reduceNeg, Bool.and_self, Bool.true_and, Bool.false_and, Bool.and_true, Bool.and_false, Bool.not_true, Bool.not_false, *])

/-! ### the least time, as a function -/
def Emin (ws : List Int) (p : Int) (n : Nat) : Nat → Int
  | 0 => Tm ws p n 1
  | k + 1 => min (Emin ws p n k) (Tm ws p n (k + 1))
def En (ws : List Int) (p : Int) (n : Nat) : Int := Emin ws p n n
section
variable {ws : List Int} {p : Int}
theorem Emin_le (n : Nat) : ∀ j k : Nat, 1 ≤ k → k ≤ j → Emin ws p n j ≤ Tm ws p n k
  | 0, k, a, b => by omega
  | j + 1, k, a, b => by
    by_cases c : k = j + 1
    · subst c
      exact Int.min_le_right _ _
    · exact Int.le_trans (Int.min_le_left _ _) (Emin_le n j k a (by omega))
theorem Emin_has (n : Nat) (hn : 1 ≤ n) : ∀ j : Nat, j ≤ n → ∃ k : Nat, 1 ≤ k ∧ k ≤ n ∧ Tm ws p n k = Emin ws p n j
  | 0, _ => ⟨1, by omega, hn, rfl⟩
  | j + 1, hj => by
    obtain ⟨k, a, b, c⟩ := Emin_has n hn j (by omega)
    show ∃ k : Nat, 1 ≤ k ∧ k ≤ n ∧ Tm ws p n k = min (Emin ws p n j) (Tm ws p n (j + 1))
    by_cases d : Emin ws p n j ≤ Tm ws p n (j + 1)
    · rw [Int.min_eq_left d]
      exact ⟨k, a, b, c⟩
    · rw [Int.min_eq_right (by omega)]
      exact ⟨j + 1, by omega, hj, rfl⟩
theorem En_least {n : Nat} (hn : 1 ≤ n) : Least ws p n (En ws p n) := ⟨Emin_has n hn n (Nat.le_refl _), fun k a b => Emin_le n n k a b⟩
theorem Least.is {n : Nat} (hn : 1 ≤ n) {e : Int} (h : Least ws p n e) : e = En ws p n := h.one (En_least hn)
theorem En_one : En ws p 1 = 0 := by
  show min (Tm ws p 1 1) (Tm ws p 1 1) = 0
  have : Tm ws p 1 1 = 0 := by
    unfold Tm
    simp [Sv]
  rw [this]
  rfl
theorem En_step (h : RuleOk ws p) {n : Nat} (hn : 1 ≤ n) : En ws p n + 1 ≤ En ws p (n + 1) ∧ En ws p (n + 1) ≤ En ws p n + wv ws ws.length := by
  have := Least.step h hn (En_least hn) (En_least (show 1 ≤ n + 1 by omega))
  omega
theorem En_up (h : RuleOk ws p) {n : Nat} (hn : 1 ≤ n) : ∀ d : Nat, En ws p n + (d : Int) ≤ En ws p (n + d)
  | 0 => by simp
  | d + 1 => by
    have := En_up h hn d
    have := (En_step h (n := n + d) (by omega)).1
    rw [show n + (d + 1) = n + d + 1 by omega]
    omega
theorem En_low (h : RuleOk ws p) {n : Nat} (hn : 1 ≤ n) : (n : Int) - 1 ≤ En ws p n := by
  have := En_up h (n := 1) (by omega) (n - 1)
  rw [En_one, show 1 + (n - 1) = n by omega] at this
  omega
theorem En_hi (h : RuleOk ws p) : ∀ {n : Nat}, 1 ≤ n → En ws p n ≤ 100 * (n : Int)
  | 0, a => by omega
  | 1, _ => by rw [En_one]; omega
  | n + 2, _ => by
    have a := En_hi h (n := n + 1) (by omega)
    have b := (En_step h (n := n + 1) (by omega)).2
    have c := (h.wv1 h.one).2.1
    rw [show n + 1 + 1 = n + 2 by omega] at b
    push_cast at *
    omega
/-- the time of one series more -/
theorem Tm_more {n k : Nat} (h1 : 1 ≤ k) (h2 : k + 1 ≤ n) : Tm ws p n (k + 1) = Sv ws (n / (k + 1)) + p + Tm ws p (n - n / (k + 1)) k := by
  have e := Nat.div_add_mod n (k + 1)
  have r := Nat.mod_lt n (show 0 < k + 1 by omega)
  unfold Tm
  generalize n / (k + 1) = q at *
  generalize n % (k + 1) = s at *
  have e2 : n - q = k * q + s := by
    rw [← e, Nat.succ_mul]
    omega
  rw [e2]
  by_cases c : s < k
  · rw [Nat.mul_add_mod, Nat.mod_eq_of_lt c, Nat.mul_add_div (by omega), Nat.div_eq_of_lt c]
    simp only [Nat.add_zero]
    push_cast
    rw [show (k : Int) + 1 - (s : Int) = 1 + ((k : Int) - s) by omega, show (k : Int) + 1 - 1 = 1 + ((k : Int) - 1) by omega, Int.add_mul 1 ((k : Int) - s), Int.add_mul 1 ((k : Int) - 1) p, Int.one_mul, Int.one_mul]
    omega
  · have : s = k := by omega
    subst this
    rw [show s * q + s = s * (q + 1) by rw [Nat.mul_succ], Nat.mul_mod_right, Nat.mul_div_cancel_left _ (by omega)]
    push_cast
    rw [show (s : Int) + 1 - (s : Int) = 1 by omega, show (s : Int) + 1 - 1 = 1 + ((s : Int) - 1) by omega, Int.add_mul, Int.one_mul, Int.one_mul, Int.sub_zero, Int.zero_mul]
    omega
theorem En_series (hn : 1 ≤ n) : En ws p n ≤ Sv ws n := by
  have := (En_least (ws := ws) (p := p) hn).2 1 (by omega) hn
  have e : Tm ws p n 1 = Sv ws n := by
    unfold Tm
    rw [Nat.mod_one, Nat.div_one]
    simp
  omega
/-- the least time by the last series -/
theorem En_rec (h : RuleOk ws p) {n : Nat} (hn : 1 ≤ n) : minL (Sv ws n :: (List.range (n - 1)).map fun i : Nat => En ws p (n - (i + 1)) + p + Sv ws (i + 1)) = En ws p n := by
  obtain ⟨m1, m2⟩ := minL_spec (Sv ws n :: (List.range (n - 1)).map fun i : Nat => En ws p (n - (i + 1)) + p + Sv ws (i + 1)) (by simp)
  have le : En ws p n ≤ minL (Sv ws n :: (List.range (n - 1)).map fun i : Nat => En ws p (n - (i + 1)) + p + Sv ws (i + 1)) := by
    rcases List.mem_cons.mp m1 with e | e
    · rw [e]
      exact En_series hn
    · obtain ⟨i, hi, e⟩ := List.mem_map.mp e
      have hi' := List.mem_range.mp hi
      rw [← e]
      have pa := Least.parts h (m := n - (i + 1)) (n := i + 1) (by omega) (by omega) (En_least (by omega)) (En_least (by omega)) (by rw [show n - (i + 1) + (i + 1) = n by omega]; exact En_least hn)
      have := En_series (ws := ws) (p := p) (n := i + 1) (by omega)
      omega
  have ge : minL (Sv ws n :: (List.range (n - 1)).map fun i : Nat => En ws p (n - (i + 1)) + p + Sv ws (i + 1)) ≤ En ws p n := by
    obtain ⟨⟨k, a, b, c⟩, _⟩ := En_least (ws := ws) (p := p) hn
    by_cases k1 : k = 1
    · subst k1
      refine m2 _ (List.mem_cons.mpr (.inl ?_))
      rw [← c]
      unfold Tm
      rw [Nat.mod_one, Nat.div_one]
      simp
    · obtain ⟨j, rfl⟩ : ∃ j, k = j + 1 := ⟨k - 1, by omega⟩
      have q := q_one (n := n) (k := j + 1) (by omega) b
      have t := Tm_more (ws := ws) (p := p) (n := n) (k := j) (by omega) b
      have e := Nat.div_add_mod n (j + 1)
      have q2 : n / (j + 1) + j ≤ n := by
        have : n / (j + 1) + j ≤ (j + 1) * (n / (j + 1)) := by
          obtain ⟨q', eq'⟩ : ∃ q' : Nat, n / (j + 1) = q' + 1 := ⟨n / (j + 1) - 1, by omega⟩
          rw [eq', Nat.succ_mul, Nat.mul_succ]
          have : 0 ≤ j * q' := Nat.zero_le _
          omega
        omega
      have q3 : j ≤ n - n / (j + 1) := by omega
      have l := (En_least (ws := ws) (p := p) (n := n - n / (j + 1)) (by omega)).2 j (by omega) q3
      have m := m2 (En ws p (n - (n / (j + 1) - 1 + 1)) + p + Sv ws (n / (j + 1) - 1 + 1)) (List.mem_cons_of_mem _ (List.mem_map.mpr ⟨n / (j + 1) - 1, List.mem_range.mpr (by omega), rfl⟩))
      rw [show n / (j + 1) - 1 + 1 = n / (j + 1) by omega] at m
      omega
  omega
/-- the largest number of tries up to the time T -/
def Until (ws : List Int) (p : Int) (T : Int) (m : Nat) : Prop := 1 ≤ m ∧ En ws p m ≤ T ∧ T < En ws p (m + 1)
theorem En_mono (h : RuleOk ws p) {m n : Nat} (hm : 1 ≤ m) (hn : m ≤ n) : En ws p m ≤ En ws p n := by
  have := En_up h hm (n - m)
  rw [show m + (n - m) = n by omega] at this
  omega
theorem Until.iff (h : RuleOk ws p) {T : Int} {m : Nat} (u : Until ws p T m) {n : Nat} (hn : 1 ≤ n) : En ws p n ≤ T ↔ n ≤ m := by
  obtain ⟨a, b, c⟩ := u
  constructor
  · intro e
    by_cases d : n ≤ m
    · exact d
    · have := En_mono h (show 1 ≤ m + 1 by omega) (show m + 1 ≤ n by omega)
      omega
  · intro e
    have := En_mono h hn e
    omega
theorem Until.one (h : RuleOk ws p) {T : Int} {m n : Nat} (u : Until ws p T m) (v : Until ws p T n) : m = n := by
  have a := (u.iff h v.1).mp v.2.1
  have b := (v.iff h u.1).mp u.2.1
  omega
end
end GW

set_option Elab.async false
set_option linter.all false
set_option maxRecDepth 100000
namespace GW
open PySem L2
local macro_rules | `(tactic| walk_at "gw") => `(tactic| simp (disch := first | omega | (simp only [List.length_cons, List.length_nil, lim]; omega)) only [dMul_b, ev_C, ev_V, ev_V1, ev_V2, lk_dat, lk_tmp, lk_bor, lkB1, lkB2, so_dat, so_tmp, so_bor, toD1, toD2, toD3, op1, op2, ev_Bin, bin1_ok, bin2_ok, bin3_ok, ev_Un, un1_ok, un2_ok, aO_nil, aO_cons, aO1_ok, aO2_ok, lA_nil, lA_cons, lA_ok, ev_B, eB1_ok, eB2_ok, sto_dat, sto_tmp, sto_bor, stoB_ok, aS_nil, aS_cons, aS1_ok, aS2_ok, aS3_ok, ev_Tup, ev_Lst, tup1_ok, lst1_ok, ev_Call, call1_ok, back_dat, back_tmp, back_exc, ev_CallB, callB0_ok, callB1_ok, callB2_ok, callB3_dat, callB3_tmp, ev_Sl, sl1_ok, sl2_ok, sl3_ok, sl4_ok, gSl_t, gSl_l, ev_pNo, ev_pInt, pI1_ok, ev_If, if1_t, if1_f, ev_toB, toB1_ok, ev_And, ev_Or, ev_Not, and1_t, and1_f, or1_t, or1_f, not1_ok, ev_tAnd, ev_tOr, ev_tNot, tand1_t, tand1_f, tor1_t, tor1_f, tnot1_ok, ev_tYes, ev_Chain, ch1_ok, ch2_ok, ch3_t, ch3_f, ch4_ok, ev_Chain3, d31_ok, d32_ok, d33_t, d33_f, d34_ok, d35_t, d35_f, d36_ok, ev_iZipM, izm1_ok, ev_sSkip, ev_sBreak, ev_sRetN, ev_sSeq, then_nx, then_rt, then_bk, then_exc, keep_dat, keep_tmp, keep_bor, keepB_ok, slot_dat, slot_tmp, ev_sSet, set1_ok, set1_exc, set2_ok, ev_sSet2, s21_ok, s22_ok, s23_ok, s24_ok, ev_sSet3, s31_ok, s32_ok, s33_ok, ev_sAsg, asg1_ok, asg2_ok, asg3_ok, b_Name, b_Tup, b_Cons, bc1_ok, b_Nil, ev_sIf, sif1_t, sif1_f, ev_sRet, ret1_dat, ret1_tmp, ret1_exc, ret1_bor, retB_ok, ev_sDrop, drop1_ok, drop1_exc, ev_sApp, app0_ok, app1_ok, app2_ok, app3_ok, ev_sSetIx, six1_ok, six2_ok, six3_ok, six4_ok, six5_ok, six6_ok, ev_sFor, for1_ok, ev_sForO, forO1_ok, ev_oCall, oc1_ok, oc2_ok, ev_iSeq, iseq1_ok, iseq2_l, iseq2_t, ev_iRange1, ev_iRange2, ir1_ok, ir2_ok, ien1_t, ev_eListG, elg1_ok, elg2_ok, ev_eListR, elr1_ok, dIn_l, dNotIn_l, ev_eDict1, ed1_ok, ed2_ok, ev_eGet2, gt1_ok, gt2_ok, gt3_ok, gt4_ok, ev_sPutD, pu1_ok, pu2_ok, pu3_ok, pu4_ok, pu5_ok, ev_eMaxV, mv1_1, mv1_2, ev_iEnum, ien1_l, ev_iZip, iz1_t, iz1_l, ev_Comp, comp1_ok, comp2_ok, wipe_nil, wipe_cons, ev_fn, fin1_rt, fin1_nx, fin1_exc, fin_dat, fin_tmp, finB_dat, finB_tmp, finB_ok, dAdd_i, dAdd_t, dAdd_l, dSub_i, dMul_1, dMul_2, dMul_t, dMul_t1, dPow_18, dPow_12, dPow_6, dPow_11, dDiv_i, dMod_i, dB_i, dNeg_i, gInt_i, gInt_b, gLen_l, gLen_t, gMin2_i, gMax2_i, gList_l, gList_t, gTuple_l, gTuple_t, gSum_i, gSum_t, gAll_b, gMinL_i, gMaxL_i, dIsN_n, dNotN_n, dIsB_b, dNotB_b, dIx_l, dIx_t, gIsi_ii, gIsi_ib, gIsi_tt, gIsi_ll, dEq_ok, dNe_ok, atI_0, atI_1, atI_2, atI_3, atI_4, atI_5, ixN_0, ixN_1, atI_last, atI_last1, List.getElem?_cons_zero, List.getElem?_cons_succ, List.set_cons_zero, List.set_cons_succ, List.map_cons, List.map_nil, Option.map_some, Option.map_none, List.cons_append, List.nil_append, List.length_cons, List.length_nil, Nat.reduceAdd, Nat.reduceSub, List.replicate_succ, List.replicate_zero, dLt, dLe, dGt, dGe, lim, Nat.reduceLeDiff, Int.reduceNeg, Bool.and_self, Bool.true_and, Bool.false_and, Bool.and_true, Bool.and_false, Bool.not_true, Bool.not_false])
local macro_rules | `(tactic| walk_at "gwh") => `(tactic| simp (disch := first | omega | (simp only [List.length_cons, List.length_nil, lim]; omega)) only [dMul_b, ev_C, ev_V, ev_V1, ev_V2, lk_dat, lk_tmp, lk_bor, lkB1, lkB2, so_dat, so_tmp, so_bor, toD1, toD2, toD3, op1, op2, ev_Bin, bin1_ok, bin2_ok, bin3_ok, ev_Un, un1_ok, un2_ok, aO_nil, aO_cons, aO1_ok, aO2_ok, lA_nil, lA_cons, lA_ok, ev_B, eB1_ok, eB2_ok, sto_dat, sto_tmp, sto_bor, stoB_ok, aS_nil, aS_cons, aS1_ok, aS2_ok, aS3_ok, ev_Tup, ev_Lst, tup1_ok, lst1_ok, ev_Call, call1_ok, back_dat, back_tmp, back_exc, ev_CallB, callB0_ok, callB1_ok, callB2_ok, callB3_dat, callB3_tmp, ev_Sl, sl1_ok, sl2_ok, sl3_ok, sl4_ok, gSl_t, gSl_l, ev_pNo, ev_pInt, pI1_ok, ev_If, if1_t, if1_f, ev_toB, toB1_ok, ev_And, ev_Or, ev_Not, and1_t, and1_f, or1_t, or1_f, not1_ok, ev_tAnd, ev_tOr, ev_tNot, tand1_t, tand1_f, tor1_t, tor1_f, tnot1_ok, ev_tYes, ev_Chain, ch1_ok, ch2_ok, ch3_t, ch3_f, ch4_ok, ev_Chain3, d31_ok, d32_ok, d33_t, d33_f, d34_ok, d35_t, d35_f, d36_ok, ev_iZipM, izm1_ok, ev_sSkip, ev_sBreak, ev_sRetN, ev_sSeq, then_nx, then_rt, then_bk, then_exc, keep_dat, keep_tmp, keep_bor, keepB_ok, slot_dat, slot_tmp, ev_sSet, set1_ok, set1_exc, set2_ok, ev_sSet2, s21_ok, s22_ok, s23_ok, s24_ok, ev_sSet3, s31_ok, s32_ok, s33_ok, ev_sAsg, asg1_ok, asg2_ok, asg3_ok, b_Name, b_Tup, b_Cons, bc1_ok, b_Nil, ev_sIf, sif1_t, sif1_f, ev_sRet, ret1_dat, ret1_tmp, ret1_exc, ret1_bor, retB_ok, ev_sDrop, drop1_ok, drop1_exc, ev_sApp, app0_ok, app1_ok, app2_ok, app3_ok, ev_sSetIx, six1_ok, six2_ok, six3_ok, six4_ok, six5_ok, six6_ok, ev_sFor, for1_ok, ev_sForO, forO1_ok, ev_oCall, oc1_ok, oc2_ok, ev_iSeq, iseq1_ok, iseq2_l, iseq2_t, ev_iRange1, ev_iRange2, ir1_ok, ir2_ok, ien1_t, ev_eListG, elg1_ok, elg2_ok, ev_eListR, elr1_ok, dIn_l, dNotIn_l, ev_eDict1, ed1_ok, ed2_ok, ev_eGet2, gt1_ok, gt2_ok, gt3_ok, gt4_ok, ev_sPutD, pu1_ok, pu2_ok, pu3_ok, pu4_ok, pu5_ok, ev_eMaxV, mv1_1, mv1_2, ev_iEnum, ien1_l, ev_iZip, iz1_t, iz1_l, ev_Comp, comp1_ok, comp2_ok, wipe_nil, wipe_cons, ev_fn, fin1_rt, fin1_nx, fin1_exc, fin_dat, fin_tmp, finB_dat, finB_tmp, finB_ok, dAdd_i, dAdd_t, dAdd_l, dSub_i, dMul_1, dMul_2, dMul_t, dMul_t1, dPow_18, dPow_12, dPow_6, dPow_11, dDiv_i, dMod_i, dB_i, dNeg_i, gInt_i, gInt_b, gLen_l, gLen_t, gMin2_i, gMax2_i, gList_l, gList_t, gTuple_l, gTuple_t, gSum_i, gSum_t, gAll_b, gMinL_i, gMaxL_i, dIsN_n, dNotN_n, dIsB_b, dNotB_b, dIx_l, dIx_t, gIsi_ii, gIsi_ib, gIsi_tt, gIsi_ll, dEq_ok, dNe_ok, atI_0, atI_1, atI_2, atI_3, atI_4, atI_5, ixN_0, ixN_1, atI_last, atI_last1, List.getElem?_cons_zero, List.getElem?_cons_succ, List.set_cons_zero, List.set_cons_succ, List.map_cons, List.map_nil, Option.map_some, Option.map_none, List.cons_append, List.nil_append, List.length_cons, List.length_nil, Nat.reduceAdd, Nat.reduceSub, List.replicate_succ, List.replicate_zero, dLt, dLe, dGt, dGe, lim, Nat.reduceLeDiff, Int.reduceNeg, Bool.and_self, Bool.true_and, Bool.false_and, Bool.and_true, Bool.and_false, Bool.not_true, Bool.not_false, *])

theorem while_no {tt : Tx} {b : Sx} {n : Nat} {ev e2 : List Sl} (h : tt ev = .ok false e2) : whileS tt b (n + 1) ev = .nx e2 := by
  unfold whileS
  rw [h]
theorem while_yes {tt : Tx} {b : Sx} {n : Nat} {ev e1 e2 : List Sl} (h : tt ev = .ok true e1) (hb : b e1 = .nx e2) : whileS tt b (n + 1) ev = whileS tt b n e2 := by
  rw [whileS]
  rw [h]
  simp only [hb]
section
variable {ws : List Int} {p : Int}
theorem need_time_ok {t lo hi : Int} (h1 : lo ≤ t) (h2 : t ≤ hi) : s_need_time [.dat (.int t), .dat (.int lo), .dat (.int hi)] = .ok (.dat .non) none := by
  have i := is_integer_ok t lo hi
  rw [decide_eq_true h1, decide_eq_true h2] at i
  unfold s_need_time b_need_time
  walk_at "gw"
  rw [i]
  walk_at "gw"
theorem earliest_of_is (h : RuleOk ws p) {n : Nat} (h1 : 1 ≤ n) (h3 : n ≤ 10000000000000) : s_earliest_of [.dat (ruleD ws p), .dat (.int n)] = .ok (.dat (.int (En ws p n))) none := by
  obtain ⟨e, a, b⟩ := earliest_of_ok h h1 h3
  rw [b.is h1] at a
  exact a
theorem earliest_is (h : RuleOk ws p) {n : Nat} (h1 : 1 ≤ n) (h3 : n ≤ 1000000000000) : s_earliest [.dat (ruleD ws p), .dat (.int n)] = .ok (.dat (.int (En ws p n))) none := by
  obtain ⟨e, a, b⟩ := earliest_ok h h1 h3
  rw [b.is h1] at a
  exact a
theorem mu_loop (h : RuleOk ws p) {T : Int} {B : Nat} (hE : ∀ n : Nat, 1 ≤ n → n ≤ B → s_earliest_of [.dat (ruleD ws p), .dat (.int n)] = .ok (.dat (.int (En ws p n))) none) : ∀ (fuel f lo hi : Nat) (z : Sl), f < fuel → 1 ≤ lo → lo < hi → hi ≤ B → hi - lo ≤ 2 ^ f → En ws p lo ≤ T → T < En ws p hi →
    ∃ (m : Nat) (y3 y4 : Sl), Until ws p T m ∧ m < hi ∧ whileS t_most_until_2 l_most_until_1 fuel [.dat (ruleD ws p), .dat (.int T), .dat (.int (lo : Int)), .dat (.int (hi : Int)), z] = .nx [.dat (ruleD ws p), .dat (.int T), .dat (.int (m : Int)), y3, y4] := by
  intro fuel
  induction fuel with
  | zero => intro f lo hi z hf; exact absurd hf (by omega)
  | succ fuel ih =>
    intro f lo hi z hf h1 h2 h3 h4 e1 e2
    have ht : t_most_until_2 [.dat (ruleD ws p), .dat (.int T), .dat (.int (lo : Int)), .dat (.int (hi : Int)), z] = .ok (decide (1 < (hi : Int) - lo)) [.dat (ruleD ws p), .dat (.int T), .dat (.int (lo : Int)), .dat (.int (hi : Int)), z] := by
      unfold t_most_until_2
      walk_at "gw"
    by_cases c : 1 < hi - lo
    · cases f with
      | zero => simp at h4; omega
      | succ f =>
      have h4' : hi - lo ≤ 2 * 2 ^ f := by rw [Nat.pow_succ] at h4; omega
      obtain ⟨mid, hm⟩ : ∃ mid : Nat, (lo + hi) / 2 = mid := ⟨_, rfl⟩
      have em : ((lo : Int) + hi) / 2 = (mid : Int) := by omega
      have m1 : 1 ≤ mid := by omega
      have m2 : lo < mid := by omega
      have m3 : mid < hi := by omega
      have eo := hE mid m1 (by omega)
      by_cases d : En ws p mid ≤ T
      · have hb : l_most_until_1 [.dat (ruleD ws p), .dat (.int T), .dat (.int (lo : Int)), .dat (.int (hi : Int)), z] = .nx [.dat (ruleD ws p), .dat (.int T), .dat (.int (mid : Int)), .dat (.int (hi : Int)), .dat (.int (mid : Int))] := by
          unfold l_most_until_1
          walk_at "gw"
          rw [em]
          try walk_at "gw"
          rw [eo]
          walk_at "gw"
          simp only [decide_eq_true d]
          walk_at "gw"
        obtain ⟨m, y3, y4, u1, u2, u3⟩ := ih f mid hi (.dat (.int (mid : Int))) (by omega) m1 m3 h3 (by omega) d e2
        refine ⟨m, y3, y4, u1, u2, ?_⟩
        rw [decide_eq_true (show 1 < (hi : Int) - lo by omega)] at ht
        exact (while_yes ht hb).trans u3
      · have hb : l_most_until_1 [.dat (ruleD ws p), .dat (.int T), .dat (.int (lo : Int)), .dat (.int (hi : Int)), z] = .nx [.dat (ruleD ws p), .dat (.int T), .dat (.int (lo : Int)), .dat (.int (mid : Int)), .dat (.int (mid : Int))] := by
          unfold l_most_until_1
          walk_at "gw"
          rw [em]
          try walk_at "gw"
          rw [eo]
          walk_at "gw"
          simp only [decide_eq_false d]
          walk_at "gw"
        obtain ⟨m, y3, y4, u1, u2, u3⟩ := ih f lo mid (.dat (.int (mid : Int))) (by omega) h1 m2 (by omega) (by omega) e1 (by omega)
        refine ⟨m, y3, y4, u1, by omega, ?_⟩
        rw [decide_eq_true (show 1 < (hi : Int) - lo by omega)] at ht
        exact (while_yes ht hb).trans u3
    · have : hi = lo + 1 := by omega
      subst this
      refine ⟨lo, .dat (.int ((lo + 1 : Nat) : Int)), z, ⟨h1, e1, e2⟩, by omega, ?_⟩
      rw [decide_eq_false (show ¬ 1 < ((lo + 1 : Nat) : Int) - lo by omega)] at ht
      exact while_no ht
theorem most_until_ok (h : RuleOk ws p) {T : Int} (h1 : 0 ≤ T) (h2 : T ≤ 1000000000000) : ∃ m : Nat, s_most_until [.dat (ruleD ws p), .dat (.int T)] = .ok (.dat (.int (m : Int))) none ∧ Until ws p T m ∧ (m : Int) ≤ T + 1 := by
  have n1 := need_rule_ok h
  have n2 := need_time_ok h1 h2
  obtain ⟨hi, eh⟩ : ∃ hi : Nat, T + 2 = (hi : Int) := ⟨(T + 2).toNat, by omega⟩
  have el := En_low h (n := hi) (by omega)
  obtain ⟨m, y3, y4, u1, u2, u3⟩ := mu_loop h (T := T) (B := 10000000000000) (fun n a b => earliest_of_is h a b) 1000000 60 1 hi .un (by omega) (by omega) (by omega) (by omega) (by omega) (by rw [En_one]; exact h1) (by omega)
  refine ⟨m, ?_, u1, by omega⟩
  unfold s_most_until b_most_until
  walk_at "gw"
  rw [n1]
  walk_at "gw"
  rw [n2]
  walk_at "gw"
  rw [eh]
  unfold sWhile
  rw [show ((1 : Nat) : Int) = 1 from rfl] at u3
  rw [u3]
  walk_at "gw"
theorem most_until_is (h : RuleOk ws p) {T : Int} (h1 : 0 ≤ T) (h2 : T ≤ 1000000000000) {m : Nat} (u : Until ws p T m) : s_most_until [.dat (ruleD ws p), .dat (.int T)] = .ok (.dat (.int (m : Int))) none := by
  obtain ⟨k, a, b, _⟩ := most_until_ok h h1 h2
  rw [b.one h u] at a
  exact a
theorem most_until_bad (h : RuleOk ws p) : ∀ d ∈ ([.int (-1), .int 1000000000001, .non, .bl true, .str "1"] : List D), s_most_until [.dat (ruleD ws p), .dat d] = .exc 2 := by
  intro d hd
  have n1 := need_rule_ok h
  have n2 : s_need_time [.dat d, .dat (.int 0), .dat (.int 1000000000000)] = .exc 2 := by
    simp only [List.mem_cons, List.not_mem_nil, or_false] at hd
    rcases hd with e | e | e | e | e <;> subst e <;> rfl
  unfold s_most_until b_most_until
  walk_at "gw"
  rw [n1]
  walk_at "gw"
  rw [n2]
  rfl
end
end GW

set_option Elab.async false
set_option linter.all false
set_option maxRecDepth 100000
namespace GW
open PySem L2
local macro_rules | `(tactic| walk_at "gw") => `(tactic| simp (disch := first | omega | (simp only [List.length_cons, List.length_nil, lim]; omega)) only [dMul_b, ev_C, ev_V, ev_V1, ev_V2, lk_dat, lk_tmp, lk_bor, lkB1, lkB2, so_dat, so_tmp, so_bor, toD1, toD2, toD3, op1, op2, ev_Bin, bin1_ok, bin2_ok, bin3_ok, ev_Un, un1_ok, un2_ok, aO_nil, aO_cons, aO1_ok, aO2_ok, lA_nil, lA_cons, lA_ok, ev_B, eB1_ok, eB2_ok, sto_dat, sto_tmp, sto_bor, stoB_ok, aS_nil, aS_cons, aS1_ok, aS2_ok, aS3_ok, ev_Tup, ev_Lst, tup1_ok, lst1_ok, ev_Call, call1_ok, back_dat, back_tmp, back_exc, ev_CallB, callB0_ok, callB1_ok, callB2_ok, callB3_dat, callB3_tmp, ev_Sl, sl1_ok, sl2_ok, sl3_ok, sl4_ok, gSl_t, gSl_l, ev_pNo, ev_pInt, pI1_ok, ev_If, if1_t, if1_f, ev_toB, toB1_ok, ev_And, ev_Or, ev_Not, and1_t, and1_f, or1_t, or1_f, not1_ok, ev_tAnd, ev_tOr, ev_tNot, tand1_t, tand1_f, tor1_t, tor1_f, tnot1_ok, ev_tYes, ev_Chain, ch1_ok, ch2_ok, ch3_t, ch3_f, ch4_ok, ev_Chain3, d31_ok, d32_ok, d33_t, d33_f, d34_ok, d35_t, d35_f, d36_ok, ev_iZipM, izm1_ok, ev_sSkip, ev_sBreak, ev_sRetN, ev_sSeq, then_nx, then_rt, then_bk, then_exc, keep_dat, keep_tmp, keep_bor, keepB_ok, slot_dat, slot_tmp, ev_sSet, set1_ok, set1_exc, set2_ok, ev_sSet2, s21_ok, s22_ok, s23_ok, s24_ok, ev_sSet3, s31_ok, s32_ok, s33_ok, ev_sAsg, asg1_ok, asg2_ok, asg3_ok, b_Name, b_Tup, b_Cons, bc1_ok, b_Nil, ev_sIf, sif1_t, sif1_f, ev_sRet, ret1_dat, ret1_tmp, ret1_exc, ret1_bor, retB_ok, ev_sDrop, drop1_ok, drop1_exc, ev_sApp, app0_ok, app1_ok, app2_ok, app3_ok, ev_sSetIx, six1_ok, six2_ok, six3_ok, six4_ok, six5_ok, six6_ok, ev_sFor, for1_ok, ev_sForO, forO1_ok, ev_oCall, oc1_ok, oc2_ok, ev_iSeq, iseq1_ok, iseq2_l, iseq2_t, ev_iRange1, ev_iRange2, ir1_ok, ir2_ok, ien1_t, ev_eListG, elg1_ok, elg2_ok, ev_eListR, elr1_ok, dIn_l, dNotIn_l, ev_eDict1, ed1_ok, ed2_ok, ev_eGet2, gt1_ok, gt2_ok, gt3_ok, gt4_ok, ev_sPutD, pu1_ok, pu2_ok, pu3_ok, pu4_ok, pu5_ok, ev_eMaxV, mv1_1, mv1_2, ev_iEnum, ien1_l, ev_iZip, iz1_t, iz1_l, ev_Comp, comp1_ok, comp2_ok, wipe_nil, wipe_cons, ev_fn, fin1_rt, fin1_nx, fin1_exc, fin_dat, fin_tmp, finB_dat, finB_tmp, finB_ok, dAdd_i, dAdd_t, dAdd_l, dSub_i, dMul_1, dMul_2, dMul_t, dMul_t1, dPow_18, dPow_12, dPow_6, dPow_11, dDiv_i, dMod_i, dB_i, dNeg_i, gInt_i, gInt_b, gLen_l, gLen_t, gMin2_i, gMax2_i, gList_l, gList_t, gTuple_l, gTuple_t, gSum_i, gSum_t, gAll_b, gMinL_i, gMaxL_i, dIsN_n, dNotN_n, dIsB_b, dNotB_b, dIx_l, dIx_t, gIsi_ii, gIsi_ib, gIsi_tt, gIsi_ll, dEq_ok, dNe_ok, atI_0, atI_1, atI_2, atI_3, atI_4, atI_5, ixN_0, ixN_1, atI_last, atI_last1, List.getElem?_cons_zero, List.getElem?_cons_succ, List.set_cons_zero, List.set_cons_succ, List.map_cons, List.map_nil, Option.map_some, Option.map_none, List.cons_append, List.nil_append, List.length_cons, List.length_nil, Nat.reduceAdd, Nat.reduceSub, List.replicate_succ, List.replicate_zero, dLt, dLe, dGt, dGe, lim, Nat.reduceLeDiff, Int.reduceNeg, Bool.and_self, Bool.true_and, Bool.false_and, Bool.and_true, Bool.and_false, Bool.not_true, Bool.not_false])
local macro_rules | `(tactic| walk_at "gwh") => `(tactic| simp (disch := first | omega | (simp only [List.length_cons, List.length_nil, lim]; omega)) only [dMul_b, ev_C, ev_V, ev_V1, ev_V2, lk_dat, lk_tmp, lk_bor, lkB1, lkB2, so_dat, so_tmp, so_bor, toD1, toD2, toD3, op1, op2, ev_Bin, bin1_ok, bin2_ok, bin3_ok, ev_Un, un1_ok, un2_ok, aO_nil, aO_cons, aO1_ok, aO2_ok, lA_nil, lA_cons, lA_ok, ev_B, eB1_ok, eB2_ok, sto_dat, sto_tmp, sto_bor, stoB_ok, aS_nil, aS_cons, aS1_ok, aS2_ok, aS3_ok, ev_Tup, ev_Lst, tup1_ok, lst1_ok, ev_Call, call1_ok, back_dat, back_tmp, back_exc, ev_CallB, callB0_ok, callB1_ok, callB2_ok, callB3_dat, callB3_tmp, ev_Sl, sl1_ok, sl2_ok, sl3_ok, sl4_ok, gSl_t, gSl_l, ev_pNo, ev_pInt, pI1_ok, ev_If, if1_t, if1_f, ev_toB, toB1_ok, ev_And, ev_Or, ev_Not, and1_t, and1_f, or1_t, or1_f, not1_ok, ev_tAnd, ev_tOr, ev_tNot, tand1_t, tand1_f, tor1_t, tor1_f, tnot1_ok, ev_tYes, ev_Chain, ch1_ok, ch2_ok, ch3_t, ch3_f, ch4_ok, ev_Chain3, d31_ok, d32_ok, d33_t, d33_f, d34_ok, d35_t, d35_f, d36_ok, ev_iZipM, izm1_ok, ev_sSkip, ev_sBreak, ev_sRetN, ev_sSeq, then_nx, then_rt, then_bk, then_exc, keep_dat, keep_tmp, keep_bor, keepB_ok, slot_dat, slot_tmp, ev_sSet, set1_ok, set1_exc, set2_ok, ev_sSet2, s21_ok, s22_ok, s23_ok, s24_ok, ev_sSet3, s31_ok, s32_ok, s33_ok, ev_sAsg, asg1_ok, asg2_ok, asg3_ok, b_Name, b_Tup, b_Cons, bc1_ok, b_Nil, ev_sIf, sif1_t, sif1_f, ev_sRet, ret1_dat, ret1_tmp, ret1_exc, ret1_bor, retB_ok, ev_sDrop, drop1_ok, drop1_exc, ev_sApp, app0_ok, app1_ok, app2_ok, app3_ok, ev_sSetIx, six1_ok, six2_ok, six3_ok, six4_ok, six5_ok, six6_ok, ev_sFor, for1_ok, ev_sForO, forO1_ok, ev_oCall, oc1_ok, oc2_ok, ev_iSeq, iseq1_ok, iseq2_l, iseq2_t, ev_iRange1, ev_iRange2, ir1_ok, ir2_ok, ien1_t, ev_eListG, elg1_ok, elg2_ok, ev_eListR, elr1_ok, dIn_l, dNotIn_l, ev_eDict1, ed1_ok, ed2_ok, ev_eGet2, gt1_ok, gt2_ok, gt3_ok, gt4_ok, ev_sPutD, pu1_ok, pu2_ok, pu3_ok, pu4_ok, pu5_ok, ev_eMaxV, mv1_1, mv1_2, ev_iEnum, ien1_l, ev_iZip, iz1_t, iz1_l, ev_Comp, comp1_ok, comp2_ok, wipe_nil, wipe_cons, ev_fn, fin1_rt, fin1_nx, fin1_exc, fin_dat, fin_tmp, finB_dat, finB_tmp, finB_ok, dAdd_i, dAdd_t, dAdd_l, dSub_i, dMul_1, dMul_2, dMul_t, dMul_t1, dPow_18, dPow_12, dPow_6, dPow_11, dDiv_i, dMod_i, dB_i, dNeg_i, gInt_i, gInt_b, gLen_l, gLen_t, gMin2_i, gMax2_i, gList_l, gList_t, gTuple_l, gTuple_t, gSum_i, gSum_t, gAll_b, gMinL_i, gMaxL_i, dIsN_n, dNotN_n, dIsB_b, dNotB_b, dIx_l, dIx_t, gIsi_ii, gIsi_ib, gIsi_tt, gIsi_ll, dEq_ok, dNe_ok, atI_0, atI_1, atI_2, atI_3, atI_4, atI_5, ixN_0, ixN_1, atI_last, atI_last1, List.getElem?_cons_zero, List.getElem?_cons_succ, List.set_cons_zero, List.set_cons_succ, List.map_cons, List.map_nil, Option.map_some, Option.map_none, List.cons_append, List.nil_append, List.length_cons, List.length_nil, Nat.reduceAdd, Nat.reduceSub, List.replicate_succ, List.replicate_zero, dLt, dLe, dGt, dGe, lim, Nat.reduceLeDiff, Int.reduceNeg, Bool.and_self, Bool.true_and, Bool.false_and, Bool.and_true, Bool.and_false, Bool.not_true, Bool.not_false, *])

def E0 (ws : List Int) (p : Int) (n : Nat) : Int := if n = 0 then 0 else En ws p n
section
variable {ws : List Int} {p : Int}
def smallL (ws : List Int) (p : Int) (n : Nat) : List Int := (List.range (n + 1)).map (E0 ws p)
theorem smallL_len (n : Nat) : (smallL ws p n).length = n + 1 := by simp [smallL]
theorem small_at {n k : Nat} (h : k ≤ n) : atI ((smallL ws p n).map D.int) (k : Int) = some (.int (E0 ws p k)) := by
  refine atI_nat ?_
  unfold smallL
  rw [List.getElem?_map, List.getElem?_map, List.getElem?_range (by omega)]
  rfl
theorem small_turn (h : RuleOk ws p) {N n : Nat} (hN : N ≤ 1000) (hn : n < N) {z3 z4 : Sl} :
    ∃ y4, l_law_small_2 [.dat (ruleD ws p), .dat (.int (N : Int)), .own (.lst ((smallL ws p n).map D.int)), .dat (.int (1 + (n : Int))), z4, .un] =
      .nx [.dat (ruleD ws p), .dat (.int (N : Int)), .own (.lst ((smallL ws p (n + 1)).map D.int)), .dat (.int (1 + (n : Int))), y4, .un] := by
  have s0 := law_series_ok h (n + 1) (by omega)
  rw [show ((n + 1 : Nat) : Int) = 1 + (n : Int) by omega] at s0
  have hlen : ((smallL ws p n).map D.int).length < 1000000 := by rw [List.length_map, smallL_len]; omega
  unfold l_law_small_2
  walk_at "gw"
  rw [s0]
  walk_at "gw"
  rw [show (1 + (n : Int) - 1).toNat = n by omega, rangeD_map]
  have hc := compS_map (b := bName 5) (tt := tYes') (el := e_law_small_1) (vs := [5]) (ev := [.dat (ruleD ws p), .dat (.int (N : Int)), .own (.lst ((smallL ws p n).map D.int)), .dat (.int (1 + (n : Int))), .own (.lst [.int (Sv ws (n + 1))]), .un])
    (fun i : Nat => D.int (1 + i)) (fun i : Nat => D.int (En ws p (n + 1 - (i + 1)) + p + Sv ws (i + 1))) (xs := List.range n) (acc := []) (by rw [List.length_nil, List.length_range]; show 0 + n ≤ 1000000; omega)
    fun i hi => by
      have hi' := List.mem_range.mp hi
      have s1 := law_series_ok h (i + 1) (by omega)
      rw [show ((i + 1 : Nat) : Int) = 1 + (i : Int) by omega] at s1
      have a1 := small_at (ws := ws) (p := p) (n := n) (k := n + 1 - (i + 1)) (by omega)
      rw [show ((n + 1 - (i + 1) : Nat) : Int) = 1 + (n : Int) - (1 + (i : Int)) by omega, show E0 ws p (n + 1 - (i + 1)) = En ws p (n + 1 - (i + 1)) by unfold E0; rw [if_neg (by omega)]] at a1
      let ek : List Sl := [.dat (ruleD ws p), .dat (.int (N : Int)), .own (.lst ((smallL ws p n).map D.int)), .dat (.int (1 + (n : Int))), .own (.lst [.int (Sv ws (n + 1))]), .dat (.int (1 + (i : Int)))]
      refine ⟨ek, ek, ek, ek, .dat (.int (En ws p (n + 1 - (i + 1)) + p + Sv ws (i + 1))), rfl, rfl, ?_, rfl, rfl⟩
      have hd : ruleD ws p = .tup [.tup (ws.map D.int), .int p] := rfl
      show e_law_small_1 [_, _, _, _, _, .dat (.int (1 + (i : Int)))] = _
      unfold e_law_small_1
      walk_at "gw"
      rw [a1]
      rw [hd]
      walk_at "gw"
      rw [← hd, s1]
      walk_at "gw"
      rfl
  rw [hc]
  walk_at "gw"
  have ad : dAdd (.lst [.int (Sv ws (n + 1))]) (.lst ((List.range n).map fun i : Nat => D.int (En ws p (n + 1 - (i + 1)) + p + Sv ws (i + 1)))) = some (.tmp (.lst (D.int (Sv ws (n + 1)) :: (List.range n).map fun i : Nat => D.int (En ws p (n + 1 - (i + 1)) + p + Sv ws (i + 1))))) := by
    rw [dAdd_l (by rw [List.length_map, List.length_range]; simp [lim]; omega)]
    rfl
  rw [ad]
  walk_at "gw"
  have e : D.int (Sv ws (n + 1)) :: (List.range n).map (fun i : Nat => D.int (En ws p (n + 1 - (i + 1)) + p + Sv ws (i + 1))) = (Sv ws (n + 1) :: (List.range (n + 1 - 1)).map fun i : Nat => En ws p (n + 1 - (i + 1)) + p + Sv ws (i + 1)).map D.int := by
    rw [List.map_cons, List.map_map]
    rfl
  rw [e, gMinL_i (by simp), En_rec h (by omega)]
  walk_at "gw"
  have e2 : (smallL ws p n).map D.int ++ [.int (En ws p (n + 1))] = (smallL ws p (n + 1)).map D.int := by
    unfold smallL
    rw [List.range_succ (n := n + 1), List.map_append, List.map_append]
    rfl
  rw [e2]
  exact ⟨_, rfl⟩
theorem law_small_ok (h : RuleOk ws p) {N : Nat} (hN : N ≤ 1000) : s_law_small [.dat (ruleD ws p), .dat (.int (N : Int))] = .ok (.tmp (.lst ((smallL ws p N).map D.int))) none := by
  obtain ⟨e2, q1, z3, z4, rfl⟩ := forS_range (b := bName 3) (body := l_law_small_2) (lo := 1) (n := N) (ev := [.dat (ruleD ws p), .dat (.int (N : Int)), .own (.lst [.int 0]), .un, .un, .un])
    (fun i ev => ∃ z3 z4 : Sl, ev = [.dat (ruleD ws p), .dat (.int (N : Int)), .own (.lst ((smallL ws p i).map D.int)), z3, z4, .un]) ⟨.un, .un, rfl⟩ fun i ev hi hp => by
      obtain ⟨z3, z4, rfl⟩ := hp
      obtain ⟨y4, t⟩ := small_turn h hN hi (z3 := z3) (z4 := z4)
      exact ⟨_, _, rfl, .inl t, _, _, rfl⟩
  unfold s_law_small b_law_small
  walk_at "gw"
  rw [show ((N : Int) + 1 - 1).toNat = N by omega, q1]
  walk_at "gw"
end
end GW

set_option Elab.async false
set_option linter.all false
set_option maxRecDepth 100000
namespace GW
open PySem L2
local macro_rules | `(tactic| walk_at "gw") => `(tactic| simp (disch := first | omega | (simp only [List.length_cons, List.length_nil, lim]; omega)) only [dMul_b, ev_C, ev_V, ev_V1, ev_V2, lk_dat, lk_tmp, lk_bor, lkB1, lkB2, so_dat, so_tmp, so_bor, toD1, toD2, toD3, op1, op2, ev_Bin, bin1_ok, bin2_ok, bin3_ok, ev_Un, un1_ok, un2_ok, aO_nil, aO_cons, aO1_ok, aO2_ok, lA_nil, lA_cons, lA_ok, ev_B, eB1_ok, eB2_ok, sto_dat, sto_tmp, sto_bor, stoB_ok, aS_nil, aS_cons, aS1_ok, aS2_ok, aS3_ok, ev_Tup, ev_Lst, tup1_ok, lst1_ok, ev_Call, call1_ok, back_dat, back_tmp, back_exc, ev_CallB, callB0_ok, callB1_ok, callB2_ok, callB3_dat, callB3_tmp, ev_Sl, sl1_ok, sl2_ok, sl3_ok, sl4_ok, gSl_t, gSl_l, ev_pNo, ev_pInt, pI1_ok, ev_If, if1_t, if1_f, ev_toB, toB1_ok, ev_And, ev_Or, ev_Not, and1_t, and1_f, or1_t, or1_f, not1_ok, ev_tAnd, ev_tOr, ev_tNot, tand1_t, tand1_f, tor1_t, tor1_f, tnot1_ok, ev_tYes, ev_Chain, ch1_ok, ch2_ok, ch3_t, ch3_f, ch4_ok, ev_Chain3, d31_ok, d32_ok, d33_t, d33_f, d34_ok, d35_t, d35_f, d36_ok, ev_iZipM, izm1_ok, ev_sSkip, ev_sBreak, ev_sRetN, ev_sSeq, then_nx, then_rt, then_bk, then_exc, keep_dat, keep_tmp, keep_bor, keepB_ok, slot_dat, slot_tmp, ev_sSet, set1_ok, set1_exc, set2_ok, ev_sSet2, s21_ok, s22_ok, s23_ok, s24_ok, ev_sSet3, s31_ok, s32_ok, s33_ok, ev_sAsg, asg1_ok, asg2_ok, asg3_ok, b_Name, b_Tup, b_Cons, bc1_ok, b_Nil, ev_sIf, sif1_t, sif1_f, ev_sRet, ret1_dat, ret1_tmp, ret1_exc, ret1_bor, retB_ok, ev_sDrop, drop1_ok, drop1_exc, ev_sApp, app0_ok, app1_ok, app2_ok, app3_ok, ev_sSetIx, six1_ok, six2_ok, six3_ok, six4_ok, six5_ok, six6_ok, ev_sFor, for1_ok, ev_sForO, forO1_ok, ev_oCall, oc1_ok, oc2_ok, ev_iSeq, iseq1_ok, iseq2_l, iseq2_t, ev_iRange1, ev_iRange2, ir1_ok, ir2_ok, ien1_t, ev_eListG, elg1_ok, elg2_ok, ev_eListR, elr1_ok, dIn_l, dNotIn_l, ev_eDict1, ed1_ok, ed2_ok, ev_eGet2, gt1_ok, gt2_ok, gt3_ok, gt4_ok, ev_sPutD, pu1_ok, pu2_ok, pu3_ok, pu4_ok, pu5_ok, ev_eMaxV, mv1_1, mv1_2, ev_iEnum, ien1_l, ev_iZip, iz1_t, iz1_l, ev_Comp, comp1_ok, comp2_ok, wipe_nil, wipe_cons, ev_fn, fin1_rt, fin1_nx, fin1_exc, fin_dat, fin_tmp, finB_dat, finB_tmp, finB_ok, dAdd_i, dAdd_t, dAdd_l, dSub_i, dMul_1, dMul_2, dMul_t, dMul_t1, dPow_18, dPow_12, dPow_6, dPow_11, dDiv_i, dMod_i, dB_i, dNeg_i, gInt_i, gInt_b, gLen_l, gLen_t, gMin2_i, gMax2_i, gList_l, gList_t, gTuple_l, gTuple_t, gSum_i, gSum_t, gAll_b, gMinL_i, gMaxL_i, dIsN_n, dNotN_n, dIsB_b, dNotB_b, dIx_l, dIx_t, gIsi_ii, gIsi_ib, gIsi_tt, gIsi_ll, dEq_ok, dNe_ok, atI_0, atI_1, atI_2, atI_3, atI_4, atI_5, ixN_0, ixN_1, atI_last, atI_last1, List.getElem?_cons_zero, List.getElem?_cons_succ, List.set_cons_zero, List.set_cons_succ, List.map_cons, List.map_nil, Option.map_some, Option.map_none, List.cons_append, List.nil_append, List.length_cons, List.length_nil, Nat.reduceAdd, Nat.reduceSub, List.replicate_succ, List.replicate_zero, dLt, dLe, dGt, dGe, lim, Nat.reduceLeDiff, Int.reduceNeg, Bool.and_self, Bool.true_and, Bool.false_and, Bool.and_true, Bool.and_false, Bool.not_true, Bool.not_false])
local macro_rules | `(tactic| walk_at "gwh") => `(tactic| simp (disch := first | omega | (simp only [List.length_cons, List.length_nil, lim]; omega)) only [dMul_b, ev_C, ev_V, ev_V1, ev_V2, lk_dat, lk_tmp, lk_bor, lkB1, lkB2, so_dat, so_tmp, so_bor, toD1, toD2, toD3, op1, op2, ev_Bin, bin1_ok, bin2_ok, bin3_ok, ev_Un, un1_ok, un2_ok, aO_nil, aO_cons, aO1_ok, aO2_ok, lA_nil, lA_cons, lA_ok, ev_B, eB1_ok, eB2_ok, sto_dat, sto_tmp, sto_bor, stoB_ok, aS_nil, aS_cons, aS1_ok, aS2_ok, aS3_ok, ev_Tup, ev_Lst, tup1_ok, lst1_ok, ev_Call, call1_ok, back_dat, back_tmp, back_exc, ev_CallB, callB0_ok, callB1_ok, callB2_ok, callB3_dat, callB3_tmp, ev_Sl, sl1_ok, sl2_ok, sl3_ok, sl4_ok, gSl_t, gSl_l, ev_pNo, ev_pInt, pI1_ok, ev_If, if1_t, if1_f, ev_toB, toB1_ok, ev_And, ev_Or, ev_Not, and1_t, and1_f, or1_t, or1_f, not1_ok, ev_tAnd, ev_tOr, ev_tNot, tand1_t, tand1_f, tor1_t, tor1_f, tnot1_ok, ev_tYes, ev_Chain, ch1_ok, ch2_ok, ch3_t, ch3_f, ch4_ok, ev_Chain3, d31_ok, d32_ok, d33_t, d33_f, d34_ok, d35_t, d35_f, d36_ok, ev_iZipM, izm1_ok, ev_sSkip, ev_sBreak, ev_sRetN, ev_sSeq, then_nx, then_rt, then_bk, then_exc, keep_dat, keep_tmp, keep_bor, keepB_ok, slot_dat, slot_tmp, ev_sSet, set1_ok, set1_exc, set2_ok, ev_sSet2, s21_ok, s22_ok, s23_ok, s24_ok, ev_sSet3, s31_ok, s32_ok, s33_ok, ev_sAsg, asg1_ok, asg2_ok, asg3_ok, b_Name, b_Tup, b_Cons, bc1_ok, b_Nil, ev_sIf, sif1_t, sif1_f, ev_sRet, ret1_dat, ret1_tmp, ret1_exc, ret1_bor, retB_ok, ev_sDrop, drop1_ok, drop1_exc, ev_sApp, app0_ok, app1_ok, app2_ok, app3_ok, ev_sSetIx, six1_ok, six2_ok, six3_ok, six4_ok, six5_ok, six6_ok, ev_sFor, for1_ok, ev_sForO, forO1_ok, ev_oCall, oc1_ok, oc2_ok, ev_iSeq, iseq1_ok, iseq2_l, iseq2_t, ev_iRange1, ev_iRange2, ir1_ok, ir2_ok, ien1_t, ev_eListG, elg1_ok, elg2_ok, ev_eListR, elr1_ok, dIn_l, dNotIn_l, ev_eDict1, ed1_ok, ed2_ok, ev_eGet2, gt1_ok, gt2_ok, gt3_ok, gt4_ok, ev_sPutD, pu1_ok, pu2_ok, pu3_ok, pu4_ok, pu5_ok, ev_eMaxV, mv1_1, mv1_2, ev_iEnum, ien1_l, ev_iZip, iz1_t, iz1_l, ev_Comp, comp1_ok, comp2_ok, wipe_nil, wipe_cons, ev_fn, fin1_rt, fin1_nx, fin1_exc, fin_dat, fin_tmp, finB_dat, finB_tmp, finB_ok, dAdd_i, dAdd_t, dAdd_l, dSub_i, dMul_1, dMul_2, dMul_t, dMul_t1, dPow_18, dPow_12, dPow_6, dPow_11, dDiv_i, dMod_i, dB_i, dNeg_i, gInt_i, gInt_b, gLen_l, gLen_t, gMin2_i, gMax2_i, gList_l, gList_t, gTuple_l, gTuple_t, gSum_i, gSum_t, gAll_b, gMinL_i, gMaxL_i, dIsN_n, dNotN_n, dIsB_b, dNotB_b, dIx_l, dIx_t, gIsi_ii, gIsi_ib, gIsi_tt, gIsi_ll, dEq_ok, dNe_ok, atI_0, atI_1, atI_2, atI_3, atI_4, atI_5, ixN_0, ixN_1, atI_last, atI_last1, List.getElem?_cons_zero, List.getElem?_cons_succ, List.set_cons_zero, List.set_cons_succ, List.map_cons, List.map_nil, Option.map_some, Option.map_none, List.cons_append, List.nil_append, List.length_cons, List.length_nil, Nat.reduceAdd, Nat.reduceSub, List.replicate_succ, List.replicate_zero, dLt, dLe, dGt, dGe, lim, Nat.reduceLeDiff, Int.reduceNeg, Bool.and_self, Bool.true_and, Bool.false_and, Bool.and_true, Bool.and_false, Bool.not_true, Bool.not_false, *])

theorem is5 {a : Addr} {b : Bool} {s0 s1 s2 s3 s4 s6 s7 s8 : Sl} : eIsE 5 a b [s0, s1, s2, s3, s4, .dat (.fn a), s6, s7, s8] = .ok (.dat (.bl b)) [s0, s1, s2, s3, s4, .dat (.fn a), s6, s7, s8] := by
  show (if a = a then _ else _) = _
  rw [if_pos rfl]
theorem compS_fil {α : Type} {b : Bx} {tt : Tx} {el : Ex} {vs : List Nat} (it f : α → D) (keep : α → Bool) {ev : List Sl} : ∀ {xs : List α} {acc : List D}, acc.length + xs.length ≤ lim →
    (∀ x ∈ xs, ∃ e1 e2, b (it x) ev = some e1 ∧ tt e1 = .ok (keep x) e2 ∧ (keep x = true → ∃ e3 e4 r, el e2 = .ok r e3 ∧ stoR r e3 = .ok (f x) e4 ∧ wipeE e4 vs = ev) ∧ (keep x = false → wipeE e2 vs = ev)) →
    compS b tt el vs (xs.map it) acc ev = .ok (acc ++ (xs.filter keep).map f) ev
  | [], acc, _, _ => by simp [compS]
  | x :: xs, acc, hl, hs => by
    obtain ⟨e1, e2, h1, h2, h3, h4⟩ := hs x List.mem_cons_self
    rw [List.length_cons] at hl
    by_cases c : keep x = true
    · obtain ⟨e3, e4, r, h5, h6, h7⟩ := h3 c
      rw [c] at h2
      simp only [List.map_cons, compS, h1, h2, h5, h6, h7]
      rw [if_pos (by omega)]
      rw [compS_fil it f keep (xs := xs) (acc := acc ++ [f x]) (by simp; omega) fun y hy => hs y (List.mem_cons_of_mem _ hy)]
      rw [List.filter_cons_of_pos c]
      simp
    · have c' : keep x = false := by simpa using c
      rw [c'] at h2
      simp only [List.map_cons, compS, h1, h2, h4 c']
      rw [compS_fil it f keep (xs := xs) (acc := acc) (by omega) fun y hy => hs y (List.mem_cons_of_mem _ hy)]
      rw [List.filter_cons_of_neg c]
def rowsP (k : Nat) : List (Str × Bool) := [("InvalidRule", k == 0), ("InvalidRow", k == 1), ("InvalidTime", k == 2), ("InvalidNumber", k == 3), ("InvalidOutcomes", k == 4), ("NothingToUndo", k == 5)]
def rowP (x : Str × Bool) : D := .tup [.str x.1, .bl x.2]
theorem rows_map (k : Nat) : rowsL k = (rowsP k).map rowP := rfl
theorem rows_fil {k : Nat} (hk : k < 6) : (rowsP k).filter (·.2) = [(errNames.getD k "", true)] := by
  have six : k = 0 ∨ k = 1 ∨ k = 2 ∨ k = 3 ∨ k = 4 ∨ k = 5 := by omega
  rcases six with e | e | e | e | e | e <;> subst e <;> rfl
theorem comp_k {k : Nat} (hk : k < 6) (s0 s1 s2 s3 s4 s5 : Sl) : comp1 (bTup (bCons (bName 7) (bCons (bName 8) bNil))) (toB (eV 8)) (eV 7) [7, 8] (iLst (eV 6) [s0, s1, s2, s3, s4, s5, .own (.lst (rowsL k)), .un, .un]) = .ok (.tmp (.lst [.str (errNames.getD k "")])) [s0, s1, s2, s3, s4, s5, .dat (.lst (rowsL k)), .un, .un] := by
  have c := compS_fil (b := bTup (bCons (bName 7) (bCons (bName 8) bNil))) (tt := toB (eV 8)) (el := eV 7) (vs := [7, 8]) rowP (fun x => D.str x.1) (fun x => x.2) (ev := [s0, s1, s2, s3, s4, s5, .dat (.lst (rowsL k)), .un, .un]) (xs := rowsP k) (acc := []) (by show 0 + 6 ≤ 1000000; omega)
    fun x _ => ⟨[s0, s1, s2, s3, s4, s5, .dat (.lst (rowsL k)), .dat (.str x.1), .dat (.bl x.2)], [s0, s1, s2, s3, s4, s5, .dat (.lst (rowsL k)), .dat (.str x.1), .dat (.bl x.2)], rfl, rfl, fun _ => ⟨_, _, .dat (.str x.1), rfl, rfl, rfl⟩, fun _ => rfl⟩
  rw [rows_fil hk] at c
  have i : iLst (eV 6) [s0, s1, s2, s3, s4, s5, .own (.lst (rowsL k)), .un, .un] = .ok ((rowsP k).map rowP) [s0, s1, s2, s3, s4, s5, .dat (.lst (rowsL k)), .un, .un] := rfl
  rw [i]
  have w : wipeE [s0, s1, s2, s3, s4, s5, .dat (.lst (rowsL k)), .un, .un] [7, 8] = [s0, s1, s2, s3, s4, s5, .dat (.lst (rowsL k)), .un, .un] := rfl
  unfold comp1
  simp only [w, c]
  rfl
theorem suite_eval : SuiteEval := by
  intro f a x y z o k hk
  have ck := comp_k hk
  unfold rowsL at ck
  unfold suiteS rowsL
  walk_at "gw"
  rw [is5]
  walk_at "gw"
  rw [is5]
  walk_at "gw"
  rw [is5]
  walk_at "gw"
  rw [is5]
  walk_at "gw"
  rw [is5]
  walk_at "gw"
  rw [is5]
  walk_at "gw"
  rw [ck]
  walk_at "gw"
  rw [is5]
  walk_at "gw"
  rfl
end GW

set_option Elab.async false
set_option linter.all false
set_option maxRecDepth 100000
set_option maxHeartbeats 4000000
namespace GW
open PySem PySem.Spec L2
def topS (i : Nat) : Stmt := PySem.Challenge.pw_growwaits_k13_most_tries_until_a_time.main.body.getD i (.Pass ⟨0, 0, 0, 0⟩)
abbrev st_is_integer : Stmt := topS 10
theorem sc_is_integer : FnScope ["value", "low", "high"] ["value", "low", "high"] (defScope st_is_integer) := ⟨rfl, rfl, rfl, by decide +kernel, rfl, by decide +kernel, by decide +kernel⟩
theorem ok_is_integer {P : Program} {w : World} {K : PySem.W.Frag} {mg : Str → Option Value} {base : Heap} {cl : Cls} {fa : Addr} {fd : FuncData} (F : Fun K "is_integer" "is_integer" st_is_integer fa fd) (hm : mg "is_integer" = some (.ref fa)) (m_bool : mg "bool" = none) (m_int : mg "int" = none) (m_isinstance : mg "isinstance" = none) :
    GoodF P w K mg base cl 1 "is_integer" 3 s_is_integer :=
  ⟨fa, fd, ["value", "low", "high"], def_ok [] false F sc_is_integer (fun cdv A outer s H E c po => dss_one (ds_ret (de_and (de_callB call_isi isi_D (by rfl) m_isinstance (by decide +kernel) (da_cons (de_var 0) (da_cons (de_C (pe_bltn (v := .ty "int") (by rfl) m_int (by decide +kernel) rfl) (fun _ => .ty .int)) (da_nil)))) (de_and (de_not (de_callB call_isi isi_D (by rfl) m_isinstance (by decide +kernel) (da_cons (de_var 0) (da_cons (de_C (pe_bltn (v := .ty "bool") (by rfl) m_bool (by decide +kernel) rfl) (fun _ => .ty .bool)) (da_nil))))) (de_one (de_chain (g := (fun i j => decide (i ≤ j))) (g' := (fun i j => decide (i ≤ j))) op_le op_le (de_var 1) (de_var 0) (de_var 2))))))), hm, F.kp, F.binds (ps := ["value", "low", "high"]) fun _ _ _ _ _ _ us hl => match us, hl with | [_, _, _], _ => rfl⟩
abbrev st_never_falls : Stmt := topS 11
theorem sc_never_falls : FnScope ["items", "one", "other"] ["items"] (defScope st_never_falls) := ⟨rfl, rfl, rfl, by decide +kernel, rfl, by decide +kernel, by decide +kernel⟩
theorem ok_never_falls {P : Program} {w : World} {K : PySem.W.Frag} {mg : Str → Option Value} {base : Heap} {cl : Cls} {fa : Addr} {fd : FuncData} (F : Fun K "never_falls" "never_falls" st_never_falls fa fd) (hm : mg "never_falls" = some (.ref fa)) (m_all : mg "all" = none) (m_zip : mg "zip" = none) :
    GoodF P w K mg base cl 1 "never_falls" 1 s_never_falls :=
  ⟨fa, fd, ["items"], def_ok [] false F sc_never_falls (fun cdv A outer s H E c po => dss_one (ds_ret (de_callB (cr_all c.calm) all_D (by rfl) m_all (by decide +kernel) (da_cons (de_comp (own := [("one", 1), ("other", 2)]) c (di_zip (by rfl) m_zip (das_cons (de_var 0) (das_cons (de_slice (de_var 0) (dp_int (de_int)) (dp_no)) (das_nil))) (fun _ pa => RZ.pi_zipA (by rfl) m_zip pa)) (blkOk_by (N := ["items", "one", "other"]) (sc := defScope st_never_falls) (by decide +kernel)) (fun _ _ _ _ _ => dg_tup c.calm (dgs_cons (dg_name (i := 1) c.nd) (dgs_cons (dg_name (i := 2) c.nd) (dgs_nil)))) (fun _ _ _ _ _ c' => dts_nil) (fun _ _ _ _ _ c' => de_cmp op_le bool_D (de_var 1) (de_var 2) (nomark _))) (da_nil))))), hm, F.kp, F.binds (ps := ["items"]) fun _ _ _ _ _ _ us hl => match us, hl with | [_], _ => rfl⟩
abbrev st_series_time : Stmt := topS 18
theorem sc_series_time : FnScope ["rule", "tries", "waits"] ["rule", "tries"] (defScope st_series_time) := ⟨rfl, rfl, rfl, by decide +kernel, rfl, by decide +kernel, by decide +kernel⟩
theorem ok_series_time {P : Program} {w : World} {K : PySem.W.Frag} {mg : Str → Option Value} {base : Heap} {cl : Cls} {fa : Addr} {fd : FuncData} (F : Fun K "series_time" "series_time" st_series_time fa fd) (hm : mg "series_time" = some (.ref fa)) (m_len : mg "len" = none) (m_sum : mg "sum" = none) :
    GoodF P w K mg base cl 1 "series_time" 2 s_series_time :=
  ⟨fa, fd, ["rule", "tries"], def_ok [2] false F sc_series_time (fun cdv A outer s H E c po => dss_cons (ds_set (i := 2) c.nd (de_slice (de_ix ix_D ix_Dok (de_var 0) (de_int) (fun _ _ => rfl)) (dp_no) (dp_int (de_un un_neg neg_D (de_int)))))
    (dss_cons (ds_if (dt_cmp op_le bool_D (de_var 1) (de_callB (r := rLenD _) call_len_seq len_D (by rfl) m_len (by decide +kernel) (da_cons (de_ix ix_D ix_Dok (de_var 0) (de_int) (fun _ _ => rfl)) (da_nil))) (nomark _)) (dss_one (ds_ret (de_callB (cr_sumT c.calm) sumA_D (by rfl) m_sum (by decide +kernel) (da_cons (de_slice (de_var 2) (dp_no) (dp_int (de_op op_subT sub_D (de_var 1) (de_int)))) (da_nil))))) (dss_nil))
    (dss_one (ds_ret (de_op op_addD add_D (de_callB (cr_sumT c.calm) sumA_D (by rfl) m_sum (by decide +kernel) (da_cons (de_var 2) (da_nil))) (de_op op_mulX mulX_D (de_ix ix_D ix_Dok (de_ix ix_D ix_Dok (de_var 0) (de_int) (fun _ _ => rfl)) (de_un un_neg neg_D (de_int)) (fun _ _ => rfl)) (de_op op_subT sub_D (de_var 1) (de_callB (r := rLenD _) call_len_seq len_D (by rfl) m_len (by decide +kernel) (da_cons (de_ix ix_D ix_Dok (de_var 0) (de_int) (fun _ _ => rfl)) (da_nil)))))))))), hm, F.kp, F.binds (ps := ["rule", "tries"]) fun _ _ _ _ _ _ us hl => match us, hl with | [_, _], _ => rfl⟩
abbrev st_law_cell_at : Stmt := topS 25
theorem sc_law_cell_at : FnScope ["script", "k"] ["script", "k"] (defScope st_law_cell_at) := ⟨rfl, rfl, rfl, by decide +kernel, rfl, by decide +kernel, by decide +kernel⟩
theorem ok_law_cell_at {P : Program} {w : World} {K : PySem.W.Frag} {mg : Str → Option Value} {base : Heap} {cl : Cls} {fa : Addr} {fd : FuncData} (F : Fun K "_law_cell_at" "_law_cell_at" st_law_cell_at fa fd) (hm : mg "_law_cell_at" = some (.ref fa)) (m_len : mg "len" = none) :
    GoodF P w K mg base cl 1 "_law_cell_at" 2 s_law_cell_at :=
  ⟨fa, fd, ["script", "k"], def_ok [] false F sc_law_cell_at (fun cdv A outer s H E c po => dss_cons (ds_if (dt_cmp op_lt bool_D (de_var 1) (de_callB (r := rLenD _) call_len_seq len_D (by rfl) m_len (by decide +kernel) (da_cons (de_var 0) (da_nil))) (nomark _)) (dss_one (ds_ret (de_ix ix_D ix_Dok (de_var 0) (de_var 1) (fun _ _ => rfl)))) (dss_nil))
    (dss_one (ds_ret (de_int)))), hm, F.kp, F.binds (ps := ["script", "k"]) fun _ _ _ _ _ _ us hl => match us, hl with | [_, _], _ => rfl⟩
abbrev st_law_draws : Stmt := topS 26
theorem sc_law_draws : FnScope ["cell", "many", "size", "found", "rest", "stirred", "k"] ["cell", "many", "size"] (defScope st_law_draws) := ⟨rfl, rfl, rfl, by decide +kernel, rfl, by decide +kernel, by decide +kernel⟩
theorem ok_law_draws {P : Program} {w : World} {K : PySem.W.Frag} {mg : Str → Option Value} {base : Heap} {cl : Cls} {fa : Addr} {fd : FuncData} (F : Fun K "_law_draws" "_law_draws" st_law_draws fa fd) (hm : mg "_law_draws" = some (.ref fa)) (m_int : mg "int" = none) (m_range : mg "range" = none) :
    GoodF P w K mg base cl 1 "_law_draws" 3 s_law_draws :=
  ⟨fa, fd, ["cell", "many", "size"], def_ok [3, 4, 5, 6] false F sc_law_draws (fun cdv A outer s H E c po => dss_cons (ds_set (i := 3) c.nd (de_lst (das_nil)))
    (dss_cons (ds_set (i := 4) c.nd (de_op op_mulX mulX_D (de_var 0) (de_callTy call_int1 int_Dc (by rfl) m_int (by decide +kernel) (da_cons (de_cmp op_ge bool_D (de_var 0) (de_op op_pow pow_D (de_int) (de_int)) (nomark _)) (da_nil)))))
    (dss_cons (ds_set (i := 5) c.nd (de_op op_mod mod_D (de_var 0) (de_int)))
    (dss_cons (ds_for po c.calm (di_range1 (by rfl) m_range (da_cons (de_op op_addD add_D (de_var 1) (de_int)) da_nil)) (dg_name (i := 6) c.nd) (dss_cons (ds_set (i := 5) c.nd (de_op op_mod mod_D (de_op op_addD add_D (de_op op_addD add_D (de_op op_addD add_D (de_op op_mulX mulX_D (de_var 5) (de_var 5)) (de_op op_mulX mulX_D (de_int) (de_var 5))) (de_var 6)) (de_int)) (de_int)))
    (dss_one (ds_if ((dw_and (dt_cmp op_gt bool_D (de_var 6) (de_int) (nomark _)) (dw_and1 (dt_cmp op_gt bool_D (de_var 4) (de_int) (nomark _)))).dt) (dss_cons (ds_append (i := 3) (de_op op_mod mod_D (de_var 4) (de_var 2)) (pe := fun _ _ ha he => pe_bm PySem.F.plainAttrs_list PySem.F.slot_list_append PySem.F.type_list_append mt_append ha (pa_cons he pa_nil)))
    (dss_one (ds_set (i := 4) c.nd (de_op op_fdivW div_D (de_var 4) (de_var 2))))) (dss_one (ds_if (dt_cmp op_gt bool_D (de_var 6) (de_int) (nomark _)) (dss_one (ds_append (i := 3) (de_op op_mod mod_D (de_op op_fdivW div_D (de_var 5) (de_int)) (de_var 2)) (pe := fun _ _ ha he => pe_bm PySem.F.plainAttrs_list PySem.F.slot_list_append PySem.F.type_list_append mt_append ha (pa_cons he pa_nil)))) (dss_nil)))))))
    (dss_one (ds_ret (de_var 3))))))), hm, F.kp, F.binds (ps := ["cell", "many", "size"]) fun _ _ _ _ _ _ us hl => match us, hl with | [_, _, _], _ => rfl⟩
abbrev st_law_take : Stmt := topS 29
theorem sc_law_take : FnScope ["bag", "many"] ["bag", "many"] (defScope st_law_take) := ⟨rfl, rfl, rfl, by decide +kernel, rfl, by decide +kernel, by decide +kernel⟩
theorem ok_law_take {P : Program} {w : World} {K : PySem.W.Frag} {mg : Str → Option Value} {base : Heap} {cl : Cls} {fa : Addr} {fd : FuncData} (F : Fun K "_law_take" "_law_take" st_law_take fa fd) (hm : mg "_law_take" = some (.ref fa)) (m_len : mg "len" = none) :
    GoodF P w K mg base cl 1 "_law_take" 2 s_law_take :=
  ⟨fa, fd, ["bag", "many"], def_ok [] true F sc_law_take (fun cdv A outer s H E c po => dss_cons (ds_setix (j := 0) (de_op op_addD add_D (de_ix ix_D ix_Dok (de_var 0) (de_int) (fun _ _ => rfl)) (de_int)) (de_int))
    (dss_one (ds_ret (de_op op_mod mod_D (de_ix ix_D ix_Dok (de_ix ix_D ix_Dok (de_var 0) (de_int) (fun _ _ => rfl)) (de_op op_mod mod_D (de_ix ix_D ix_Dok (de_var 0) (de_int) (fun _ _ => rfl)) (de_callB (r := rLenD _) call_len_seq len_D (by rfl) m_len (by decide +kernel) (da_cons (de_ix ix_D ix_Dok (de_var 0) (de_int) (fun _ _ => rfl)) (da_nil)))) (fun _ _ => rfl)) (de_var 1))))), hm, F.kp, F.binds (ps := ["bag", "many"]) fun _ _ _ _ _ _ us hl => match us, hl with | [_, _], _ => rfl⟩
abbrev st_law_wait : Stmt := topS 32
theorem sc_law_wait : FnScope ["rule", "step", "waits"] ["rule", "step"] (defScope st_law_wait) := ⟨rfl, rfl, rfl, by decide +kernel, rfl, by decide +kernel, by decide +kernel⟩
theorem ok_law_wait {P : Program} {w : World} {K : PySem.W.Frag} {mg : Str → Option Value} {base : Heap} {cl : Cls} {fa : Addr} {fd : FuncData} (F : Fun K "_law_wait" "_law_wait" st_law_wait fa fd) (hm : mg "_law_wait" = some (.ref fa)) (m_len : mg "len" = none) :
    GoodF P w K mg base cl 1 "_law_wait" 2 s_law_wait :=
  ⟨fa, fd, ["rule", "step"], def_ok [2] false F sc_law_wait (fun cdv A outer s H E c po => dss_cons (ds_set (i := 2) c.nd (de_ix ix_D ix_Dok (de_var 0) (de_int) (fun _ _ => rfl)))
    (dss_cons (ds_if (dt_cmp op_gt bool_D (de_var 1) (de_callB (r := rLenD _) call_len_seq len_D (by rfl) m_len (by decide +kernel) (da_cons (de_var 2) (da_nil))) (nomark _)) (dss_one (ds_ret (de_ix ix_D ix_Dok (de_var 2) (de_un un_neg neg_D (de_int)) (fun _ _ => rfl)))) (dss_nil))
    (dss_one (ds_ret (de_ix ix_D ix_Dok (de_var 2) (de_op op_subT sub_D (de_var 1) (de_int)) (fun _ _ => rfl)))))), hm, F.kp, F.binds (ps := ["rule", "step"]) fun _ _ _ _ _ _ us hl => match us, hl with | [_, _], _ => rfl⟩
abbrev st_are_waits : Stmt := topS 12
theorem sc_are_waits : FnScope ["value", "one"] ["value"] (defScope st_are_waits) := ⟨rfl, rfl, rfl, by decide +kernel, rfl, by decide +kernel, by decide +kernel⟩
theorem ok_are_waits {P : Program} {w : World} {K : PySem.W.Frag} {mg : Str → Option Value} {base : Heap} {cl : Cls} {fa : Addr} {fd : FuncData} (F : Fun K "are_waits" "are_waits" st_are_waits fa fd) (hm : mg "are_waits" = some (.ref fa)) (G_is_integer : GoodF P w K mg base cl 1 "is_integer" 3 s_is_integer) (G_never_falls : GoodF P w K mg base cl 1 "never_falls" 1 s_never_falls) (m_all : mg "all" = none) (m_isinstance : mg "isinstance" = none) (m_len : mg "len" = none) (m_tuple : mg "tuple" = none) :
    GoodF P w K mg base cl 2 "are_waits" 1 s_are_waits :=
  ⟨fa, fd, ["value"], def_ok [] false F sc_are_waits (fun cdv A outer s H E c po => dss_cons (ds_if ((dw_or (dt_not (dt_val (de_callB call_isi isi_D (by rfl) m_isinstance (by decide +kernel) (da_cons (de_var 0) (da_cons (de_C (pe_bltn (v := .ty "tuple") (by rfl) m_tuple (by decide +kernel) rfl) (fun _ => .ty .tuple)) (da_nil)))))) (dw_or1 (dt_not (dt_chain (g := (fun i j => decide (i ≤ j))) (g' := (fun i j => decide (i ≤ j))) op_le op_le (de_int) (de_callB (r := rLenD _) call_len_seq len_D (by rfl) m_len (by decide +kernel) (da_cons (de_var 0) (da_nil))) (de_int))))).dt) (dss_one (ds_ret (de_bl))) (dss_nil))
    (dss_one (ds_ret (de_and (de_callB (cr_all c.calm) all_D (by rfl) m_all (by decide +kernel) (da_cons (de_comp (own := [("one", 1)]) c (di_seq (de_var 0)) (blkOk_by (N := ["value", "one"]) (sc := defScope st_are_waits) (by decide +kernel)) (fun _ _ _ _ _ => dg_name (i := 1) c.nd) (fun _ _ _ _ _ c' => dts_nil) (fun _ _ _ _ _ c' => de_call G_is_integer c' (das_cons (de_var 1) (das_cons (de_int) (das_cons (de_int) (das_nil)))) (by rfl))) (da_nil))) (de_one (de_call G_never_falls c (das_cons (de_var 0) (das_nil)) (by rfl))))))), hm, F.kp, F.binds (ps := ["value"]) fun _ _ _ _ _ _ us hl => match us, hl with | [_], _ => rfl⟩
abbrev st_need_time : Stmt := topS 15
theorem sc_need_time : FnScope ["value", "low", "high"] ["value", "low", "high"] (defScope st_need_time) := ⟨rfl, rfl, rfl, by decide +kernel, rfl, by decide +kernel, by decide +kernel⟩
theorem ok_need_time {P : Program} {w : World} {K : PySem.W.Frag} {mg : Str → Option Value} {base : Heap} {cl : Cls} {fa : Addr} {fd : FuncData} (F : Fun K "need_time" "need_time" st_need_time fa fd) (hm : mg "need_time" = some (.ref fa)) (G_is_integer : GoodF P w K mg base cl 1 "is_integer" 3 s_is_integer) {C_InvalidTime : Addr} (o_InvalidTime : ClsOk K mg cl 2 "InvalidTime" C_InvalidTime) :
    GoodF P w K mg base cl 2 "need_time" 3 s_need_time :=
  ⟨fa, fd, ["value", "low", "high"], def_ok [] false F sc_need_time (fun cdv A outer s H E c po => dss_one (ds_if (dt_not (dt_val (de_call G_is_integer c (das_cons (de_var 0) (das_cons (de_var 1) (das_cons (de_var 2) (das_nil)))) (by rfl)))) (dss_one (ds_raise o_InvalidTime c (by rfl))) (dss_nil))), hm, F.kp, F.binds (ps := ["value", "low", "high"]) fun _ _ _ _ _ _ us hl => match us, hl with | [_, _, _], _ => rfl⟩
abbrev st_length_of : Stmt := topS 19
theorem sc_length_of : FnScope ["rule", "waits", "pause", "tries"] ["rule"] (defScope st_length_of) := ⟨rfl, rfl, rfl, by decide +kernel, rfl, by decide +kernel, by decide +kernel⟩
theorem ok_length_of {P : Program} {w : World} {K : PySem.W.Frag} {mg : Str → Option Value} {base : Heap} {cl : Cls} {fa : Addr} {fd : FuncData} (F : Fun K "length_of" "length_of" st_length_of fa fd) (hm : mg "length_of" = some (.ref fa)) (G_series_time : GoodF P w K mg base cl 1 "series_time" 2 s_series_time) (m_len : mg "len" = none) (m_range : mg "range" = none) :
    GoodF P w K mg base cl 2 "length_of" 1 s_length_of :=
  ⟨fa, fd, ["rule"], def_ok [1, 2, 3] false F sc_length_of (fun cdv A outer s H E c po => dss_cons (ds_asg (de_var 0) (dg_tup c.calm (dgs_cons (dg_name (i := 1) c.nd) (dgs_cons (dg_name (i := 2) c.nd) (dgs_nil)))))
    (dss_cons (ds_for po c.calm (di_range2 (by rfl) m_range (da_cons (de_int) (da_cons (de_op op_addD add_D (de_callB (r := rLenD _) call_len_seq len_D (by rfl) m_len (by decide +kernel) (da_cons (de_var 1) (da_nil))) (de_int)) da_nil))) (dg_name (i := 3) c.nd) (dss_one (ds_if (dt_cmp op_ge bool_D (de_op op_mulX mulX_D (de_var 3) (de_ix ix_D ix_Dok (de_var 1) (de_op op_subT sub_D (de_var 3) (de_int)) (fun _ _ => rfl))) (de_op op_addD add_D (de_call G_series_time c (das_cons (de_var 0) (das_cons (de_var 3) (das_nil))) (by rfl)) (de_var 2)) (nomark _)) (dss_one (ds_ret (de_var 3))) (dss_nil))))
    (dss_one (ds_ret (de_non))))), hm, F.kp, F.binds (ps := ["rule"]) fun _ _ _ _ _ _ us hl => match us, hl with | [_], _ => rfl⟩
abbrev st_time_of : Stmt := topS 20
theorem sc_time_of : FnScope ["rule", "tries", "series", "short", "more", "whole"] ["rule", "tries", "series"] (defScope st_time_of) := ⟨rfl, rfl, rfl, by decide +kernel, rfl, by decide +kernel, by decide +kernel⟩
theorem ok_time_of {P : Program} {w : World} {K : PySem.W.Frag} {mg : Str → Option Value} {base : Heap} {cl : Cls} {fa : Addr} {fd : FuncData} (F : Fun K "time_of" "time_of" st_time_of fa fd) (hm : mg "time_of" = some (.ref fa)) (G_series_time : GoodF P w K mg base cl 1 "series_time" 2 s_series_time) :
    GoodF P w K mg base cl 2 "time_of" 3 s_time_of :=
  ⟨fa, fd, ["rule", "tries", "series"], def_ok [3, 4, 5] false F sc_time_of (fun cdv A outer s H E c po => dss_cons (ds_set2 (i := 3) (j := 4) c.calm c.nd (de_op op_fdivW div_D (de_var 1) (de_var 2)) (de_op op_mod mod_D (de_var 1) (de_var 2)))
    (dss_cons (ds_set (i := 5) c.nd (de_op op_addD add_D (de_op op_mulX mulX_D (de_op op_subT sub_D (de_var 2) (de_var 4)) (de_call G_series_time c (das_cons (de_var 0) (das_cons (de_var 3) (das_nil))) (by rfl))) (de_op op_mulX mulX_D (de_op op_subT sub_D (de_var 2) (de_int)) (de_ix ix_D ix_Dok (de_var 0) (de_int) (fun _ _ => rfl)))))
    (dss_one (ds_ret (de_op op_addD add_D (de_var 5) (de_op op_mulX mulX_D (de_var 4) (de_call G_series_time c (das_cons (de_var 0) (das_cons (de_op op_addD add_D (de_var 3) (de_int)) (das_nil))) (by rfl)))))))), hm, F.kp, F.binds (ps := ["rule", "tries", "series"]) fun _ _ _ _ _ _ us hl => match us, hl with | [_, _, _], _ => rfl⟩
abbrev st_law_bag : Stmt := topS 27
theorem sc_law_bag : FnScope ["script", "k"] ["script", "k"] (defScope st_law_bag) := ⟨rfl, rfl, rfl, by decide +kernel, rfl, by decide +kernel, by decide +kernel⟩
theorem ok_law_bag {P : Program} {w : World} {K : PySem.W.Frag} {mg : Str → Option Value} {base : Heap} {cl : Cls} {fa : Addr} {fd : FuncData} (F : Fun K "_law_bag" "_law_bag" st_law_bag fa fd) (hm : mg "_law_bag" = some (.ref fa)) (G_law_draws : GoodF P w K mg base cl 1 "_law_draws" 3 s_law_draws) (G_law_cell_at : GoodF P w K mg base cl 1 "_law_cell_at" 2 s_law_cell_at) :
    GoodF P w K mg base cl 2 "_law_bag" 2 s_law_bag :=
  ⟨fa, fd, ["script", "k"], def_ok [] false F sc_law_bag (fun cdv A outer s H E c po => dss_one (ds_ret (de_lst (das_cons (de_call G_law_draws c (das_cons (de_call G_law_cell_at c (das_cons (de_var 0) (das_cons (de_var 1) (das_nil))) (by rfl)) (das_cons (de_int) (das_cons (de_int) (das_nil)))) (by rfl)) (das_cons (de_int) (das_nil)))))), hm, F.kp, F.binds (ps := ["script", "k"]) fun _ _ _ _ _ _ us hl => match us, hl with | [_, _], _ => rfl⟩
abbrev st_law_far_draw : Stmt := topS 30
theorem sc_law_far_draw : FnScope ["bag", "many", "found", "much"] ["bag", "many"] (defScope st_law_far_draw) := ⟨rfl, rfl, rfl, by decide +kernel, rfl, by decide +kernel, by decide +kernel⟩
theorem ok_law_far_draw {P : Program} {w : World} {K : PySem.W.Frag} {mg : Str → Option Value} {base : Heap} {cl : Cls} {fa : Addr} {fd : FuncData} (F : Fun K "_law_far_draw" "_law_far_draw" st_law_far_draw fa fd) (hm : mg "_law_far_draw" = some (.ref fa)) (G_law_take : GoodF P w K mg base cl 1 "_law_take" 2 s_law_take) :
    GoodF P w K mg base cl 2 "_law_far_draw" 2 s_law_far_draw :=
  ⟨fa, fd, ["bag", "many"], def_ok [2, 3] true F sc_law_far_draw (fun cdv A outer s H E c po => dss_cons (ds_set2 (i := 2) (j := 3) c.calm c.nd (de_int) (de_var 1))
    (dss_cons (ds_while 1000000 po (dt_cmp op_gt bool_D (de_var 3) (de_int) (nomark _)) (dss_one (ds_set2 (i := 2) (j := 3) c.calm c.nd (de_op op_addD add_D (de_op op_mulX mulX_D (de_int) (de_var 2)) (de_callIO (i := 0) G_law_take c (das_cons (de_int) (das_nil)) (by rfl))) (de_op op_fdivW div_D (de_var 3) (de_int)))))
    (dss_one (ds_ret (de_ix ix_D ix_Dok (de_lst (das_cons (de_op op_mod mod_D (de_var 2) (de_var 1)) (das_cons (de_int) (das_cons (de_op op_subT sub_D (de_var 1) (de_int)) (das_cons (de_op op_mod mod_D (de_var 2) (de_var 1)) (das_nil)))))) (de_callIO (i := 0) G_law_take c (das_cons (de_int) (das_nil)) (by rfl)) (fun _ _ => rfl)))))), hm, F.kp, F.binds (ps := ["bag", "many"]) fun _ _ _ _ _ _ us hl => match us, hl with | [_, _], _ => rfl⟩
abbrev st_law_rule : Stmt := topS 31
theorem sc_law_rule : FnScope ["bag", "wait", "found", "wide", "turn", "more"] ["bag"] (defScope st_law_rule) := ⟨rfl, rfl, rfl, by decide +kernel, rfl, by decide +kernel, by decide +kernel⟩
theorem ok_law_rule {P : Program} {w : World} {K : PySem.W.Frag} {mg : Str → Option Value} {base : Heap} {cl : Cls} {fa : Addr} {fd : FuncData} (F : Fun K "_law_rule" "_law_rule" st_law_rule fa fd) (hm : mg "_law_rule" = some (.ref fa)) (G_law_take : GoodF P w K mg base cl 1 "_law_take" 2 s_law_take) (m_min : mg "min" = none) (m_range : mg "range" = none) :
    GoodF P w K mg base cl 2 "_law_rule" 1 s_law_rule :=
  ⟨fa, fd, ["bag"], def_ok [1, 2, 3, 4, 5] true F sc_law_rule (fun cdv A outer s H E c po => dss_cons (ds_set2 (i := 1) (j := 2) c.calm c.nd (de_op op_addD add_D (de_int) (de_callIO (i := 0) G_law_take c (das_cons (de_ix ix_D ix_Dok (de_lst (das_cons (de_int) (das_cons (de_int) (das_nil)))) (de_callIO (i := 0) G_law_take c (das_cons (de_int) (das_nil)) (by rfl)) (fun _ _ => rfl)) (das_nil)) (by rfl))) (de_tup (das_nil)))
    (dss_cons (ds_set (i := 3) c.nd (de_ix ix_D ix_Dok (de_lst (das_cons (de_int) (das_cons (de_int) (das_cons (de_int) (das_cons (de_int) (das_cons (de_int) (das_nil))))))) (de_callIO (i := 0) G_law_take c (das_cons (de_int) (das_nil)) (by rfl)) (fun _ _ => rfl)))
    (dss_cons (ds_for po c.calm (di_range1 (by rfl) m_range (da_cons (de_op op_addD add_D (de_int) (de_callIO (i := 0) G_law_take c (das_cons (de_int) (das_nil)) (by rfl))) da_nil)) (dg_name (i := 4) c.nd) (dss_cons (ds_set (i := 2) c.nd (de_op op_addD add_D (de_var 2) (de_tup (das_cons (de_callB (call_min2 c.calm) min2_D (by rfl) m_min (by decide +kernel) (da_cons (de_int) (da_cons (de_var 1) (da_nil)))) (das_nil)))))
    (dss_one (ds_set (i := 1) c.nd (de_op op_addD add_D (de_var 1) (de_callIO (i := 0) G_law_take c (das_cons (de_var 3) (das_nil)) (by rfl)))))))
    (dss_cons (ds_set (i := 5) c.nd (de_ix ix_D ix_Dok (de_lst (das_cons (de_int) (das_cons (de_int) (das_cons (de_callIO (i := 0) G_law_take c (das_cons (de_int) (das_nil)) (by rfl)) (das_cons (de_callIO (i := 0) G_law_take c (das_cons (de_int) (das_nil)) (by rfl)) (das_cons (de_int) (das_nil))))))) (de_callIO (i := 0) G_law_take c (das_cons (de_int) (das_nil)) (by rfl)) (fun _ _ => rfl)))
    (dss_one (ds_ret (de_tup (das_cons (de_var 2) (das_cons (de_callB (call_min2 c.calm) min2_D (by rfl) m_min (by decide +kernel) (da_cons (de_int) (da_cons (de_op op_addD add_D (de_ix ix_D ix_Dok (de_var 2) (de_un un_neg neg_D (de_int)) (fun _ _ => rfl)) (de_var 5)) (da_nil)))) (das_nil)))))))))), hm, F.kp, F.binds (ps := ["bag"]) fun _ _ _ _ _ _ us hl => match us, hl with | [_], _ => rfl⟩
abbrev st_law_series : Stmt := topS 34
theorem sc_law_series : FnScope ["rule", "tries", "step"] ["rule", "tries"] (defScope st_law_series) := ⟨rfl, rfl, rfl, by decide +kernel, rfl, by decide +kernel, by decide +kernel⟩
theorem ok_law_series {P : Program} {w : World} {K : PySem.W.Frag} {mg : Str → Option Value} {base : Heap} {cl : Cls} {fa : Addr} {fd : FuncData} (F : Fun K "_law_series" "_law_series" st_law_series fa fd) (hm : mg "_law_series" = some (.ref fa)) (G_law_wait : GoodF P w K mg base cl 1 "_law_wait" 2 s_law_wait) (m_range : mg "range" = none) (m_sum : mg "sum" = none) :
    GoodF P w K mg base cl 2 "_law_series" 2 s_law_series :=
  ⟨fa, fd, ["rule", "tries"], def_ok [] false F sc_law_series (fun cdv A outer s H E c po => dss_one (ds_ret (de_callB (cr_sumT c.calm) sumA_D (by rfl) m_sum (by decide +kernel) (da_cons (de_comp (own := [("step", 2)]) c (di_range2 (by rfl) m_range (da_cons (de_int) (da_cons (de_var 1) da_nil))) (blkOk_by (N := ["rule", "tries", "step"]) (sc := defScope st_law_series) (by decide +kernel)) (fun _ _ _ _ _ => dg_name (i := 2) c.nd) (fun _ _ _ _ _ c' => dts_nil) (fun _ _ _ _ _ c' => de_call G_law_wait c' (das_cons (de_var 0) (das_cons (de_var 2) (das_nil))) (by rfl))) (da_nil))))), hm, F.kp, F.binds (ps := ["rule", "tries"]) fun _ _ _ _ _ _ us hl => match us, hl with | [_, _], _ => rfl⟩
abbrev st_is_rule : Stmt := topS 13
theorem sc_is_rule : FnScope ["value"] ["value"] (defScope st_is_rule) := ⟨rfl, rfl, rfl, by decide +kernel, rfl, by decide +kernel, by decide +kernel⟩
theorem ok_is_rule {P : Program} {w : World} {K : PySem.W.Frag} {mg : Str → Option Value} {base : Heap} {cl : Cls} {fa : Addr} {fd : FuncData} (F : Fun K "is_rule" "is_rule" st_is_rule fa fd) (hm : mg "is_rule" = some (.ref fa)) (G_are_waits : GoodF P w K mg base cl 2 "are_waits" 1 s_are_waits) (G_is_integer : GoodF P w K mg base cl 1 "is_integer" 3 s_is_integer) (m_isinstance : mg "isinstance" = none) (m_len : mg "len" = none) (m_tuple : mg "tuple" = none) {t_LONGEST_PAUSE : Tok} (m_LONGEST_PAUSE : mg "LONGEST_PAUSE" = some (.int 200 t_LONGEST_PAUSE)) :
    GoodF P w K mg base cl 3 "is_rule" 1 s_is_rule :=
  ⟨fa, fd, ["value"], def_ok [] false F sc_is_rule (fun cdv A outer s H E c po => dss_cons (ds_if ((dw_or (dt_not (dt_val (de_callB call_isi isi_D (by rfl) m_isinstance (by decide +kernel) (da_cons (de_var 0) (da_cons (de_C (pe_bltn (v := .ty "tuple") (by rfl) m_tuple (by decide +kernel) rfl) (fun _ => .ty .tuple)) (da_nil)))))) (dw_or (dt_cmp (op_neP c.hu) ne_D (de_callB (r := rLenD _) call_len_seq len_D (by rfl) m_len (by decide +kernel) (da_cons (de_var 0) (da_nil))) (de_int) (nomark _)) (dw_or1 (dt_not (dt_val (de_call G_are_waits c (das_cons (de_ix ix_D ix_Dok (de_var 0) (de_int) (fun _ _ => rfl)) (das_nil)) (by rfl))))))).dt) (dss_one (ds_ret (de_bl))) (dss_nil))
    (dss_one (ds_ret (de_call G_is_integer c (das_cons (de_ix ix_D ix_Dok (de_var 0) (de_int) (fun _ _ => rfl)) (das_cons (de_ix ix_D ix_Dok (de_ix ix_D ix_Dok (de_var 0) (de_int) (fun _ _ => rfl)) (de_un un_neg neg_D (de_int)) (fun _ _ => rfl)) (das_cons (de_glob (v := .int 200) (by rfl) m_LONGEST_PAUSE ⟨_, rfl⟩ (fun _ => .int _)) (das_nil)))) (by rfl))))), hm, F.kp, F.binds (ps := ["value"]) fun _ _ _ _ _ _ us hl => match us, hl with | [_], _ => rfl⟩
abbrev st_earliest_of : Stmt := topS 21
theorem sc_earliest_of : FnScope ["rule", "tries", "best", "near", "some", "series"] ["rule", "tries"] (defScope st_earliest_of) := ⟨rfl, rfl, rfl, by decide +kernel, rfl, by decide +kernel, by decide +kernel⟩
theorem ok_earliest_of {P : Program} {w : World} {K : PySem.W.Frag} {mg : Str → Option Value} {base : Heap} {cl : Cls} {fa : Addr} {fd : FuncData} (F : Fun K "earliest_of" "earliest_of" st_earliest_of fa fd) (hm : mg "earliest_of" = some (.ref fa)) (G_length_of : GoodF P w K mg base cl 2 "length_of" 1 s_length_of) (G_time_of : GoodF P w K mg base cl 2 "time_of" 3 s_time_of) (m_min : mg "min" = none) (m_range : mg "range" = none) :
    GoodF P w K mg base cl 3 "earliest_of" 2 s_earliest_of :=
  ⟨fa, fd, ["rule", "tries"], def_ok [2, 3, 4] false F sc_earliest_of (fun cdv A outer s H E c po => dss_cons (ds_set (i := 2) c.nd (de_call G_length_of c (das_cons (de_var 0) (das_nil)) (by rfl)))
    (dss_cons (ds_if (dt_cmp (r := rIsN) op_isN isN_D (de_var 2) (de_non) (nomark _)) (dss_one (ds_ret (de_call G_time_of c (das_cons (de_var 0) (das_cons (de_var 1) (das_cons (de_int) (das_nil)))) (by rfl)))) (dss_nil))
    (dss_cons (ds_set (i := 3) c.nd (de_op op_fdivW div_D (de_var 1) (de_var 2)))
    (dss_cons (ds_setComp (i := 4) (own := [("series", 5)]) c (di_range2 (by rfl) m_range (da_cons (de_op op_subT sub_D (de_var 3) (de_int)) (da_cons (de_op op_addD add_D (de_var 3) (de_int)) da_nil))) (blkOk_by (N := ["rule", "tries", "best", "near", "some", "series"]) (sc := defScope st_earliest_of) (by decide +kernel)) (fun _ _ _ _ _ => dg_name (i := 5) c.nd) (fun _ _ _ _ _ c' => dts_one (dt_chain (g := (fun i j => decide (i ≤ j))) (g' := (fun i j => decide (i ≤ j))) op_le op_le (de_int) (de_var 5) (de_var 1))) (fun _ _ _ _ _ c' => de_var 5))
    (dss_one (ds_ret (de_callB (cr_min c.calm) minL_D (by rfl) m_min (by decide +kernel) (da_cons (de_comp (own := [("series", 5)]) c (di_seq (de_op op_addD add_D (de_var 4) (de_lst (das_cons (de_int) (das_nil))))) (blkOk_by (N := ["rule", "tries", "best", "near", "some", "series"]) (sc := defScope st_earliest_of) (by decide +kernel)) (fun _ _ _ _ _ => dg_name (i := 5) c.nd) (fun _ _ _ _ _ c' => dts_nil) (fun _ _ _ _ _ c' => de_call G_time_of c' (das_cons (de_var 0) (das_cons (de_var 1) (das_cons (de_var 5) (das_nil)))) (by rfl))) (da_nil))))))))), hm, F.kp, F.binds (ps := ["rule", "tries"]) fun _ _ _ _ _ _ us hl => match us, hl with | [_, _], _ => rfl⟩
abbrev st_law_bags : Stmt := topS 28
theorem sc_law_bags : FnScope ["script", "limit", "k"] ["script", "limit"] (defScope st_law_bags) := ⟨rfl, rfl, rfl, by decide +kernel, rfl, by decide +kernel, by decide +kernel⟩
theorem ok_law_bags {P : Program} {w : World} {K : PySem.W.Frag} {mg : Str → Option Value} {base : Heap} {cl : Cls} {fa : Addr} {fd : FuncData} (F : Fun K "_law_bags" "_law_bags" st_law_bags fa fd) (hm : mg "_law_bags" = some (.ref fa)) (G_law_bag : GoodF P w K mg base cl 2 "_law_bag" 2 s_law_bag) (m_len : mg "len" = none) (m_max : mg "max" = none) (m_min : mg "min" = none) (m_range : mg "range" = none) :
    GoodO P w K mg base 3 "_law_bags" 2 s_law_bags :=
  ⟨fa, fd, ["script", "limit"], def_okO (cl := cl) F sc_law_bags rfl (fun cdv A outer s H E c => do_comp (own := [("k", 2)]) c (di_range1 (by rfl) m_range (da_cons (de_callB (call_max2 c.calm) max2_D (by rfl) m_max (by decide +kernel) (da_cons (de_int) (da_cons (de_callB (call_min2 c.calm) min2_D (by rfl) m_min (by decide +kernel) (da_cons (de_var 1) (da_cons (de_callB (r := rLenD _) call_len_seq len_D (by rfl) m_len (by decide +kernel) (da_cons (de_var 0) (da_nil))) (da_nil)))) (da_nil)))) da_nil)) (blkOk_by (N := ["script", "limit", "k"]) (sc := defScope st_law_bags) (by decide +kernel)) (fun _ _ _ _ _ => dg_name (i := 2) c.nd) (fun _ _ _ _ _ c' => de_call G_law_bag c' (das_cons (de_var 0) (das_cons (de_var 2) (das_nil))) (by rfl))), hm, F.kp, F.binds (ps := ["script", "limit"]) fun _ _ _ _ _ _ us hl => match us, hl with | [_, _], _ => rfl⟩
abbrev st_law_small : Stmt := topS 35
theorem sc_law_small : FnScope ["rule", "most", "found", "tries", "ways", "last"] ["rule", "most"] (defScope st_law_small) := ⟨rfl, rfl, rfl, by decide +kernel, rfl, by decide +kernel, by decide +kernel⟩
theorem ok_law_small {P : Program} {w : World} {K : PySem.W.Frag} {mg : Str → Option Value} {base : Heap} {cl : Cls} {fa : Addr} {fd : FuncData} (F : Fun K "_law_small" "_law_small" st_law_small fa fd) (hm : mg "_law_small" = some (.ref fa)) (G_law_series : GoodF P w K mg base cl 2 "_law_series" 2 s_law_series) (m_min : mg "min" = none) (m_range : mg "range" = none) :
    GoodF P w K mg base cl 3 "_law_small" 2 s_law_small :=
  ⟨fa, fd, ["rule", "most"], def_ok [2, 3, 4] false F sc_law_small (fun cdv A outer s H E c po => dss_cons (ds_set (i := 2) c.nd (de_lst (das_cons (de_int) (das_nil))))
    (dss_cons (ds_for po c.calm (di_range2 (by rfl) m_range (da_cons (de_int) (da_cons (de_op op_addD add_D (de_var 1) (de_int)) da_nil))) (dg_name (i := 3) c.nd) (dss_cons (ds_set (i := 4) c.nd (de_lst (das_cons (de_call G_law_series c (das_cons (de_var 0) (das_cons (de_var 3) (das_nil))) (by rfl)) (das_nil))))
    (dss_cons (ds_set (i := 4) c.nd (de_op op_addD add_D (de_var 4) (de_comp (own := [("last", 5)]) c (di_range2 (by rfl) m_range (da_cons (de_int) (da_cons (de_var 3) da_nil))) (blkOk_by (N := ["rule", "most", "found", "tries", "ways", "last"]) (sc := defScope st_law_small) (by decide +kernel)) (fun _ _ _ _ _ => dg_name (i := 5) c.nd) (fun _ _ _ _ _ c' => dts_nil) (fun _ _ _ _ _ c' => de_op op_addD add_D (de_op op_addD add_D (de_ix ix_D ix_Dok (de_var 2) (de_op op_subT sub_D (de_var 3) (de_var 5)) (fun _ _ => rfl)) (de_ix ix_D ix_Dok (de_var 0) (de_int) (fun _ _ => rfl))) (de_call G_law_series c' (das_cons (de_var 0) (das_cons (de_var 5) (das_nil))) (by rfl))))))
    (dss_one (ds_append (i := 2) (de_callB (cr_min c.calm) minL_D (by rfl) m_min (by decide +kernel) (da_cons (de_var 4) (da_nil))) (pe := fun _ _ ha he => pe_bm PySem.F.plainAttrs_list PySem.F.slot_list_append PySem.F.type_list_append mt_append ha (pa_cons he pa_nil)))))))
    (dss_one (ds_ret (de_var 2))))), hm, F.kp, F.binds (ps := ["rule", "most"]) fun _ _ _ _ _ _ us hl => match us, hl with | [_, _], _ => rfl⟩
abbrev st_need_rule : Stmt := topS 14
theorem sc_need_rule : FnScope ["value"] ["value"] (defScope st_need_rule) := ⟨rfl, rfl, rfl, by decide +kernel, rfl, by decide +kernel, by decide +kernel⟩
theorem ok_need_rule {P : Program} {w : World} {K : PySem.W.Frag} {mg : Str → Option Value} {base : Heap} {cl : Cls} {fa : Addr} {fd : FuncData} (F : Fun K "need_rule" "need_rule" st_need_rule fa fd) (hm : mg "need_rule" = some (.ref fa)) (G_is_rule : GoodF P w K mg base cl 3 "is_rule" 1 s_is_rule) {C_InvalidRule : Addr} (o_InvalidRule : ClsOk K mg cl 0 "InvalidRule" C_InvalidRule) :
    GoodF P w K mg base cl 4 "need_rule" 1 s_need_rule :=
  ⟨fa, fd, ["value"], def_ok [] false F sc_need_rule (fun cdv A outer s H E c po => dss_one (ds_if (dt_not (dt_val (de_call G_is_rule c (das_cons (de_var 0) (das_nil)) (by rfl)))) (dss_one (ds_raise o_InvalidRule c (by rfl))) (dss_nil))), hm, F.kp, F.binds (ps := ["value"]) fun _ _ _ _ _ _ us hl => match us, hl with | [_], _ => rfl⟩
abbrev st_earliest : Stmt := topS 22
theorem sc_earliest : FnScope ["rule", "number"] ["rule", "number"] (defScope st_earliest) := ⟨rfl, rfl, rfl, by decide +kernel, rfl, by decide +kernel, by decide +kernel⟩
theorem ok_earliest {P : Program} {w : World} {K : PySem.W.Frag} {mg : Str → Option Value} {base : Heap} {cl : Cls} {fa : Addr} {fd : FuncData} (F : Fun K "earliest" "earliest" st_earliest fa fd) (hm : mg "earliest" = some (.ref fa)) (G_need_rule : GoodF P w K mg base cl 4 "need_rule" 1 s_need_rule) (G_is_integer : GoodF P w K mg base cl 1 "is_integer" 3 s_is_integer) (G_earliest_of : GoodF P w K mg base cl 3 "earliest_of" 2 s_earliest_of) {C_InvalidNumber : Addr} (o_InvalidNumber : ClsOk K mg cl 3 "InvalidNumber" C_InvalidNumber) {t_MANY : Tok} (m_MANY : mg "MANY" = some (.int 1000000000000 t_MANY)) :
    GoodF P w K mg base cl 5 "earliest" 2 s_earliest :=
  ⟨fa, fd, ["rule", "number"], def_ok [] false F sc_earliest (fun cdv A outer s H E c po => dss_cons (ds_expr (de_call G_need_rule c (das_cons (de_var 0) (das_nil)) (by rfl)))
    (dss_cons (ds_if (dt_not (dt_val (de_call G_is_integer c (das_cons (de_var 1) (das_cons (de_int) (das_cons (de_glob (v := .int 1000000000000) (by rfl) m_MANY ⟨_, rfl⟩ (fun _ => .int _)) (das_nil)))) (by rfl)))) (dss_one (ds_raise o_InvalidNumber c (by rfl))) (dss_nil))
    (dss_one (ds_ret (de_call G_earliest_of c (das_cons (de_var 0) (das_cons (de_var 1) (das_nil))) (by rfl)))))), hm, F.kp, F.binds (ps := ["rule", "number"]) fun _ _ _ _ _ _ us hl => match us, hl with | [_, _], _ => rfl⟩
abbrev st_most_until : Stmt := topS 23
theorem sc_most_until : FnScope ["rule", "time", "low", "high", "middle"] ["rule", "time"] (defScope st_most_until) := ⟨rfl, rfl, rfl, by decide +kernel, rfl, by decide +kernel, by decide +kernel⟩
theorem ok_most_until {P : Program} {w : World} {K : PySem.W.Frag} {mg : Str → Option Value} {base : Heap} {cl : Cls} {fa : Addr} {fd : FuncData} (F : Fun K "most_until" "most_until" st_most_until fa fd) (hm : mg "most_until" = some (.ref fa)) (G_need_rule : GoodF P w K mg base cl 4 "need_rule" 1 s_need_rule) (G_need_time : GoodF P w K mg base cl 2 "need_time" 3 s_need_time) (G_earliest_of : GoodF P w K mg base cl 3 "earliest_of" 2 s_earliest_of) {t_MANY : Tok} (m_MANY : mg "MANY" = some (.int 1000000000000 t_MANY)) :
    GoodF P w K mg base cl 5 "most_until" 2 s_most_until :=
  ⟨fa, fd, ["rule", "time"], def_ok [2, 3, 4] false F sc_most_until (fun cdv A outer s H E c po => dss_cons (ds_expr (de_call G_need_rule c (das_cons (de_var 0) (das_nil)) (by rfl)))
    (dss_cons (ds_expr (de_call G_need_time c (das_cons (de_var 1) (das_cons (de_int) (das_cons (de_glob (v := .int 1000000000000) (by rfl) m_MANY ⟨_, rfl⟩ (fun _ => .int _)) (das_nil)))) (by rfl)))
    (dss_cons (ds_set2 (i := 2) (j := 3) c.calm c.nd (de_int) (de_op op_addD add_D (de_var 1) (de_int)))
    (dss_cons (ds_while 1000000 po (dt_cmp op_gt bool_D (de_op op_subT sub_D (de_var 3) (de_var 2)) (de_int) (nomark _)) (dss_cons (ds_set (i := 4) c.nd (de_op op_fdivW div_D (de_op op_addD add_D (de_var 2) (de_var 3)) (de_int)))
    (dss_one (ds_if (dt_cmp op_le bool_D (de_call G_earliest_of c (das_cons (de_var 0) (das_cons (de_var 4) (das_nil))) (by rfl)) (de_var 1) (nomark _)) (dss_one (ds_set (i := 2) c.nd (de_var 4))) (dss_one (ds_set (i := 3) c.nd (de_var 4)))))))
    (dss_one (ds_ret (de_var 2))))))), hm, F.kp, F.binds (ps := ["rule", "time"]) fun _ _ _ _ _ _ us hl => match us, hl with | [_, _], _ => rfl⟩
abbrev st_law_error : Stmt := topS 33
theorem sc_law_error : FnScope ["call", "a", "b", "c", "kinds", "e", "rows", "name", "there"] ["call", "a", "b", "c"] (defScope st_law_error) := ⟨rfl, rfl, rfl, by decide +kernel, rfl, by decide +kernel, by decide +kernel⟩
theorem ok_errL {P : Program} {w : World} {K : PySem.W.Frag} {mg : Str → Option Value} {base : Heap} {cl : Cls} {fe : Addr} {fd : FuncData} {Ce : Nat → Addr} {Wt : Addr} (F : Fun K "_law_error" "_law_error" st_law_error fe fd) (T : ErrT K mg cl Ce Wt) (k : Nat) (g : FS) : RunE P w K mg base cl k fe g :=
  errL_run (W := [4, 5, 6]) F sc_law_error rfl rfl (F.binds (ps := ["call", "a", "b", "c"]) fun _ _ _ _ _ _ us hl => match us, hl with | [_, _, _, _], _ => rfl) (fun f c0 ob cdv A outer s H E hfd R c hob => dss3G (ds_set (i := 4) c.nd (de_lst das_nil)) (lawTryL c rfl rfl suite_eval R hob hfd (Nat.le_refl _) T.hx (fun a oe pn k k6 hz hf => dss_cons (ds_set (i := 6) c.nd (de_lst (das_cons (de_tup (das_cons de_str (das_cons (de_isE (i := 5) (T.ex k k6) (T.zc k6 hz) hf (pe_glob (v := .ref (Ce 0)) (by rfl) (T.o 0 (by decide)).gC rfl) (fun _ r => r) (T.kit k 0 k6 (by decide)) (by rfl) T.zi) das_nil))) (das_cons (de_tup (das_cons de_str (das_cons (de_isE (i := 5) (T.ex k k6) (T.zc k6 hz) hf (pe_glob (v := .ref (Ce 1)) (by rfl) (T.o 1 (by decide)).gC rfl) (fun _ r => r) (T.kit k 1 k6 (by decide)) (by rfl) T.zi) das_nil))) (das_nil)))))
    (dss_cons (ds_set (i := 6) c.nd (de_op op_addD add_D (de_var 6) (de_lst (das_cons (de_tup (das_cons de_str (das_cons (de_isE (i := 5) (T.ex k k6) (T.zc k6 hz) hf (pe_glob (v := .ref (Ce 2)) (by rfl) (T.o 2 (by decide)).gC rfl) (fun _ r => r) (T.kit k 2 k6 (by decide)) (by rfl) T.zi) das_nil))) (das_nil)))))
    (dss_cons (ds_set (i := 6) c.nd (de_op op_addD add_D (de_var 6) (de_lst (das_cons (de_tup (das_cons de_str (das_cons (de_isE (i := 5) (T.ex k k6) (T.zc k6 hz) hf (pe_glob (v := .ref (Ce 3)) (by rfl) (T.o 3 (by decide)).gC rfl) (fun _ r => r) (T.kit k 3 k6 (by decide)) (by rfl) T.zi) das_nil))) (das_nil)))))
    (dss_cons (ds_append (i := 6) (de_tup (das_cons de_str (das_cons (de_isE (i := 5) (T.ex k k6) (T.zc k6 hz) hf (pe_glob (v := .ref (Ce 4)) (by rfl) (T.o 4 (by decide)).gC rfl) (fun _ r => r) (T.kit k 4 k6 (by decide)) (by rfl) T.zi) das_nil))) (pe := fun _ _ ha he => pe_bm PySem.F.plainAttrs_list PySem.F.slot_list_append PySem.F.type_list_append mt_append ha (pa_cons he pa_nil)))
    (dss_cons (ds_append (i := 6) (de_tup (das_cons de_str (das_cons (de_isE (i := 5) (T.ex k k6) (T.zc k6 hz) hf (pe_glob (v := .ref (Ce 5)) (by rfl) (T.o 5 (by decide)).gC rfl) (fun _ r => r) (T.kit k 5 k6 (by decide)) (by rfl) T.zi) das_nil))) (pe := fun _ _ ha he => pe_bm PySem.F.plainAttrs_list PySem.F.slot_list_append PySem.F.type_list_append mt_append ha (pa_cons he pa_nil)))
    (dss_one (ds_set (i := 4) c.nd (de_op op_addD add_D (de_compH (own := [("name", 7), ("there", 8)]) (suite_hot hz hf) c.nd (de_var 6) (blkOk_by (N := ["call", "a", "b", "c", "kinds", "e", "rows", "name", "there"]) (sc := defScope st_law_error) (by decide +kernel)) (fun _ _ _ _ _ h => dg_tupH h (dgs_cons (dg_name (i := 7) c.nd) (dgs_cons (dg_name (i := 8) c.nd) dgs_nil))) (fun _ _ _ _ _ => dts_one (dt_val (de_var 8))) (fun _ _ _ _ _ => de_var 7)) (de_lst (das_cons (de_isE (i := 5) (T.ex k k6) (T.zc k6 hz) hf (pe_bltn (v := .ty "ValueError") (by rfl) T.zv (by decide +kernel) rfl) (fun _ r => r) (T.kv k k6) (by rfl) T.zi) das_nil))))))))))
    ⟨rfl, by decide, .inl T.gw⟩ (by decide) (by decide) (by decide) rfl rfl rfl rfl rfl (.inl rfl) (.inl rfl) (.inl rfl) (.inl rfl) rfl (by decide) (by decide) (by decide) (by decide) (by decide) (by decide) (by decide) (by decide) rfl rfl rfl rfl rfl) (ds_ret (de_var 4)))
abbrev st_law : Stmt := topS 36
theorem sc_law : FnScope ["script", "bag", "rule", "time", "table", "odd", "many", "count", "turn", "one"] ["script"] (defScope st_law) := ⟨rfl, rfl, rfl, by decide +kernel, rfl, by decide +kernel, by decide +kernel⟩
theorem okF_law {P : Program} {w : World} {K : PySem.W.Frag} {mg : Str → Option Value} {base : Heap} {cl : Cls} {fa : Addr} {oc kV doc pm ct : Value} {cc Pt : Addr} {od an : Option Addr} {osl : Array (Option Value)} (lk : K.lookup fa = some ⟨oc, od, .func (PySem.W.fnOf "law" "law" (defArgs st_law) (defBody st_law) (defScope st_law) .none kV doc pm an (.ref cc) ct), osl⟩) (hcd : PySem.W.codeIn K (.ref cc) "law" = true) (TB : LamX.TabB base mg cc Pt) {fe : Addr} (mE : mg "_law_error" = some (.ref fe)) (kE : PySem.W.keepIn K (.ref fe) = true) (RE : ∀ k g, RunE P w K mg base cl k fe g) (G_law_bags : GoodO P w K mg base 3 "_law_bags" 2 s_law_bags) (G_law_rule : GoodF P w K mg base cl 2 "_law_rule" 1 s_law_rule) (G_law_take : GoodF P w K mg base cl 1 "_law_take" 2 s_law_take) (G_law_far_draw : GoodF P w K mg base cl 2 "_law_far_draw" 2 s_law_far_draw) (G_most_until : GoodF P w K mg base cl 5 "most_until" 2 s_most_until) (G_earliest : GoodF P w K mg base cl 5 "earliest" 2 s_earliest) (G_law_small : GoodF P w K mg base cl 3 "_law_small" 2 s_law_small) (m_len : mg "len" = none) (m_range : mg "range" = none) :
    FnOk P w K mg base (L2N.CX P w) 8 fa (PySem.W.fnOf "law" "law" (defArgs st_law) (defBody st_law) (defScope st_law) .none kV doc pm an (.ref cc) ct) ["script"] (spD K cl 1 (s_law Pt)) :=
  def_okC [1, 2, 3, 4, 5, 6, 7] false lk hcd sc_law (fun A outer s H E c po => dss_cons (ds_forO (i := 1) po c (do_call G_law_bags c (das_cons (de_varT 0) (das_cons (de_int) (das_nil))) (by rfl)) (dss_cons (ds_set (i := 2) c.nd (de_callIO (i := 1) G_law_rule c (das_nil) (by rfl)))
    (dss_cons (ds_for po c.calm (di_seq (de_tup (das_cons (de_int) (das_cons (de_callIO (i := 1) G_law_take c (das_cons (de_int) (das_nil)) (by rfl)) (das_cons (de_callIO (i := 1) G_law_far_draw c (das_cons (de_op op_pow pow_D (de_int) (de_int)) (das_nil)) (by rfl)) (das_cons (de_op op_pow pow_D (de_int) (de_int)) (das_nil))))))) (dg_name (i := 3) c.nd) (dss_cons (ds_set (i := 6) c.nd (de_call G_most_until c (das_cons (de_var 2) (das_cons (de_var 3) (das_nil))) (by rfl)))
    (dss_cons (ds_if ((dw_or (dt_cmp op_lt bool_D (de_var 6) (de_int) (nomark _)) (dw_or1 ((dw_and (dt_cmp op_le bool_D (de_var 6) (de_op op_pow pow_D (de_int) (de_int)) (nomark _)) (dw_and1 (dt_cmp op_gt bool_D (de_call G_earliest c (das_cons (de_var 2) (das_cons (de_var 6) (das_nil))) (by rfl)) (de_var 3) (nomark _)))).dt))).dt) (dss_one (ds_ret (de_bl))) (dss_nil))
    (dss_one (ds_if ((dw_and (dt_cmp op_lt bool_D (de_var 6) (de_op op_pow pow_D (de_int) (de_int)) (nomark _)) (dw_and1 (dt_cmp op_le bool_D (de_call G_earliest c (das_cons (de_var 2) (das_cons (de_op op_addD add_D (de_var 6) (de_int)) (das_nil))) (by rfl)) (de_var 3) (nomark _)))).dt) (dss_one (ds_ret (de_bl))) (dss_nil))))))
    (dss_cons (ds_set (i := 4) c.nd (de_call G_law_small c (das_cons (de_var 2) (das_cons (de_int) (das_nil))) (by rfl)))
    (dss_cons (ds_for po c.calm (di_seq (de_op op_addD add_D (de_comp (own := [("turn", 8)]) c (di_range1 (by rfl) m_range (da_cons (de_int) da_nil)) (blkOk_by (N := ["script", "bag", "rule", "time", "table", "odd", "many", "count", "turn", "one"]) (sc := defScope st_law) (by decide +kernel)) (fun _ _ _ _ _ => dg_name (i := 8) c.nd) (fun _ _ _ _ _ c' => dts_nil) (fun _ _ _ _ _ c' => de_callIO (i := 1) G_law_take c' (das_cons (de_ix ix_D ix_Dok (de_var 4) (de_un un_neg neg_D (de_int)) (fun _ _ => rfl)) (das_nil)) (by rfl))) (de_lst (das_cons (de_ix ix_D ix_Dok (de_var 4) (de_int) (fun _ _ => rfl)) (das_cons (de_ix ix_D ix_Dok (de_var 4) (de_int) (fun _ _ => rfl)) (das_cons (de_op op_subT sub_D (de_ix ix_D ix_Dok (de_var 4) (de_int) (fun _ _ => rfl)) (de_int)) (das_nil))))))) (dg_name (i := 3) c.nd) (dss_cons (ds_set (i := 7) c.nd (de_callB (r := rLenD _) call_len_seq len_D (by rfl) m_len (by decide +kernel) (da_cons (de_comp (own := [("one", 9)]) c (di_seq (de_slice (de_var 4) (dp_int (de_int)) (dp_no))) (blkOk_by (N := ["script", "bag", "rule", "time", "table", "odd", "many", "count", "turn", "one"]) (sc := defScope st_law) (by decide +kernel)) (fun _ _ _ _ _ => dg_name (i := 9) c.nd) (fun _ _ _ _ _ c' => dts_one (dt_cmp op_le bool_D (de_var 9) (de_var 3) (nomark _))) (fun _ _ _ _ _ c' => de_var 9)) (da_nil))))
    (dss_one (ds_if ((dw_and (dt_chain (g := (fun i j => decide (i ≤ j))) (g' := (fun i j => decide (i < j))) op_le op_lt (de_int) (de_var 3) (de_ix ix_D ix_Dok (de_var 4) (de_un un_neg neg_D (de_int)) (fun _ _ => rfl))) (dw_and1 (dt_cmp (op_neP c.hu) ne_D (de_call G_most_until c (das_cons (de_var 2) (das_cons (de_var 3) (das_nil))) (by rfl)) (de_var 7) (nomark _)))).dt) (dss_one (ds_ret (de_bl))) (dss_nil)))))
    (dss_one (ds_for po c.calm (di_seq (de_tup (das_cons (de_un un_neg neg_D (de_int)) (das_cons (de_op op_addD add_D (de_op op_pow pow_D (de_int) (de_int)) (de_int)) (das_cons (de_non) (das_cons (de_bl) (das_cons (de_str) (das_nil)))))))) (dg_name (i := 5) c.nd) (dss_one (ds_if (dt_cmp (op_neP c.hu) ne_D (de_lamErr c TB rfl rfl (by rfl) mE kE (RE 6 (lamFS (eCall s_most_until [eV 0, eV 1]))) (by decide) (lam_runsD (cl := cl) ⟨rfl, rfl, rfl, by decide +kernel, rfl, by decide +kernel, by decide +kernel⟩ (fun _ _ _ us hl => match us, hl with | [_, _, _], _ => rfl) (fun f c3 A2 outer2 s2 H2 E2 c2 => de_call G_most_until c2 (das_cons (de_var 0) (das_cons (de_var 1) (das_nil))) (by rfl))) rfl (by refine noFree ?_; decide +kernel) rfl (das_cons (de_var 2) (das_cons (de_var 5) (das_cons (de_int) (das_nil))))) (de_lst (das_cons (de_str) (das_cons (de_bl) (das_nil)))) (nomark _)) (dss_one (ds_ret (de_bl))) (dss_nil))))))))))
    (dss_one (ds_ret (de_and (de_cmp (op_eqP c.hu) eq_D (de_call G_most_until c (das_cons (de_tup (das_cons (de_tup (das_cons (de_int) (das_cons (de_int) (das_nil)))) (das_cons (de_int) (das_nil)))) (das_cons (de_int) (das_nil))) (by rfl)) (de_int) (nomark _)) (de_one (de_cmp (op_eqP c.hu) eq_D (de_call G_most_until c (das_cons (de_tup (das_cons (de_tup (das_cons (de_int) (das_nil))) (das_cons (de_int) (das_nil)))) (das_cons (de_op op_pow pow_D (de_int) (de_int)) (das_nil))) (by rfl)) (de_op op_addD add_D (de_op op_pow pow_D (de_int) (de_int)) (de_int)) (nomark _)))))))
end GW

set_option Elab.async false
set_option linter.all false
set_option maxRecDepth 100000
namespace GW
open PySem L2
local macro_rules | `(tactic| walk_at "gw") => `(tactic| simp (disch := first | omega | (simp only [List.length_cons, List.length_nil, lim]; omega)) only [dMul_b, ev_C, ev_V, ev_V1, ev_V2, lk_dat, lk_tmp, lk_bor, lkB1, lkB2, so_dat, so_tmp, so_bor, toD1, toD2, toD3, op1, op2, ev_Bin, bin1_ok, bin2_ok, bin3_ok, ev_Un, un1_ok, un2_ok, aO_nil, aO_cons, aO1_ok, aO2_ok, lA_nil, lA_cons, lA_ok, ev_B, eB1_ok, eB2_ok, sto_dat, sto_tmp, sto_bor, stoB_ok, aS_nil, aS_cons, aS1_ok, aS2_ok, aS3_ok, ev_Tup, ev_Lst, tup1_ok, lst1_ok, ev_Call, call1_ok, back_dat, back_tmp, back_exc, ev_CallB, callB0_ok, callB1_ok, callB2_ok, callB3_dat, callB3_tmp, ev_Sl, sl1_ok, sl2_ok, sl3_ok, sl4_ok, gSl_t, gSl_l, ev_pNo, ev_pInt, pI1_ok, ev_If, if1_t, if1_f, ev_toB, toB1_ok, ev_And, ev_Or, ev_Not, and1_t, and1_f, or1_t, or1_f, not1_ok, ev_tAnd, ev_tOr, ev_tNot, tand1_t, tand1_f, tor1_t, tor1_f, tnot1_ok, ev_tYes, ev_Chain, ch1_ok, ch2_ok, ch3_t, ch3_f, ch4_ok, ev_Chain3, d31_ok, d32_ok, d33_t, d33_f, d34_ok, d35_t, d35_f, d36_ok, ev_iZipM, izm1_ok, ev_sSkip, ev_sBreak, ev_sRetN, ev_sSeq, then_nx, then_rt, then_bk, then_exc, keep_dat, keep_tmp, keep_bor, keepB_ok, slot_dat, slot_tmp, ev_sSet, set1_ok, set1_exc, set2_ok, ev_sSet2, s21_ok, s22_ok, s23_ok, s24_ok, ev_sSet3, s31_ok, s32_ok, s33_ok, ev_sAsg, asg1_ok, asg2_ok, asg3_ok, b_Name, b_Tup, b_Cons, bc1_ok, b_Nil, ev_sIf, sif1_t, sif1_f, ev_sRet, ret1_dat, ret1_tmp, ret1_exc, ret1_bor, retB_ok, ev_sDrop, drop1_ok, drop1_exc, ev_sApp, app0_ok, app1_ok, app2_ok, app3_ok, ev_sSetIx, six1_ok, six2_ok, six3_ok, six4_ok, six5_ok, six6_ok, ev_sFor, for1_ok, ev_sForO, forO1_ok, ev_oCall, oc1_ok, oc2_ok, ev_iSeq, iseq1_ok, iseq2_l, iseq2_t, ev_iRange1, ev_iRange2, ir1_ok, ir2_ok, ien1_t, ev_eListG, elg1_ok, elg2_ok, ev_eListR, elr1_ok, dIn_l, dNotIn_l, ev_eDict1, ed1_ok, ed2_ok, ev_eGet2, gt1_ok, gt2_ok, gt3_ok, gt4_ok, ev_sPutD, pu1_ok, pu2_ok, pu3_ok, pu4_ok, pu5_ok, ev_eMaxV, mv1_1, mv1_2, ev_iEnum, ien1_l, ev_iZip, iz1_t, iz1_l, ev_Comp, comp1_ok, comp2_ok, wipe_nil, wipe_cons, ev_fn, fin1_rt, fin1_nx, fin1_exc, fin_dat, fin_tmp, finB_dat, finB_tmp, finB_ok, dAdd_i, dAdd_t, dAdd_l, dSub_i, dMul_1, dMul_2, dMul_t, dMul_t1, dPow_18, dPow_12, dPow_6, dPow_11, dDiv_i, dMod_i, dB_i, dNeg_i, gInt_i, gInt_b, gLen_l, gLen_t, gMin2_i, gMax2_i, gList_l, gList_t, gTuple_l, gTuple_t, gSum_i, gSum_t, gAll_b, gMinL_i, gMaxL_i, dIsN_n, dNotN_n, dIsB_b, dNotB_b, dIx_l, dIx_t, gIsi_ii, gIsi_ib, gIsi_tt, gIsi_ll, dEq_ok, dNe_ok, atI_0, atI_1, atI_2, atI_3, atI_4, atI_5, ixN_0, ixN_1, atI_last, atI_last1, List.getElem?_cons_zero, List.getElem?_cons_succ, List.set_cons_zero, List.set_cons_succ, List.map_cons, List.map_nil, Option.map_some, Option.map_none, List.cons_append, List.nil_append, List.length_cons, List.length_nil, Nat.reduceAdd, Nat.reduceSub, List.replicate_succ, List.replicate_zero, dLt, dLe, dGt, dGe, lim, Nat.reduceLeDiff, Int.reduceNeg, Bool.and_self, Bool.true_and, Bool.false_and, Bool.and_true, Bool.and_false, Bool.not_true, Bool.not_false])
local macro_rules | `(tactic| walk_at "gwh") => `(tactic| simp (disch := first | omega | (simp only [List.length_cons, List.length_nil, lim]; omega)) only [dMul_b, ev_C, ev_V, ev_V1, ev_V2, lk_dat, lk_tmp, lk_bor, lkB1, lkB2, so_dat, so_tmp, so_bor, toD1, toD2, toD3, op1, op2, ev_Bin, bin1_ok, bin2_ok, bin3_ok, ev_Un, un1_ok, un2_ok, aO_nil, aO_cons, aO1_ok, aO2_ok, lA_nil, lA_cons, lA_ok, ev_B, eB1_ok, eB2_ok, sto_dat, sto_tmp, sto_bor, stoB_ok, aS_nil, aS_cons, aS1_ok, aS2_ok, aS3_ok, ev_Tup, ev_Lst, tup1_ok, lst1_ok, ev_Call, call1_ok, back_dat, back_tmp, back_exc, ev_CallB, callB0_ok, callB1_ok, callB2_ok, callB3_dat, callB3_tmp, ev_Sl, sl1_ok, sl2_ok, sl3_ok, sl4_ok, gSl_t, gSl_l, ev_pNo, ev_pInt, pI1_ok, ev_If, if1_t, if1_f, ev_toB, toB1_ok, ev_And, ev_Or, ev_Not, and1_t, and1_f, or1_t, or1_f, not1_ok, ev_tAnd, ev_tOr, ev_tNot, tand1_t, tand1_f, tor1_t, tor1_f, tnot1_ok, ev_tYes, ev_Chain, ch1_ok, ch2_ok, ch3_t, ch3_f, ch4_ok, ev_Chain3, d31_ok, d32_ok, d33_t, d33_f, d34_ok, d35_t, d35_f, d36_ok, ev_iZipM, izm1_ok, ev_sSkip, ev_sBreak, ev_sRetN, ev_sSeq, then_nx, then_rt, then_bk, then_exc, keep_dat, keep_tmp, keep_bor, keepB_ok, slot_dat, slot_tmp, ev_sSet, set1_ok, set1_exc, set2_ok, ev_sSet2, s21_ok, s22_ok, s23_ok, s24_ok, ev_sSet3, s31_ok, s32_ok, s33_ok, ev_sAsg, asg1_ok, asg2_ok, asg3_ok, b_Name, b_Tup, b_Cons, bc1_ok, b_Nil, ev_sIf, sif1_t, sif1_f, ev_sRet, ret1_dat, ret1_tmp, ret1_exc, ret1_bor, retB_ok, ev_sDrop, drop1_ok, drop1_exc, ev_sApp, app0_ok, app1_ok, app2_ok, app3_ok, ev_sSetIx, six1_ok, six2_ok, six3_ok, six4_ok, six5_ok, six6_ok, ev_sFor, for1_ok, ev_sForO, forO1_ok, ev_oCall, oc1_ok, oc2_ok, ev_iSeq, iseq1_ok, iseq2_l, iseq2_t, ev_iRange1, ev_iRange2, ir1_ok, ir2_ok, ien1_t, ev_eListG, elg1_ok, elg2_ok, ev_eListR, elr1_ok, dIn_l, dNotIn_l, ev_eDict1, ed1_ok, ed2_ok, ev_eGet2, gt1_ok, gt2_ok, gt3_ok, gt4_ok, ev_sPutD, pu1_ok, pu2_ok, pu3_ok, pu4_ok, pu5_ok, ev_eMaxV, mv1_1, mv1_2, ev_iEnum, ien1_l, ev_iZip, iz1_t, iz1_l, ev_Comp, comp1_ok, comp2_ok, wipe_nil, wipe_cons, ev_fn, fin1_rt, fin1_nx, fin1_exc, fin_dat, fin_tmp, finB_dat, finB_tmp, finB_ok, dAdd_i, dAdd_t, dAdd_l, dSub_i, dMul_1, dMul_2, dMul_t, dMul_t1, dPow_18, dPow_12, dPow_6, dPow_11, dDiv_i, dMod_i, dB_i, dNeg_i, gInt_i, gInt_b, gLen_l, gLen_t, gMin2_i, gMax2_i, gList_l, gList_t, gTuple_l, gTuple_t, gSum_i, gSum_t, gAll_b, gMinL_i, gMaxL_i, dIsN_n, dNotN_n, dIsB_b, dNotB_b, dIx_l, dIx_t, gIsi_ii, gIsi_ib, gIsi_tt, gIsi_ll, dEq_ok, dNe_ok, atI_0, atI_1, atI_2, atI_3, atI_4, atI_5, ixN_0, ixN_1, atI_last, atI_last1, List.getElem?_cons_zero, List.getElem?_cons_succ, List.set_cons_zero, List.set_cons_succ, List.map_cons, List.map_nil, Option.map_some, Option.map_none, List.cons_append, List.nil_append, List.length_cons, List.length_nil, Nat.reduceAdd, Nat.reduceSub, List.replicate_succ, List.replicate_zero, dLt, dLe, dGt, dGe, lim, Nat.reduceLeDiff, Int.reduceNeg, Bool.and_self, Bool.true_and, Bool.false_and, Bool.and_true, Bool.and_false, Bool.not_true, Bool.not_false, *])

theorem errS_exc {g : FS} {args : List Sl} {k : Nat} (h : g args = .exc k) (hk : k < 6) : errS g args = .ok (.tmp (.lst (kindL k))) none := by
  unfold errS
  rw [h]
  simp only [if_pos hk]
theorem eLam_at {P : Addr} {g : FS} {fs : List Ex} {d : D} {ev : List Sl} : eLamErr P g fs (.tabd d P :: ev) = eCall (errS g) fs (.tabd d P :: ev) := by
  show (if P = P then _ else _) = _
  rw [if_pos rfl]
theorem compS_step {b : Bx} {tt : Tx} {el : Ex} {vs : List Nat} {x d : D} {xs acc : List D} {r : R} {ev e1 e2 e3 e4 : List Sl} (h1 : b x ev = some e1) (h2 : tt e1 = .ok true e2) (h3 : el e2 = .ok r e3) (h4 : stoR r e3 = .ok d e4) (hl : acc.length < lim) :
    compS b tt el vs (x :: xs) acc ev = compS b tt el vs xs (acc ++ [d]) (wipeE e4 vs) := by
  simp only [compS, h1, h2, h3, h4]
  rw [if_pos hl]
section
variable {ws : List Int} {p : Int}
theorem time_turn (P : Addr) (h : RuleOk ws p) {T : Int} (h1 : 0 ≤ T) (h2 : T ≤ 1000000000000) {z0 z1 z4 z5 z6 z7 z8 z9 : Sl} :
    ∃ y6, l_law_1 P [z0, z1, .dat (ruleD ws p), .dat (.int T), z4, z5, z6, z7, z8, z9] = .nx [z0, z1, .dat (ruleD ws p), .dat (.int T), z4, z5, y6, z7, z8, z9] := by
  obtain ⟨m, a, u, b⟩ := most_until_ok h h1 h2
  obtain ⟨u1, u2, u3⟩ := u
  unfold l_law_1
  walk_at "gw"
  rw [a]
  walk_at "gw"
  simp only [decide_eq_false (show ¬ ((m : Int) < 1) by omega)]
  walk_at "gw"
  by_cases c : (m : Int) ≤ 1000000000000
  · have e := earliest_is h u1 (by omega)
    simp only [decide_eq_true c]
    walk_at "gw"
    rw [e]
    walk_at "gw"
    simp only [decide_eq_false (show ¬ (T < En ws p m) by omega)]
    walk_at "gw"
    by_cases d : (m : Int) < 1000000000000
    · have e1 := earliest_is h (show 1 ≤ m + 1 by omega) (by omega)
      rw [show ((m + 1 : Nat) : Int) = (m : Int) + 1 by omega] at e1
      simp only [decide_eq_true d]
      walk_at "gw"
      rw [e1]
      walk_at "gw"
      simp only [decide_eq_false (show ¬ (En ws p (m + 1) ≤ T) by omega)]
      walk_at "gw"
      exact ⟨_, rfl⟩
    · simp only [decide_eq_false d]
      walk_at "gw"
      exact ⟨_, rfl⟩
  · simp only [decide_eq_false c]
    walk_at "gw"
    simp only [decide_eq_false (show ¬ ((m : Int) < 1000000000000) by omega)]
    walk_at "gw"
    exact ⟨_, rfl⟩
theorem times_loop (P : Addr) (h : RuleOk ws p) {z0 z1 z4 z5 z7 z8 z9 : Sl} : ∀ (ts : List Int) (z3 z6 : Sl), (∀ t ∈ ts, 0 ≤ t ∧ t ≤ 1000000000000) →
    ∃ y3 y6, forS (bName 3) (l_law_1 P) (ts.map D.int) [z0, z1, .dat (ruleD ws p), z3, z4, z5, z6, z7, z8, z9] = .nx [z0, z1, .dat (ruleD ws p), y3, z4, z5, y6, z7, z8, z9]
  | [], z3, z6, _ => ⟨z3, z6, rfl⟩
  | t :: ts, z3, z6, hs => by
    obtain ⟨a, b⟩ := hs t List.mem_cons_self
    obtain ⟨y6, e⟩ := time_turn P h a b (z0 := z0) (z1 := z1) (z4 := z4) (z5 := z5) (z6 := z6) (z7 := z7) (z8 := z8) (z9 := z9)
    obtain ⟨x3, x6, r⟩ := times_loop P h ts (.dat (.int t)) y6 fun y hy => hs y (List.mem_cons_of_mem _ hy)
    refine ⟨x3, x6, ?_⟩
    rw [List.map_cons]
    unfold forS
    rw [show bName 3 (.int t) [z0, z1, .dat (ruleD ws p), z3, z4, z5, z6, z7, z8, z9] = some [z0, z1, .dat (ruleD ws p), .dat (.int t), z4, z5, z6, z7, z8, z9] from rfl]
    simp only [e]
    exact r
theorem cnt_lt (m : Nat) : ∀ N : Nat, ((List.range N).filter fun i => decide (i < m)).length = min N m
  | 0 => by simp
  | N + 1 => by
    rw [List.range_succ, List.filter_append, List.length_append, cnt_lt m N]
    by_cases c : N < m
    · simp [c]; omega
    · simp [c]; omega
theorem cnt_until (h : RuleOk ws p) {T : Int} {m : Nat} (u : Until ws p T m) {N : Nat} (hN : m ≤ N) : ((List.range N).filter fun i => decide (En ws p (i + 1) ≤ T)).length = m := by
  have e : (fun i : Nat => decide (En ws p (i + 1) ≤ T)) = fun i => decide (i < m) := by
    funext i
    have := u.iff h (show 1 ≤ i + 1 by omega)
    rw [decide_eq_decide, this]
    omega
  rw [e, cnt_lt]
  omega
theorem small_drop : ((smallL ws p 30).map D.int).drop 1 = (List.range 30).map fun i : Nat => D.int (En ws p (i + 1)) := by
  unfold smallL
  rw [List.range_succ_eq_map, List.map_cons, List.map_cons, List.drop_one, List.tail_cons, List.map_map, List.map_map]
  rfl
theorem small_last : atI ((smallL ws p 30).map D.int) (-1) = some (.int (En ws p 30)) := by
  unfold smallL
  rw [List.range_succ, List.map_append, List.map_append]
  exact atI_last
theorem count_turn (P : Addr) (h : RuleOk ws p) {T : Int} {z0 z1 z5 z6 z7 z8 : Sl} :
    ∃ y7, l_law_5 P [z0, z1, .dat (ruleD ws p), .dat (.int T), .own (.lst ((smallL ws p 30).map D.int)), z5, z6, z7, z8, .un] = .nx [z0, z1, .dat (ruleD ws p), .dat (.int T), .own (.lst ((smallL ws p 30).map D.int)), z5, z6, y7, z8, .un] := by
  have hb := En_hi h (n := 30) (by omega)
  have c1 := compS_filter (b := bName 9) (tt := t_law_4 P) (el := e_law_3 P) (vs := [9]) (ev := [z0, z1, .dat (ruleD ws p), .dat (.int T), .own (.lst ((smallL ws p 30).map D.int)), z5, z6, z7, z8, .un])
    (fun i : Nat => D.int (En ws p (i + 1))) (fun i : Nat => D.int (En ws p (i + 1))) (fun i : Nat => decide (En ws p (i + 1) ≤ T)) (xs := List.range 30) (acc := []) (by simp [lim]) fun i hi => by
      let ek : List Sl := [z0, z1, .dat (ruleD ws p), .dat (.int T), .own (.lst ((smallL ws p 30).map D.int)), z5, z6, z7, z8, .dat (.int (En ws p (i + 1)))]
      refine ⟨ek, ek, rfl, ?_, fun _ => ?_, fun _ => rfl⟩
      · show t_law_4 P [_, _, _, _, _, _, _, _, _, .dat (.int (En ws p (i + 1)))] = _
        unfold t_law_4
        walk_at "gw"
        rfl
      · refine ⟨ek, ek, .dat (.int (En ws p (i + 1))), ?_, rfl, rfl⟩
        show e_law_3 P [_, _, _, _, _, _, _, _, _, .dat (.int (En ws p (i + 1)))] = _
        unfold e_law_3
        walk_at "gw"
        rfl
  unfold l_law_5
  walk_at "gw"
  rw [show cutD ((smallL ws p 30).map D.int) (some 1) none = ((smallL ws p 30).map D.int).drop 1 from cutD_from 1, small_drop]
  try walk_at "gw"
  rw [c1]
  walk_at "gw"
  by_cases c : 0 ≤ T
  · simp only [decide_eq_true c]
    walk_at "gw"
    rw [small_last]
    walk_at "gw"
    by_cases d : T < En ws p 30
    · obtain ⟨m, a, u, _⟩ := most_until_ok h c (by omega)
      have m30 : m ≤ 30 := by
        rcases Nat.lt_or_ge 30 m with z | z
        · have := (u.iff h (show 1 ≤ 30 by omega)).mpr (by omega)
          omega
        · exact z
      simp only [decide_eq_true d]
      walk_at "gw"
      rw [a]
      walk_at "gw"
      rw [List.length_map, cnt_until h u m30]
      rw [dNe_ok rfl rfl, show eqD (.int (m : Int)) (.int (m : Int)) = true by simp [eqD]]
      walk_at "gw"
      exact ⟨_, rfl⟩
    · simp only [decide_eq_false d]
      walk_at "gw"
      exact ⟨_, rfl⟩
  · simp only [decide_eq_false c]
    walk_at "gw"
    exact ⟨_, rfl⟩
theorem counts_loop (P : Addr) (h : RuleOk ws p) {z0 z1 z5 z6 z8 : Sl} : ∀ (ts : List Int) (z3 z7 : Sl),
    ∃ y3 y7, forS (bName 3) (l_law_5 P) (ts.map D.int) [z0, z1, .dat (ruleD ws p), z3, .own (.lst ((smallL ws p 30).map D.int)), z5, z6, z7, z8, .un] = .nx [z0, z1, .dat (ruleD ws p), y3, .own (.lst ((smallL ws p 30).map D.int)), z5, z6, y7, z8, .un]
  | [], z3, z7 => ⟨z3, z7, rfl⟩
  | t :: ts, z3, z7 => by
    obtain ⟨y7, e⟩ := count_turn P h (T := t) (z0 := z0) (z1 := z1) (z5 := z5) (z6 := z6) (z7 := z7) (z8 := z8)
    obtain ⟨x3, x7, r⟩ := counts_loop P h ts (.dat (.int t)) y7
    refine ⟨x3, x7, ?_⟩
    rw [List.map_cons]
    unfold forS
    rw [show bName 3 (.int t) [z0, z1, .dat (ruleD ws p), z3, .own (.lst ((smallL ws p 30).map D.int)), z5, z6, z7, z8, .un] = some [z0, z1, .dat (ruleD ws p), .dat (.int t), .own (.lst ((smallL ws p 30).map D.int)), z5, z6, z7, z8, .un] from rfl]
    simp only [e]
    exact r
theorem takes_comp (P : Addr) (h : RuleOk ws p) {z0 z2 z3 z5 z6 z7 : Sl} : ∀ (items : List D) (rs : List Int) (o : O), BagOk o → rs.length + items.length ≤ 1000 →
    ∃ (ts : List Int) (o' : O), BagOk o' ∧ compS (bName 8) tYes' (e_law_2 P) [8] items (rs.map D.int) [z0, .own o, z2, z3, .own (.lst ((smallL ws p 30).map D.int)), z5, z6, z7, .un, .un] = .ok (ts.map D.int) [z0, .own o', z2, z3, .own (.lst ((smallL ws p 30).map D.int)), z5, z6, z7, .un, .un]
      ∧ ts.length = rs.length + items.length
  | [], rs, o, ho, _ => ⟨rs, o, ho, rfl, rfl⟩
  | x :: xs, rs, o, ho, hl => by
    have lo := En_low h (n := 30) (by omega)
    obtain ⟨r, o1, r0, r1, ho1, e1⟩ := take_ok ho (m := En ws p 30) (by omega)
    have ee : e_law_2 P [z0, .own o, z2, z3, .own (.lst ((smallL ws p 30).map D.int)), z5, z6, z7, .dat x, .un] = .ok (.dat (.int r)) [z0, .own o1, z2, z3, .own (.lst ((smallL ws p 30).map D.int)), z5, z6, z7, .dat x, .un] := by
      unfold e_law_2
      walk_at "gw"
      rw [small_last]
      walk_at "gw"
      rw [e1]
      walk_at "gw"
    rw [List.length_cons] at hl
    obtain ⟨ts, o2, q1, q2, q3⟩ := takes_comp P h xs (rs ++ [r]) o1 ho1 (by simp; omega)
    refine ⟨ts, o2, q1, ?_, by rw [q3]; simp; omega⟩
    rw [← q2, List.map_append]
    exact compS_step (e1 := [z0, .own o, z2, z3, .own (.lst ((smallL ws p 30).map D.int)), z5, z6, z7, .dat x, .un]) rfl rfl ee rfl (by rw [List.length_map]; show _ < 1000000; omega)
theorem odd_loop (P : Addr) (h : RuleOk ws p) {d0 : D} {z1 z3 z4 z6 z7 z8 z9 : Sl} : ∀ (ds : List D) (z5 : Sl), (∀ d ∈ ds, s_most_until [.dat (ruleD ws p), .dat d] = .exc 2) →
    ∃ y5, forS (bName 5) (l_law_6 P) ds [.tabd d0 P, z1, .dat (ruleD ws p), z3, z4, z5, z6, z7, z8, z9] = .nx [.tabd d0 P, z1, .dat (ruleD ws p), z3, z4, y5, z6, z7, z8, z9]
  | [], z5, _ => ⟨z5, rfl⟩
  | d :: ds, z5, hs => by
    have b := hs d List.mem_cons_self
    have lb : lamFS (eCall s_most_until [eV 0, eV 1]) [.dat (ruleD ws p), .dat d, .dat (.int 0)] = .exc 2 := by
      unfold lamFS
      walk_at "gw"
      rw [b]
      rfl
    have eb := errS_exc lb (by omega)
    obtain ⟨y5, r⟩ := odd_loop P h ds (.dat d) fun x hx => hs x (List.mem_cons_of_mem _ hx)
    refine ⟨y5, ?_⟩
    have e : l_law_6 P [.tabd d0 P, z1, .dat (ruleD ws p), z3, z4, .dat d, z6, z7, z8, z9] = .nx [.tabd d0 P, z1, .dat (ruleD ws p), z3, z4, .dat d, z6, z7, z8, z9] := by
      unfold l_law_6
      walk_at "gw"
      rw [eLam_at]
      walk_at "gw"
      rw [eb]
      walk_at "gw"
      rw [dNe_ok rfl rfl, show eqD (.lst (kindL 2)) (.lst [.str "InvalidTime", .bl true]) = true from rfl]
      walk_at "gw"
    unfold forS
    rw [show bName 5 d [.tabd d0 P, z1, .dat (ruleD ws p), z3, z4, z5, z6, z7, z8, z9] = some [.tabd d0 P, z1, .dat (ruleD ws p), z3, z4, .dat d, z6, z7, z8, z9] from rfl]
    simp only [e]
    exact r
end
theorem bag_turn (P : Addr) {d0 : D} {o : O} (hb : BagOk o) {z2 z3 z4 z5 z6 z7 : Sl} : ∃ y1 y2 y3 y4 y5 y6 y7, l_law_7 P [.tabd d0 P, .own o, z2, z3, z4, z5, z6, z7, .un, .un] = .nx [.tabd d0 P, y1, y2, y3, y4, y5, y6, y7, .un, .un] := by
  obtain ⟨ws, p, o1, h, ho1, rl⟩ := rule_ok hb
  obtain ⟨t1, o2, a1, a2, ho2, e2⟩ := take_ok ho1 (m := 3000) (by omega)
  obtain ⟨t2, o3, b1, b2, ho3, e3⟩ := far_draw_ok ho2 (many := 1000000000000) (by omega) (by omega)
  obtain ⟨y3, y6, l1⟩ := times_loop P h (z0 := .tabd d0 P) (z1 := .own o3) (z4 := z4) (z5 := z5) (z7 := z7) (z8 := .un) (z9 := .un) [0, t1, t2, 1000000000000] z3 z6 (by
    intro t ht
    simp only [List.mem_cons, List.not_mem_nil, or_false] at ht
    rcases ht with e | e | e | e <;> subst e <;> omega)
  have sm := law_small_ok h (N := 30) (by omega)
  rw [show ((30 : Nat) : Int) = 30 from rfl] at sm
  obtain ⟨ts, o4, ho4, l2, tl⟩ := takes_comp P h (z0 := .tabd d0 P) (z2 := .dat (ruleD ws p)) (z3 := y3) (z5 := z5) (z6 := y6) (z7 := z7) (rangeD 0 6) [] o3 ho3 (by rw [rangeD_len, List.length_nil]; omega)
  obtain ⟨x3, x7, l3⟩ := counts_loop P h (z0 := .tabd d0 P) (z1 := .own o4) (z5 := z5) (z6 := y6) (z8 := .un) (ts ++ [E0 ws p 5, E0 ws p 9, E0 ws p 9 - 1]) y3 z7
  obtain ⟨x5, l4⟩ := odd_loop P h (d0 := d0) (z1 := .own o4) (z3 := x3) (z4 := .own (.lst ((smallL ws p 30).map D.int))) (z6 := y6) (z7 := x7) (z8 := .un) (z9 := .un) [.int (-1), .int 1000000000001, .non, .bl true, .str "1"] z5 (most_until_bad h)
  have i5 := small_at (ws := ws) (p := p) (n := 30) (k := 5) (by omega)
  have i9 := small_at (ws := ws) (p := p) (n := 30) (k := 9) (by omega)
  rw [show ((5 : Nat) : Int) = 5 from rfl] at i5
  rw [show ((9 : Nat) : Int) = 9 from rfl] at i9
  rw [rangeD_len, List.length_nil] at tl
  rw [List.map_append] at l3
  simp only [List.map_cons, List.map_nil] at l1 l2 l3
  have tl2 : (ts.map D.int).length ≤ 6 := by rw [List.length_map]; omega
  unfold l_law_7
  walk_at "gw"
  rw [rl]
  walk_at "gw"
  rw [e2]
  walk_at "gw"
  rw [e3]
  walk_at "gw"
  rw [l1]
  walk_at "gw"
  rw [sm]
  walk_at "gw"
  rw [show Int.toNat 6 = 6 from rfl, l2]
  walk_at "gw"
  rw [i5]
  walk_at "gw"
  rw [i9]
  walk_at "gw"
  rw [i9]
  walk_at "gw"
  rw [l3]
  walk_at "gw"
  try rw [show (1000000000000 : Int) + 1 = 1000000000001 from rfl]
  rw [l4]
  exact ⟨_, _, _, _, _, _, _, rfl⟩
theorem r1 : RuleOk [1, 8] 10 := ⟨by decide, by decide, by decide, by decide, by decide, by decide⟩
theorem r2 : RuleOk [1] 1 := ⟨by decide, by decide, by decide, by decide, by decide, by decide⟩
theorem u1 : Until [1, 8] 10 22 5 := ⟨by decide, by decide +kernel, by decide +kernel⟩
theorem En_ones : ∀ n : Nat, En [1] 1 (n + 1) ≤ (n : Int)
  | 0 => by rw [En_one]; omega
  | n + 1 => by
    have a := En_ones n
    have b := (En_step r2 (n := n + 1) (by omega)).2
    have c : wv [1] [(1 : Int)].length = 1 := rfl
    rw [c] at b
    omega
theorem u2 {n : Nat} (hn : 1 ≤ n) : Until [1] 1 ((n : Int) - 1) n := by
  obtain ⟨m, rfl⟩ : ∃ m, n = m + 1 := ⟨n - 1, by omega⟩
  refine ⟨by omega, ?_, ?_⟩
  · have := En_ones m
    omega
  · have := En_low r2 (n := m + 1 + 1) (by omega)
    omega
theorem f1 : s_most_until [.dat (.tup [.tup [.int 1, .int 8], .int 10]), .dat (.int 22)] = .ok (.dat (.int 5)) none := most_until_is r1 (by omega) (by omega) u1
theorem f2 : s_most_until [.dat (.tup [.tup [.int 1], .int 1]), .dat (.int 1000000000000)] = .ok (.dat (.int 1000000000001)) none := by
  obtain ⟨n, e⟩ : ∃ n : Nat, (1000000000001 : Int) = (n : Int) := ⟨(1000000000001 : Int).toNat, by omega⟩
  have u := u2 (n := n) (by omega)
  rw [show (n : Int) - 1 = 1000000000000 by omega] at u
  have := most_until_is r2 (by omega) (by omega) u
  rw [e]
  exact this
theorem s_law_true (P : Addr) (ns : List Int) (hl : ns.length ≤ 63) (hb : ∀ z ∈ ns, Builtin.Int.intBits z ≤ 1048576) : s_law P [.tabd (.lst (ns.map D.int)) P] = .ok (.dat (.bl true)) none := by
  obtain ⟨os, h1, h2⟩ := bags_ok ns hl 8 (by omega)
  unfold s_law b_law
  have h2' : s_law_bags [.dat (.lst (ns.map D.int)), .dat (.int 8)] = .ok os := h2
  walk_at "gw"
  rw [show eVT 0 [.tabd (.lst (ns.map D.int)) P, .un, .un, .un, .un, .un, .un, .un, .un, .un] = .ok (.dat (.lst (ns.map D.int))) [.tabd (.lst (ns.map D.int)) P, .un, .un, .un, .un, .un, .un, .un, .un, .un] from rfl]
  walk_at "gw"
  rw [h2']
  walk_at "gw"
  obtain ⟨e2, q1, z1, z2, z3, z4, z5, z6, z7, rfl⟩ := forO_inv (i := 1) (body := l_law_7 P) (fun ev => ∃ z1 z2 z3 z4 z5 z6 z7, ev = [.tabd (.lst (ns.map D.int)) P, z1, z2, z3, z4, z5, z6, z7, .un, .un]) BagOk (os := os) (ev := [.tabd (.lst (ns.map D.int)) P, .un, .un, .un, .un, .un, .un, .un, .un, .un]) ⟨_, _, _, _, _, _, _, rfl⟩ h1
    fun o ev ho hp => by
      obtain ⟨z1, z2, z3, z4, z5, z6, z7, rfl⟩ := hp
      obtain ⟨y1, y2, y3, y4, y5, y6, y7, h3⟩ := bag_turn P (d0 := .lst (ns.map D.int)) (z2 := z2) (z3 := z3) (z4 := z4) (z5 := z5) (z6 := z6) (z7 := z7) ho
      exact ⟨_, .inl h3, _, _, _, _, _, _, _, rfl⟩
  rw [q1]
  walk_at "gw"
  rw [f1]
  walk_at "gw"
  rw [dEq_ok rfl rfl, show eqD (.int 5) (.int 5) = true from rfl]
  walk_at "gw"
  rw [f2]
  walk_at "gw"
  rw [dEq_ok rfl rfl, show eqD (.int 1000000000001) (.int (1000000000000 + 1)) = true by simp [eqD]]
  rfl
end GW


set_option Elab.async false
set_option linter.all false
set_option maxRecDepth 100000
namespace GW
open PySem PySem.Spec L2
theorem all_mk {l : PySem.W.OpenLaw} {w : World} {K : PySem.W.Frag} {h : Heap} {mg : Str → Option Value} {fa : Addr} (X : K.In h) (G : h.Ns mainGlobals mg) (hfa : mg "law" = some (.ref fa))
    (hlaw : ∀ (P : Addr) (ns : List Int), ns.length ≤ 63 → (∀ z ∈ ns, Builtin.Int.intBits z ≤ 1048576) → s_law P [.tabd (.lst (ns.map D.int)) P] = .ok (.dat (.bl true)) none)
    {f_is_integer : Addr} {od_is_integer an_is_integer : Option Addr} {sl_is_integer : Array (Option Value)} {oc_is_integer kV_is_integer dc_is_integer pm_is_integer cd_is_integer ct_is_integer : Value}
    {f_never_falls : Addr} {od_never_falls an_never_falls : Option Addr} {sl_never_falls : Array (Option Value)} {oc_never_falls kV_never_falls dc_never_falls pm_never_falls cd_never_falls ct_never_falls : Value}
    {f_series_time : Addr} {od_series_time an_series_time : Option Addr} {sl_series_time : Array (Option Value)} {oc_series_time kV_series_time dc_series_time pm_series_time cd_series_time ct_series_time : Value}
    {f_law_cell_at : Addr} {od_law_cell_at an_law_cell_at : Option Addr} {sl_law_cell_at : Array (Option Value)} {oc_law_cell_at kV_law_cell_at dc_law_cell_at pm_law_cell_at cd_law_cell_at ct_law_cell_at : Value}
    {f_law_draws : Addr} {od_law_draws an_law_draws : Option Addr} {sl_law_draws : Array (Option Value)} {oc_law_draws kV_law_draws dc_law_draws pm_law_draws cd_law_draws ct_law_draws : Value}
    {f_law_take : Addr} {od_law_take an_law_take : Option Addr} {sl_law_take : Array (Option Value)} {oc_law_take kV_law_take dc_law_take pm_law_take cd_law_take ct_law_take : Value}
    {f_law_wait : Addr} {od_law_wait an_law_wait : Option Addr} {sl_law_wait : Array (Option Value)} {oc_law_wait kV_law_wait dc_law_wait pm_law_wait cd_law_wait ct_law_wait : Value}
    {f_are_waits : Addr} {od_are_waits an_are_waits : Option Addr} {sl_are_waits : Array (Option Value)} {oc_are_waits kV_are_waits dc_are_waits pm_are_waits cd_are_waits ct_are_waits : Value}
    {f_need_time : Addr} {od_need_time an_need_time : Option Addr} {sl_need_time : Array (Option Value)} {oc_need_time kV_need_time dc_need_time pm_need_time cd_need_time ct_need_time : Value}
    {f_length_of : Addr} {od_length_of an_length_of : Option Addr} {sl_length_of : Array (Option Value)} {oc_length_of kV_length_of dc_length_of pm_length_of cd_length_of ct_length_of : Value}
    {f_time_of : Addr} {od_time_of an_time_of : Option Addr} {sl_time_of : Array (Option Value)} {oc_time_of kV_time_of dc_time_of pm_time_of cd_time_of ct_time_of : Value}
    {f_law_bag : Addr} {od_law_bag an_law_bag : Option Addr} {sl_law_bag : Array (Option Value)} {oc_law_bag kV_law_bag dc_law_bag pm_law_bag cd_law_bag ct_law_bag : Value}
    {f_law_far_draw : Addr} {od_law_far_draw an_law_far_draw : Option Addr} {sl_law_far_draw : Array (Option Value)} {oc_law_far_draw kV_law_far_draw dc_law_far_draw pm_law_far_draw cd_law_far_draw ct_law_far_draw : Value}
    {f_law_rule : Addr} {od_law_rule an_law_rule : Option Addr} {sl_law_rule : Array (Option Value)} {oc_law_rule kV_law_rule dc_law_rule pm_law_rule cd_law_rule ct_law_rule : Value}
    {f_law_series : Addr} {od_law_series an_law_series : Option Addr} {sl_law_series : Array (Option Value)} {oc_law_series kV_law_series dc_law_series pm_law_series cd_law_series ct_law_series : Value}
    {f_is_rule : Addr} {od_is_rule an_is_rule : Option Addr} {sl_is_rule : Array (Option Value)} {oc_is_rule kV_is_rule dc_is_rule pm_is_rule cd_is_rule ct_is_rule : Value}
    {f_earliest_of : Addr} {od_earliest_of an_earliest_of : Option Addr} {sl_earliest_of : Array (Option Value)} {oc_earliest_of kV_earliest_of dc_earliest_of pm_earliest_of cd_earliest_of ct_earliest_of : Value}
    {f_law_bags : Addr} {od_law_bags an_law_bags : Option Addr} {sl_law_bags : Array (Option Value)} {oc_law_bags kV_law_bags dc_law_bags pm_law_bags cd_law_bags ct_law_bags : Value}
    {f_law_small : Addr} {od_law_small an_law_small : Option Addr} {sl_law_small : Array (Option Value)} {oc_law_small kV_law_small dc_law_small pm_law_small cd_law_small ct_law_small : Value}
    {f_need_rule : Addr} {od_need_rule an_need_rule : Option Addr} {sl_need_rule : Array (Option Value)} {oc_need_rule kV_need_rule dc_need_rule pm_need_rule cd_need_rule ct_need_rule : Value}
    {f_earliest : Addr} {od_earliest an_earliest : Option Addr} {sl_earliest : Array (Option Value)} {oc_earliest kV_earliest dc_earliest pm_earliest cd_earliest ct_earliest : Value}
    {f_most_until : Addr} {od_most_until an_most_until : Option Addr} {sl_most_until : Array (Option Value)} {oc_most_until kV_most_until dc_most_until pm_most_until cd_most_until ct_most_until : Value}
    {f_law : Addr} {od_law an_law : Option Addr} {sl_law : Array (Option Value)} {oc_law kV_law dc_law pm_law ct_law : Value} {cc Pt : Addr}
    {f_law_error : Addr} {od_law_error an_law_error : Option Addr} {sl_law_error : Array (Option Value)} {oc_law_error kV_law_error dc_law_error pm_law_error cd_law_error ct_law_error : Value}
    {xc : Value} {xd : Option Addr} {xs : Array (Option Value)} {vs : Array Value}
    {Cx0 Cx1 Cx2 Cx3 Cx4 Cx5 Cw : Addr}
    {t_LONGEST_PAUSE : Tok}
    {t_MANY : Tok}
    (a_is_integer : PySem.W.nsIn K mainGlobals "is_integer" = some (some (.ref f_is_integer))) (l_is_integer : K.lookup f_is_integer = some ⟨oc_is_integer, od_is_integer, .func (PySem.W.fnOf "is_integer" "is_integer" (defArgs st_is_integer) (defBody st_is_integer) (defScope st_is_integer) .none kV_is_integer dc_is_integer pm_is_integer an_is_integer cd_is_integer ct_is_integer), sl_is_integer⟩) (c_is_integer : PySem.W.codeIn K cd_is_integer "is_integer" = true) (k_is_integer : PySem.W.keepIn K (.ref f_is_integer) = true)
    (a_never_falls : PySem.W.nsIn K mainGlobals "never_falls" = some (some (.ref f_never_falls))) (l_never_falls : K.lookup f_never_falls = some ⟨oc_never_falls, od_never_falls, .func (PySem.W.fnOf "never_falls" "never_falls" (defArgs st_never_falls) (defBody st_never_falls) (defScope st_never_falls) .none kV_never_falls dc_never_falls pm_never_falls an_never_falls cd_never_falls ct_never_falls), sl_never_falls⟩) (c_never_falls : PySem.W.codeIn K cd_never_falls "never_falls" = true) (k_never_falls : PySem.W.keepIn K (.ref f_never_falls) = true)
    (a_series_time : PySem.W.nsIn K mainGlobals "series_time" = some (some (.ref f_series_time))) (l_series_time : K.lookup f_series_time = some ⟨oc_series_time, od_series_time, .func (PySem.W.fnOf "series_time" "series_time" (defArgs st_series_time) (defBody st_series_time) (defScope st_series_time) .none kV_series_time dc_series_time pm_series_time an_series_time cd_series_time ct_series_time), sl_series_time⟩) (c_series_time : PySem.W.codeIn K cd_series_time "series_time" = true) (k_series_time : PySem.W.keepIn K (.ref f_series_time) = true)
    (a_law_cell_at : PySem.W.nsIn K mainGlobals "_law_cell_at" = some (some (.ref f_law_cell_at))) (l_law_cell_at : K.lookup f_law_cell_at = some ⟨oc_law_cell_at, od_law_cell_at, .func (PySem.W.fnOf "_law_cell_at" "_law_cell_at" (defArgs st_law_cell_at) (defBody st_law_cell_at) (defScope st_law_cell_at) .none kV_law_cell_at dc_law_cell_at pm_law_cell_at an_law_cell_at cd_law_cell_at ct_law_cell_at), sl_law_cell_at⟩) (c_law_cell_at : PySem.W.codeIn K cd_law_cell_at "_law_cell_at" = true) (k_law_cell_at : PySem.W.keepIn K (.ref f_law_cell_at) = true)
    (a_law_draws : PySem.W.nsIn K mainGlobals "_law_draws" = some (some (.ref f_law_draws))) (l_law_draws : K.lookup f_law_draws = some ⟨oc_law_draws, od_law_draws, .func (PySem.W.fnOf "_law_draws" "_law_draws" (defArgs st_law_draws) (defBody st_law_draws) (defScope st_law_draws) .none kV_law_draws dc_law_draws pm_law_draws an_law_draws cd_law_draws ct_law_draws), sl_law_draws⟩) (c_law_draws : PySem.W.codeIn K cd_law_draws "_law_draws" = true) (k_law_draws : PySem.W.keepIn K (.ref f_law_draws) = true)
    (a_law_take : PySem.W.nsIn K mainGlobals "_law_take" = some (some (.ref f_law_take))) (l_law_take : K.lookup f_law_take = some ⟨oc_law_take, od_law_take, .func (PySem.W.fnOf "_law_take" "_law_take" (defArgs st_law_take) (defBody st_law_take) (defScope st_law_take) .none kV_law_take dc_law_take pm_law_take an_law_take cd_law_take ct_law_take), sl_law_take⟩) (c_law_take : PySem.W.codeIn K cd_law_take "_law_take" = true) (k_law_take : PySem.W.keepIn K (.ref f_law_take) = true)
    (a_law_wait : PySem.W.nsIn K mainGlobals "_law_wait" = some (some (.ref f_law_wait))) (l_law_wait : K.lookup f_law_wait = some ⟨oc_law_wait, od_law_wait, .func (PySem.W.fnOf "_law_wait" "_law_wait" (defArgs st_law_wait) (defBody st_law_wait) (defScope st_law_wait) .none kV_law_wait dc_law_wait pm_law_wait an_law_wait cd_law_wait ct_law_wait), sl_law_wait⟩) (c_law_wait : PySem.W.codeIn K cd_law_wait "_law_wait" = true) (k_law_wait : PySem.W.keepIn K (.ref f_law_wait) = true)
    (a_are_waits : PySem.W.nsIn K mainGlobals "are_waits" = some (some (.ref f_are_waits))) (l_are_waits : K.lookup f_are_waits = some ⟨oc_are_waits, od_are_waits, .func (PySem.W.fnOf "are_waits" "are_waits" (defArgs st_are_waits) (defBody st_are_waits) (defScope st_are_waits) .none kV_are_waits dc_are_waits pm_are_waits an_are_waits cd_are_waits ct_are_waits), sl_are_waits⟩) (c_are_waits : PySem.W.codeIn K cd_are_waits "are_waits" = true) (k_are_waits : PySem.W.keepIn K (.ref f_are_waits) = true)
    (a_need_time : PySem.W.nsIn K mainGlobals "need_time" = some (some (.ref f_need_time))) (l_need_time : K.lookup f_need_time = some ⟨oc_need_time, od_need_time, .func (PySem.W.fnOf "need_time" "need_time" (defArgs st_need_time) (defBody st_need_time) (defScope st_need_time) .none kV_need_time dc_need_time pm_need_time an_need_time cd_need_time ct_need_time), sl_need_time⟩) (c_need_time : PySem.W.codeIn K cd_need_time "need_time" = true) (k_need_time : PySem.W.keepIn K (.ref f_need_time) = true)
    (a_length_of : PySem.W.nsIn K mainGlobals "length_of" = some (some (.ref f_length_of))) (l_length_of : K.lookup f_length_of = some ⟨oc_length_of, od_length_of, .func (PySem.W.fnOf "length_of" "length_of" (defArgs st_length_of) (defBody st_length_of) (defScope st_length_of) .none kV_length_of dc_length_of pm_length_of an_length_of cd_length_of ct_length_of), sl_length_of⟩) (c_length_of : PySem.W.codeIn K cd_length_of "length_of" = true) (k_length_of : PySem.W.keepIn K (.ref f_length_of) = true)
    (a_time_of : PySem.W.nsIn K mainGlobals "time_of" = some (some (.ref f_time_of))) (l_time_of : K.lookup f_time_of = some ⟨oc_time_of, od_time_of, .func (PySem.W.fnOf "time_of" "time_of" (defArgs st_time_of) (defBody st_time_of) (defScope st_time_of) .none kV_time_of dc_time_of pm_time_of an_time_of cd_time_of ct_time_of), sl_time_of⟩) (c_time_of : PySem.W.codeIn K cd_time_of "time_of" = true) (k_time_of : PySem.W.keepIn K (.ref f_time_of) = true)
    (a_law_bag : PySem.W.nsIn K mainGlobals "_law_bag" = some (some (.ref f_law_bag))) (l_law_bag : K.lookup f_law_bag = some ⟨oc_law_bag, od_law_bag, .func (PySem.W.fnOf "_law_bag" "_law_bag" (defArgs st_law_bag) (defBody st_law_bag) (defScope st_law_bag) .none kV_law_bag dc_law_bag pm_law_bag an_law_bag cd_law_bag ct_law_bag), sl_law_bag⟩) (c_law_bag : PySem.W.codeIn K cd_law_bag "_law_bag" = true) (k_law_bag : PySem.W.keepIn K (.ref f_law_bag) = true)
    (a_law_far_draw : PySem.W.nsIn K mainGlobals "_law_far_draw" = some (some (.ref f_law_far_draw))) (l_law_far_draw : K.lookup f_law_far_draw = some ⟨oc_law_far_draw, od_law_far_draw, .func (PySem.W.fnOf "_law_far_draw" "_law_far_draw" (defArgs st_law_far_draw) (defBody st_law_far_draw) (defScope st_law_far_draw) .none kV_law_far_draw dc_law_far_draw pm_law_far_draw an_law_far_draw cd_law_far_draw ct_law_far_draw), sl_law_far_draw⟩) (c_law_far_draw : PySem.W.codeIn K cd_law_far_draw "_law_far_draw" = true) (k_law_far_draw : PySem.W.keepIn K (.ref f_law_far_draw) = true)
    (a_law_rule : PySem.W.nsIn K mainGlobals "_law_rule" = some (some (.ref f_law_rule))) (l_law_rule : K.lookup f_law_rule = some ⟨oc_law_rule, od_law_rule, .func (PySem.W.fnOf "_law_rule" "_law_rule" (defArgs st_law_rule) (defBody st_law_rule) (defScope st_law_rule) .none kV_law_rule dc_law_rule pm_law_rule an_law_rule cd_law_rule ct_law_rule), sl_law_rule⟩) (c_law_rule : PySem.W.codeIn K cd_law_rule "_law_rule" = true) (k_law_rule : PySem.W.keepIn K (.ref f_law_rule) = true)
    (a_law_series : PySem.W.nsIn K mainGlobals "_law_series" = some (some (.ref f_law_series))) (l_law_series : K.lookup f_law_series = some ⟨oc_law_series, od_law_series, .func (PySem.W.fnOf "_law_series" "_law_series" (defArgs st_law_series) (defBody st_law_series) (defScope st_law_series) .none kV_law_series dc_law_series pm_law_series an_law_series cd_law_series ct_law_series), sl_law_series⟩) (c_law_series : PySem.W.codeIn K cd_law_series "_law_series" = true) (k_law_series : PySem.W.keepIn K (.ref f_law_series) = true)
    (a_is_rule : PySem.W.nsIn K mainGlobals "is_rule" = some (some (.ref f_is_rule))) (l_is_rule : K.lookup f_is_rule = some ⟨oc_is_rule, od_is_rule, .func (PySem.W.fnOf "is_rule" "is_rule" (defArgs st_is_rule) (defBody st_is_rule) (defScope st_is_rule) .none kV_is_rule dc_is_rule pm_is_rule an_is_rule cd_is_rule ct_is_rule), sl_is_rule⟩) (c_is_rule : PySem.W.codeIn K cd_is_rule "is_rule" = true) (k_is_rule : PySem.W.keepIn K (.ref f_is_rule) = true)
    (a_earliest_of : PySem.W.nsIn K mainGlobals "earliest_of" = some (some (.ref f_earliest_of))) (l_earliest_of : K.lookup f_earliest_of = some ⟨oc_earliest_of, od_earliest_of, .func (PySem.W.fnOf "earliest_of" "earliest_of" (defArgs st_earliest_of) (defBody st_earliest_of) (defScope st_earliest_of) .none kV_earliest_of dc_earliest_of pm_earliest_of an_earliest_of cd_earliest_of ct_earliest_of), sl_earliest_of⟩) (c_earliest_of : PySem.W.codeIn K cd_earliest_of "earliest_of" = true) (k_earliest_of : PySem.W.keepIn K (.ref f_earliest_of) = true)
    (a_law_bags : PySem.W.nsIn K mainGlobals "_law_bags" = some (some (.ref f_law_bags))) (l_law_bags : K.lookup f_law_bags = some ⟨oc_law_bags, od_law_bags, .func (PySem.W.fnOf "_law_bags" "_law_bags" (defArgs st_law_bags) (defBody st_law_bags) (defScope st_law_bags) .none kV_law_bags dc_law_bags pm_law_bags an_law_bags cd_law_bags ct_law_bags), sl_law_bags⟩) (c_law_bags : PySem.W.codeIn K cd_law_bags "_law_bags" = true) (k_law_bags : PySem.W.keepIn K (.ref f_law_bags) = true)
    (a_law_small : PySem.W.nsIn K mainGlobals "_law_small" = some (some (.ref f_law_small))) (l_law_small : K.lookup f_law_small = some ⟨oc_law_small, od_law_small, .func (PySem.W.fnOf "_law_small" "_law_small" (defArgs st_law_small) (defBody st_law_small) (defScope st_law_small) .none kV_law_small dc_law_small pm_law_small an_law_small cd_law_small ct_law_small), sl_law_small⟩) (c_law_small : PySem.W.codeIn K cd_law_small "_law_small" = true) (k_law_small : PySem.W.keepIn K (.ref f_law_small) = true)
    (a_need_rule : PySem.W.nsIn K mainGlobals "need_rule" = some (some (.ref f_need_rule))) (l_need_rule : K.lookup f_need_rule = some ⟨oc_need_rule, od_need_rule, .func (PySem.W.fnOf "need_rule" "need_rule" (defArgs st_need_rule) (defBody st_need_rule) (defScope st_need_rule) .none kV_need_rule dc_need_rule pm_need_rule an_need_rule cd_need_rule ct_need_rule), sl_need_rule⟩) (c_need_rule : PySem.W.codeIn K cd_need_rule "need_rule" = true) (k_need_rule : PySem.W.keepIn K (.ref f_need_rule) = true)
    (a_earliest : PySem.W.nsIn K mainGlobals "earliest" = some (some (.ref f_earliest))) (l_earliest : K.lookup f_earliest = some ⟨oc_earliest, od_earliest, .func (PySem.W.fnOf "earliest" "earliest" (defArgs st_earliest) (defBody st_earliest) (defScope st_earliest) .none kV_earliest dc_earliest pm_earliest an_earliest cd_earliest ct_earliest), sl_earliest⟩) (c_earliest : PySem.W.codeIn K cd_earliest "earliest" = true) (k_earliest : PySem.W.keepIn K (.ref f_earliest) = true)
    (a_most_until : PySem.W.nsIn K mainGlobals "most_until" = some (some (.ref f_most_until))) (l_most_until : K.lookup f_most_until = some ⟨oc_most_until, od_most_until, .func (PySem.W.fnOf "most_until" "most_until" (defArgs st_most_until) (defBody st_most_until) (defScope st_most_until) .none kV_most_until dc_most_until pm_most_until an_most_until cd_most_until ct_most_until), sl_most_until⟩) (c_most_until : PySem.W.codeIn K cd_most_until "most_until" = true) (k_most_until : PySem.W.keepIn K (.ref f_most_until) = true)
    (a_law : PySem.W.nsIn K mainGlobals "law" = some (some (.ref f_law))) (l_law : K.lookup f_law = some ⟨oc_law, od_law, .func (PySem.W.fnOf "law" "law" (defArgs st_law) (defBody st_law) (defScope st_law) .none kV_law dc_law pm_law an_law (.ref cc) ct_law), sl_law⟩) (c_law : PySem.W.codeIn K (.ref cc) "law" = true) (k_law : PySem.W.keepIn K (.ref f_law) = true)
    (a_law_error : PySem.W.nsIn K mainGlobals "_law_error" = some (some (.ref f_law_error))) (l_law_error : K.lookup f_law_error = some ⟨oc_law_error, od_law_error, .func (PySem.W.fnOf "_law_error" "_law_error" (defArgs st_law_error) (defBody st_law_error) (defScope st_law_error) .none kV_law_error dc_law_error pm_law_error an_law_error cd_law_error ct_law_error), sl_law_error⟩) (c_law_error : PySem.W.codeIn K cd_law_error "_law_error" = true) (k_law_error : PySem.W.keepIn K (.ref f_law_error) = true)
    (lcc : K.lookup cc = some ⟨xc, xd, .fields vs, xs⟩) (vPt : (vs[11]? : Option Value) = some (.ref Pt)) (nPt : K.lookup Pt = none) (cHd : PySem.W.codeHdIn K cc Pt = true) (hTb : h.get? Pt = some { cls := .none, data := .fields #[] })
    (ewt : PySem.W.nsIn K mainGlobals "WaitError" = some (some (.ref Cw)))
    (ea0 : PySem.W.nsIn K mainGlobals "InvalidRule" = some (some (.ref Cx0)))
    (ex0 : PySem.W.excIn K Cx0 [.type "ValueError", .type "Exception", .type "BaseException", .type "object"] "ValueError.__new__" = true)
    (ek0 : PySem.W.keepIn K (.ref Cx0) = true)
    (eb0 : PySem.W.subIn K (.ref Cx0) (.type "BaseException") = some true)
    (et0 : PySem.W.typeIn K (.ref Cx0) = some (.type "type"))
    (eg0 : PySem.W.findIn K (.ref Cx0) "__getattribute__" = some (some (.builtin "BaseException.__getattribute__")))
    (ej0 : PySem.W.findIn K (.ref Cx0) "__getattr__" = some none)
    (ed0 : PySem.W.hasDictIn K Cx0 = true)
    (ec0 : PySem.W.findIn K (.ref Cx0) "__class__" = some (some (.builtin "object.__class__")))
    (em0 : PySem.W.mroIn K Cx0 (.type "object") = some true)
    (ew0 : PySem.W.subIn K (.ref Cx0) (.ref Cw) = some true)
    (ev0 : PySem.W.subIn K (.ref Cx0) (.type "ValueError") = some true)
    (ea1 : PySem.W.nsIn K mainGlobals "InvalidRow" = some (some (.ref Cx1)))
    (ex1 : PySem.W.excIn K Cx1 [.type "ValueError", .type "Exception", .type "BaseException", .type "object"] "ValueError.__new__" = true)
    (ek1 : PySem.W.keepIn K (.ref Cx1) = true)
    (eb1 : PySem.W.subIn K (.ref Cx1) (.type "BaseException") = some true)
    (et1 : PySem.W.typeIn K (.ref Cx1) = some (.type "type"))
    (eg1 : PySem.W.findIn K (.ref Cx1) "__getattribute__" = some (some (.builtin "BaseException.__getattribute__")))
    (ej1 : PySem.W.findIn K (.ref Cx1) "__getattr__" = some none)
    (ed1 : PySem.W.hasDictIn K Cx1 = true)
    (ec1 : PySem.W.findIn K (.ref Cx1) "__class__" = some (some (.builtin "object.__class__")))
    (em1 : PySem.W.mroIn K Cx1 (.type "object") = some true)
    (ew1 : PySem.W.subIn K (.ref Cx1) (.ref Cw) = some true)
    (ev1 : PySem.W.subIn K (.ref Cx1) (.type "ValueError") = some true)
    (ea2 : PySem.W.nsIn K mainGlobals "InvalidTime" = some (some (.ref Cx2)))
    (ex2 : PySem.W.excIn K Cx2 [.type "ValueError", .type "Exception", .type "BaseException", .type "object"] "ValueError.__new__" = true)
    (ek2 : PySem.W.keepIn K (.ref Cx2) = true)
    (eb2 : PySem.W.subIn K (.ref Cx2) (.type "BaseException") = some true)
    (et2 : PySem.W.typeIn K (.ref Cx2) = some (.type "type"))
    (eg2 : PySem.W.findIn K (.ref Cx2) "__getattribute__" = some (some (.builtin "BaseException.__getattribute__")))
    (ej2 : PySem.W.findIn K (.ref Cx2) "__getattr__" = some none)
    (ed2 : PySem.W.hasDictIn K Cx2 = true)
    (ec2 : PySem.W.findIn K (.ref Cx2) "__class__" = some (some (.builtin "object.__class__")))
    (em2 : PySem.W.mroIn K Cx2 (.type "object") = some true)
    (ew2 : PySem.W.subIn K (.ref Cx2) (.ref Cw) = some true)
    (ev2 : PySem.W.subIn K (.ref Cx2) (.type "ValueError") = some true)
    (ea3 : PySem.W.nsIn K mainGlobals "InvalidNumber" = some (some (.ref Cx3)))
    (ex3 : PySem.W.excIn K Cx3 [.type "ValueError", .type "Exception", .type "BaseException", .type "object"] "ValueError.__new__" = true)
    (ek3 : PySem.W.keepIn K (.ref Cx3) = true)
    (eb3 : PySem.W.subIn K (.ref Cx3) (.type "BaseException") = some true)
    (et3 : PySem.W.typeIn K (.ref Cx3) = some (.type "type"))
    (eg3 : PySem.W.findIn K (.ref Cx3) "__getattribute__" = some (some (.builtin "BaseException.__getattribute__")))
    (ej3 : PySem.W.findIn K (.ref Cx3) "__getattr__" = some none)
    (ed3 : PySem.W.hasDictIn K Cx3 = true)
    (ec3 : PySem.W.findIn K (.ref Cx3) "__class__" = some (some (.builtin "object.__class__")))
    (em3 : PySem.W.mroIn K Cx3 (.type "object") = some true)
    (ew3 : PySem.W.subIn K (.ref Cx3) (.ref Cw) = some true)
    (ev3 : PySem.W.subIn K (.ref Cx3) (.type "ValueError") = some true)
    (ea4 : PySem.W.nsIn K mainGlobals "InvalidOutcomes" = some (some (.ref Cx4)))
    (ex4 : PySem.W.excIn K Cx4 [.type "ValueError", .type "Exception", .type "BaseException", .type "object"] "ValueError.__new__" = true)
    (ek4 : PySem.W.keepIn K (.ref Cx4) = true)
    (eb4 : PySem.W.subIn K (.ref Cx4) (.type "BaseException") = some true)
    (et4 : PySem.W.typeIn K (.ref Cx4) = some (.type "type"))
    (eg4 : PySem.W.findIn K (.ref Cx4) "__getattribute__" = some (some (.builtin "BaseException.__getattribute__")))
    (ej4 : PySem.W.findIn K (.ref Cx4) "__getattr__" = some none)
    (ed4 : PySem.W.hasDictIn K Cx4 = true)
    (ec4 : PySem.W.findIn K (.ref Cx4) "__class__" = some (some (.builtin "object.__class__")))
    (em4 : PySem.W.mroIn K Cx4 (.type "object") = some true)
    (ew4 : PySem.W.subIn K (.ref Cx4) (.ref Cw) = some true)
    (ev4 : PySem.W.subIn K (.ref Cx4) (.type "ValueError") = some true)
    (ea5 : PySem.W.nsIn K mainGlobals "NothingToUndo" = some (some (.ref Cx5)))
    (ex5 : PySem.W.excIn K Cx5 [.type "ValueError", .type "Exception", .type "BaseException", .type "object"] "ValueError.__new__" = true)
    (ek5 : PySem.W.keepIn K (.ref Cx5) = true)
    (eb5 : PySem.W.subIn K (.ref Cx5) (.type "BaseException") = some true)
    (et5 : PySem.W.typeIn K (.ref Cx5) = some (.type "type"))
    (eg5 : PySem.W.findIn K (.ref Cx5) "__getattribute__" = some (some (.builtin "BaseException.__getattribute__")))
    (ej5 : PySem.W.findIn K (.ref Cx5) "__getattr__" = some none)
    (ed5 : PySem.W.hasDictIn K Cx5 = true)
    (ec5 : PySem.W.findIn K (.ref Cx5) "__class__" = some (some (.builtin "object.__class__")))
    (em5 : PySem.W.mroIn K Cx5 (.type "object") = some true)
    (ew5 : PySem.W.subIn K (.ref Cx5) (.ref Cw) = some true)
    (ev5 : PySem.W.subIn K (.ref Cx5) (.type "ValueError") = some true)
    (ei0_0 : PySem.W.subIn K (.ref Cx0) (.ref Cx0) = some true)
    (ei0_1 : PySem.W.subIn K (.ref Cx0) (.ref Cx1) = some false)
    (ei0_2 : PySem.W.subIn K (.ref Cx0) (.ref Cx2) = some false)
    (ei0_3 : PySem.W.subIn K (.ref Cx0) (.ref Cx3) = some false)
    (ei0_4 : PySem.W.subIn K (.ref Cx0) (.ref Cx4) = some false)
    (ei0_5 : PySem.W.subIn K (.ref Cx0) (.ref Cx5) = some false)
    (ei1_0 : PySem.W.subIn K (.ref Cx1) (.ref Cx0) = some false)
    (ei1_1 : PySem.W.subIn K (.ref Cx1) (.ref Cx1) = some true)
    (ei1_2 : PySem.W.subIn K (.ref Cx1) (.ref Cx2) = some false)
    (ei1_3 : PySem.W.subIn K (.ref Cx1) (.ref Cx3) = some false)
    (ei1_4 : PySem.W.subIn K (.ref Cx1) (.ref Cx4) = some false)
    (ei1_5 : PySem.W.subIn K (.ref Cx1) (.ref Cx5) = some false)
    (ei2_0 : PySem.W.subIn K (.ref Cx2) (.ref Cx0) = some false)
    (ei2_1 : PySem.W.subIn K (.ref Cx2) (.ref Cx1) = some false)
    (ei2_2 : PySem.W.subIn K (.ref Cx2) (.ref Cx2) = some true)
    (ei2_3 : PySem.W.subIn K (.ref Cx2) (.ref Cx3) = some false)
    (ei2_4 : PySem.W.subIn K (.ref Cx2) (.ref Cx4) = some false)
    (ei2_5 : PySem.W.subIn K (.ref Cx2) (.ref Cx5) = some false)
    (ei3_0 : PySem.W.subIn K (.ref Cx3) (.ref Cx0) = some false)
    (ei3_1 : PySem.W.subIn K (.ref Cx3) (.ref Cx1) = some false)
    (ei3_2 : PySem.W.subIn K (.ref Cx3) (.ref Cx2) = some false)
    (ei3_3 : PySem.W.subIn K (.ref Cx3) (.ref Cx3) = some true)
    (ei3_4 : PySem.W.subIn K (.ref Cx3) (.ref Cx4) = some false)
    (ei3_5 : PySem.W.subIn K (.ref Cx3) (.ref Cx5) = some false)
    (ei4_0 : PySem.W.subIn K (.ref Cx4) (.ref Cx0) = some false)
    (ei4_1 : PySem.W.subIn K (.ref Cx4) (.ref Cx1) = some false)
    (ei4_2 : PySem.W.subIn K (.ref Cx4) (.ref Cx2) = some false)
    (ei4_3 : PySem.W.subIn K (.ref Cx4) (.ref Cx3) = some false)
    (ei4_4 : PySem.W.subIn K (.ref Cx4) (.ref Cx4) = some true)
    (ei4_5 : PySem.W.subIn K (.ref Cx4) (.ref Cx5) = some false)
    (ei5_0 : PySem.W.subIn K (.ref Cx5) (.ref Cx0) = some false)
    (ei5_1 : PySem.W.subIn K (.ref Cx5) (.ref Cx1) = some false)
    (ei5_2 : PySem.W.subIn K (.ref Cx5) (.ref Cx2) = some false)
    (ei5_3 : PySem.W.subIn K (.ref Cx5) (.ref Cx3) = some false)
    (ei5_4 : PySem.W.subIn K (.ref Cx5) (.ref Cx4) = some false)
    (ei5_5 : PySem.W.subIn K (.ref Cx5) (.ref Cx5) = some true)
    (en : PySem.W.specialIn K (.builtin "object.__class__") "__get__" = some (some (.builtin "getset_descriptor.__get__")))
    (eq : PySem.W.takesIn K (.builtin "object.__class__") = some true)
    (ebw : PySem.W.subIn K (.ref Cw) (.type "BaseException") = some true)
    (edw : PySem.W.hasDictIn K Cw = true)
    (etw : PySem.W.typeIn K (.ref Cw) = some (.type "type"))
    (ezv : PySem.W.nsIn K mainGlobals "ValueError" = some none)
    (ezi : PySem.W.nsIn K mainGlobals "isinstance" = some none)
    (z_all : PySem.W.nsIn K mainGlobals "all" = some none)
    (z_bool : PySem.W.nsIn K mainGlobals "bool" = some none)
    (z_int : PySem.W.nsIn K mainGlobals "int" = some none)
    (z_isinstance : PySem.W.nsIn K mainGlobals "isinstance" = some none)
    (z_len : PySem.W.nsIn K mainGlobals "len" = some none)
    (z_max : PySem.W.nsIn K mainGlobals "max" = some none)
    (z_min : PySem.W.nsIn K mainGlobals "min" = some none)
    (z_range : PySem.W.nsIn K mainGlobals "range" = some none)
    (z_sum : PySem.W.nsIn K mainGlobals "sum" = some none)
    (z_tuple : PySem.W.nsIn K mainGlobals "tuple" = some none)
    (z_zip : PySem.W.nsIn K mainGlobals "zip" = some none)
    (g_LONGEST_PAUSE : PySem.W.nsIn K mainGlobals "LONGEST_PAUSE" = some (some (.int 200 t_LONGEST_PAUSE)))
    (g_MANY : PySem.W.nsIn K mainGlobals "MANY" = some (some (.int 1000000000000 t_MANY))) :
    LamX.LawAtS l w K (L2N.CX l.prog w) 8 63 "script" mg fa h := by
  have e := hfa.symm.trans (PySem.W.mg_of X G a_law)
  cases e
  have hC := PySem.W.codeHd_of_K X cHd
  refine ⟨PySem.W.fnOf "law" "law" (defArgs st_law) (defBody st_law) (defScope st_law) .none kV_law dc_law pm_law an_law (.ref cc) ct_law, [(cc, Pt)], spD K (clsOf (six Cx0 Cx1 Cx2 Cx3 Cx4 Cx5)) 1 (s_law Pt), fun q hq => by cases List.mem_singleton.mp hq; exact hTb, fun q hq => by cases List.mem_singleton.mp hq; exact nPt, fun q hq => by cases List.mem_singleton.mp hq; exact hC, fun s v => .of_eq rfl, fun H a ns hl hb hH hS => law_endT hS (hH (cc, Pt) List.mem_cons_self) nPt (hlaw Pt ns hl hb), fun base _ _ TBs => ?_⟩
  have T : ErrT K mg (clsOf (six Cx0 Cx1 Cx2 Cx3 Cx4 Cx5)) (six Cx0 Cx1 Cx2 Cx3 Cx4 Cx5) Cw := ⟨fun k hk => match k, hk with | 0, _ => ⟨PySem.W.mg_of X G ea0, rfl, ex0, ek0, eb0, et0⟩ | 1, _ => ⟨PySem.W.mg_of X G ea1, rfl, ex1, ek1, eb1, et1⟩ | 2, _ => ⟨PySem.W.mg_of X G ea2, rfl, ex2, ek2, eb2, et2⟩ | 3, _ => ⟨PySem.W.mg_of X G ea3, rfl, ex3, ek3, eb3, et3⟩ | 4, _ => ⟨PySem.W.mg_of X G ea4, rfl, ex4, ek4, eb4, et4⟩ | 5, _ => ⟨PySem.W.mg_of X G ea5, rfl, ex5, ek5, eb5, et5⟩ | n + 6, h => absurd h (by omega), fun k hk => match k, hk with | 0, _ => ⟨eg0, ej0, eb0, ed0, ec0, en, eq, em0⟩ | 1, _ => ⟨eg1, ej1, eb1, ed1, ec1, en, eq, em1⟩ | 2, _ => ⟨eg2, ej2, eb2, ed2, ec2, en, eq, em2⟩ | 3, _ => ⟨eg3, ej3, eb3, ed3, ec3, en, eq, em3⟩ | 4, _ => ⟨eg4, ej4, eb4, ed4, ec4, en, eq, em4⟩ | 5, _ => ⟨eg5, ej5, eb5, ed5, ec5, en, eq, em5⟩ | n + 6, h => absurd h (by omega), PySem.W.mg_of X G ewt, fun k hk => match k, hk with | 0, _ => PySem.W.exm_ref ebw edw etw ew0 | 1, _ => PySem.W.exm_ref ebw edw etw ew1 | 2, _ => PySem.W.exm_ref ebw edw etw ew2 | 3, _ => PySem.W.exm_ref ebw edw etw ew3 | 4, _ => PySem.W.exm_ref ebw edw etw ew4 | 5, _ => PySem.W.exm_ref ebw edw etw ew5 | n + 6, h => absurd h (by omega), fun k j hk hj => match k, hk, j, hj with | 0, _, 0, _ => kit_ref ed0 et0 ei0_0 ei0_0 | 0, _, 1, _ => kit_ref ed1 et1 ei0_1 ei1_1 | 0, _, 2, _ => kit_ref ed2 et2 ei0_2 ei2_2 | 0, _, 3, _ => kit_ref ed3 et3 ei0_3 ei3_3 | 0, _, 4, _ => kit_ref ed4 et4 ei0_4 ei4_4 | 0, _, 5, _ => kit_ref ed5 et5 ei0_5 ei5_5 | 1, _, 0, _ => kit_ref ed0 et0 ei1_0 ei0_0 | 1, _, 1, _ => kit_ref ed1 et1 ei1_1 ei1_1 | 1, _, 2, _ => kit_ref ed2 et2 ei1_2 ei2_2 | 1, _, 3, _ => kit_ref ed3 et3 ei1_3 ei3_3 | 1, _, 4, _ => kit_ref ed4 et4 ei1_4 ei4_4 | 1, _, 5, _ => kit_ref ed5 et5 ei1_5 ei5_5 | 2, _, 0, _ => kit_ref ed0 et0 ei2_0 ei0_0 | 2, _, 1, _ => kit_ref ed1 et1 ei2_1 ei1_1 | 2, _, 2, _ => kit_ref ed2 et2 ei2_2 ei2_2 | 2, _, 3, _ => kit_ref ed3 et3 ei2_3 ei3_3 | 2, _, 4, _ => kit_ref ed4 et4 ei2_4 ei4_4 | 2, _, 5, _ => kit_ref ed5 et5 ei2_5 ei5_5 | 3, _, 0, _ => kit_ref ed0 et0 ei3_0 ei0_0 | 3, _, 1, _ => kit_ref ed1 et1 ei3_1 ei1_1 | 3, _, 2, _ => kit_ref ed2 et2 ei3_2 ei2_2 | 3, _, 3, _ => kit_ref ed3 et3 ei3_3 ei3_3 | 3, _, 4, _ => kit_ref ed4 et4 ei3_4 ei4_4 | 3, _, 5, _ => kit_ref ed5 et5 ei3_5 ei5_5 | 4, _, 0, _ => kit_ref ed0 et0 ei4_0 ei0_0 | 4, _, 1, _ => kit_ref ed1 et1 ei4_1 ei1_1 | 4, _, 2, _ => kit_ref ed2 et2 ei4_2 ei2_2 | 4, _, 3, _ => kit_ref ed3 et3 ei4_3 ei3_3 | 4, _, 4, _ => kit_ref ed4 et4 ei4_4 ei4_4 | 4, _, 5, _ => kit_ref ed5 et5 ei4_5 ei5_5 | 5, _, 0, _ => kit_ref ed0 et0 ei5_0 ei0_0 | 5, _, 1, _ => kit_ref ed1 et1 ei5_1 ei1_1 | 5, _, 2, _ => kit_ref ed2 et2 ei5_2 ei2_2 | 5, _, 3, _ => kit_ref ed3 et3 ei5_3 ei3_3 | 5, _, 4, _ => kit_ref ed4 et4 ei5_4 ei4_4 | 5, _, 5, _ => kit_ref ed5 et5 ei5_5 ei5_5 | n + 6, h, _, _ => absurd h (by omega) | _, _, n + 6, h => absurd h (by omega), fun k hk => match k, hk with | 0, _ => kit_val ev0 | 1, _ => kit_val ev1 | 2, _ => kit_val ev2 | 3, _ => kit_val ev3 | 4, _ => kit_val ev4 | 5, _ => kit_val ev5 | n + 6, h => absurd h (by omega), PySem.W.mg_none_of X G ezv, PySem.W.mg_none_of X G ezi⟩
  have G_is_integer := ok_is_integer (P := l.prog) (w := w) (base := base) (cl := clsOf (six Cx0 Cx1 Cx2 Cx3 Cx4 Cx5)) (fun_mk (st := st_is_integer) l_is_integer c_is_integer k_is_integer) (PySem.W.mg_of X G a_is_integer) (PySem.W.mg_none_of X G z_bool) (PySem.W.mg_none_of X G z_int) (PySem.W.mg_none_of X G z_isinstance)
  have G_never_falls := ok_never_falls (P := l.prog) (w := w) (base := base) (cl := clsOf (six Cx0 Cx1 Cx2 Cx3 Cx4 Cx5)) (fun_mk (st := st_never_falls) l_never_falls c_never_falls k_never_falls) (PySem.W.mg_of X G a_never_falls) (PySem.W.mg_none_of X G z_all) (PySem.W.mg_none_of X G z_zip)
  have G_series_time := ok_series_time (P := l.prog) (w := w) (base := base) (cl := clsOf (six Cx0 Cx1 Cx2 Cx3 Cx4 Cx5)) (fun_mk (st := st_series_time) l_series_time c_series_time k_series_time) (PySem.W.mg_of X G a_series_time) (PySem.W.mg_none_of X G z_len) (PySem.W.mg_none_of X G z_sum)
  have G_law_cell_at := ok_law_cell_at (P := l.prog) (w := w) (base := base) (cl := clsOf (six Cx0 Cx1 Cx2 Cx3 Cx4 Cx5)) (fun_mk (st := st_law_cell_at) l_law_cell_at c_law_cell_at k_law_cell_at) (PySem.W.mg_of X G a_law_cell_at) (PySem.W.mg_none_of X G z_len)
  have G_law_draws := ok_law_draws (P := l.prog) (w := w) (base := base) (cl := clsOf (six Cx0 Cx1 Cx2 Cx3 Cx4 Cx5)) (fun_mk (st := st_law_draws) l_law_draws c_law_draws k_law_draws) (PySem.W.mg_of X G a_law_draws) (PySem.W.mg_none_of X G z_int) (PySem.W.mg_none_of X G z_range)
  have G_law_take := ok_law_take (P := l.prog) (w := w) (base := base) (cl := clsOf (six Cx0 Cx1 Cx2 Cx3 Cx4 Cx5)) (fun_mk (st := st_law_take) l_law_take c_law_take k_law_take) (PySem.W.mg_of X G a_law_take) (PySem.W.mg_none_of X G z_len)
  have G_law_wait := ok_law_wait (P := l.prog) (w := w) (base := base) (cl := clsOf (six Cx0 Cx1 Cx2 Cx3 Cx4 Cx5)) (fun_mk (st := st_law_wait) l_law_wait c_law_wait k_law_wait) (PySem.W.mg_of X G a_law_wait) (PySem.W.mg_none_of X G z_len)
  have G_are_waits := ok_are_waits (P := l.prog) (w := w) (base := base) (cl := clsOf (six Cx0 Cx1 Cx2 Cx3 Cx4 Cx5)) (fun_mk (st := st_are_waits) l_are_waits c_are_waits k_are_waits) (PySem.W.mg_of X G a_are_waits) G_is_integer G_never_falls (PySem.W.mg_none_of X G z_all) (PySem.W.mg_none_of X G z_isinstance) (PySem.W.mg_none_of X G z_len) (PySem.W.mg_none_of X G z_tuple)
  have G_need_time := ok_need_time (P := l.prog) (w := w) (base := base) (cl := clsOf (six Cx0 Cx1 Cx2 Cx3 Cx4 Cx5)) (fun_mk (st := st_need_time) l_need_time c_need_time k_need_time) (PySem.W.mg_of X G a_need_time) G_is_integer (T.o 2 (by decide))
  have G_length_of := ok_length_of (P := l.prog) (w := w) (base := base) (cl := clsOf (six Cx0 Cx1 Cx2 Cx3 Cx4 Cx5)) (fun_mk (st := st_length_of) l_length_of c_length_of k_length_of) (PySem.W.mg_of X G a_length_of) G_series_time (PySem.W.mg_none_of X G z_len) (PySem.W.mg_none_of X G z_range)
  have G_time_of := ok_time_of (P := l.prog) (w := w) (base := base) (cl := clsOf (six Cx0 Cx1 Cx2 Cx3 Cx4 Cx5)) (fun_mk (st := st_time_of) l_time_of c_time_of k_time_of) (PySem.W.mg_of X G a_time_of) G_series_time
  have G_law_bag := ok_law_bag (P := l.prog) (w := w) (base := base) (cl := clsOf (six Cx0 Cx1 Cx2 Cx3 Cx4 Cx5)) (fun_mk (st := st_law_bag) l_law_bag c_law_bag k_law_bag) (PySem.W.mg_of X G a_law_bag) G_law_draws G_law_cell_at
  have G_law_far_draw := ok_law_far_draw (P := l.prog) (w := w) (base := base) (cl := clsOf (six Cx0 Cx1 Cx2 Cx3 Cx4 Cx5)) (fun_mk (st := st_law_far_draw) l_law_far_draw c_law_far_draw k_law_far_draw) (PySem.W.mg_of X G a_law_far_draw) G_law_take
  have G_law_rule := ok_law_rule (P := l.prog) (w := w) (base := base) (cl := clsOf (six Cx0 Cx1 Cx2 Cx3 Cx4 Cx5)) (fun_mk (st := st_law_rule) l_law_rule c_law_rule k_law_rule) (PySem.W.mg_of X G a_law_rule) G_law_take (PySem.W.mg_none_of X G z_min) (PySem.W.mg_none_of X G z_range)
  have G_law_series := ok_law_series (P := l.prog) (w := w) (base := base) (cl := clsOf (six Cx0 Cx1 Cx2 Cx3 Cx4 Cx5)) (fun_mk (st := st_law_series) l_law_series c_law_series k_law_series) (PySem.W.mg_of X G a_law_series) G_law_wait (PySem.W.mg_none_of X G z_range) (PySem.W.mg_none_of X G z_sum)
  have G_is_rule := ok_is_rule (P := l.prog) (w := w) (base := base) (cl := clsOf (six Cx0 Cx1 Cx2 Cx3 Cx4 Cx5)) (fun_mk (st := st_is_rule) l_is_rule c_is_rule k_is_rule) (PySem.W.mg_of X G a_is_rule) G_are_waits G_is_integer (PySem.W.mg_none_of X G z_isinstance) (PySem.W.mg_none_of X G z_len) (PySem.W.mg_none_of X G z_tuple) (PySem.W.mg_of X G g_LONGEST_PAUSE)
  have G_earliest_of := ok_earliest_of (P := l.prog) (w := w) (base := base) (cl := clsOf (six Cx0 Cx1 Cx2 Cx3 Cx4 Cx5)) (fun_mk (st := st_earliest_of) l_earliest_of c_earliest_of k_earliest_of) (PySem.W.mg_of X G a_earliest_of) G_length_of G_time_of (PySem.W.mg_none_of X G z_min) (PySem.W.mg_none_of X G z_range)
  have G_law_bags := ok_law_bags (P := l.prog) (w := w) (base := base) (cl := clsOf (six Cx0 Cx1 Cx2 Cx3 Cx4 Cx5)) (fun_mk (st := st_law_bags) l_law_bags c_law_bags k_law_bags) (PySem.W.mg_of X G a_law_bags) G_law_bag (PySem.W.mg_none_of X G z_len) (PySem.W.mg_none_of X G z_max) (PySem.W.mg_none_of X G z_min) (PySem.W.mg_none_of X G z_range)
  have G_law_small := ok_law_small (P := l.prog) (w := w) (base := base) (cl := clsOf (six Cx0 Cx1 Cx2 Cx3 Cx4 Cx5)) (fun_mk (st := st_law_small) l_law_small c_law_small k_law_small) (PySem.W.mg_of X G a_law_small) G_law_series (PySem.W.mg_none_of X G z_min) (PySem.W.mg_none_of X G z_range)
  have G_need_rule := ok_need_rule (P := l.prog) (w := w) (base := base) (cl := clsOf (six Cx0 Cx1 Cx2 Cx3 Cx4 Cx5)) (fun_mk (st := st_need_rule) l_need_rule c_need_rule k_need_rule) (PySem.W.mg_of X G a_need_rule) G_is_rule (T.o 0 (by decide))
  have G_earliest := ok_earliest (P := l.prog) (w := w) (base := base) (cl := clsOf (six Cx0 Cx1 Cx2 Cx3 Cx4 Cx5)) (fun_mk (st := st_earliest) l_earliest c_earliest k_earliest) (PySem.W.mg_of X G a_earliest) G_need_rule G_is_integer G_earliest_of (T.o 3 (by decide)) (PySem.W.mg_of X G g_MANY)
  have G_most_until := ok_most_until (P := l.prog) (w := w) (base := base) (cl := clsOf (six Cx0 Cx1 Cx2 Cx3 Cx4 Cx5)) (fun_mk (st := st_most_until) l_most_until c_most_until k_most_until) (PySem.W.mg_of X G a_most_until) G_need_rule G_need_time G_earliest_of (PySem.W.mg_of X G g_MANY)
  have RE : ∀ k g, RunE l.prog w K mg base (clsOf (six Cx0 Cx1 Cx2 Cx3 Cx4 Cx5)) k f_law_error g := fun k g => ok_errL (P := l.prog) (w := w) (base := base) (cl := (clsOf (six Cx0 Cx1 Cx2 Cx3 Cx4 Cx5))) (fun_mk (st := st_law_error) l_law_error c_law_error k_law_error) T k g
  exact okF_law (P := l.prog) (w := w) (base := base) (cl := (clsOf (six Cx0 Cx1 Cx2 Cx3 Cx4 Cx5))) l_law c_law (TBs (cc, Pt) List.mem_cons_self) (PySem.W.mg_of X G a_law_error) k_law_error RE G_law_bags G_law_rule G_law_take G_law_far_draw G_most_until G_earliest G_law_small (PySem.W.mg_none_of X G z_len) (PySem.W.mg_none_of X G z_range)
end GW
open PySem PySem.W PyProof.Rows
set_option maxHeartbeats 0 in
theorem PySem.Challenge.cw_growwaits_k13_most_tries_until_a_time_holds : PySem.Challenge.rw_growwaits_k13_most_tries_until_a_time.Holds := by
  w_on; o_law; k_head; (case hw => w_witness2)
  k_fill
  refine LamX.walk_ofTs (l := PySem.Challenge.rw_growwaits_k13_most_tries_until_a_time) (n := 63) (k := 8) (x := "script") (CX := fun w => L2N.CX PySem.Challenge.rw_growwaits_k13_most_tries_until_a_time.prog w) rfl (by decide) rfl ⟨rfl, by decide, by decide⟩ (fun w h Y => PySem.W.km_in_of Y) ?F (fun _ _ _ _ _ h => GW.cx_false h)
  case F =>
    intro w mg fa h Y KX G hmg
    refine' GW.all_mk KX G hmg (fun P ns hl hb => GW.s_law_true P ns hl hb) ?a_is_integer ?l_is_integer ?c_is_integer ?k_is_integer ?a_never_falls ?l_never_falls ?c_never_falls ?k_never_falls ?a_series_time ?l_series_time ?c_series_time ?k_series_time ?a_law_cell_at ?l_law_cell_at ?c_law_cell_at ?k_law_cell_at ?a_law_draws ?l_law_draws ?c_law_draws ?k_law_draws ?a_law_take ?l_law_take ?c_law_take ?k_law_take ?a_law_wait ?l_law_wait ?c_law_wait ?k_law_wait ?a_are_waits ?l_are_waits ?c_are_waits ?k_are_waits ?a_need_time ?l_need_time ?c_need_time ?k_need_time ?a_length_of ?l_length_of ?c_length_of ?k_length_of ?a_time_of ?l_time_of ?c_time_of ?k_time_of ?a_law_bag ?l_law_bag ?c_law_bag ?k_law_bag ?a_law_far_draw ?l_law_far_draw ?c_law_far_draw ?k_law_far_draw ?a_law_rule ?l_law_rule ?c_law_rule ?k_law_rule ?a_law_series ?l_law_series ?c_law_series ?k_law_series ?a_is_rule ?l_is_rule ?c_is_rule ?k_is_rule ?a_earliest_of ?l_earliest_of ?c_earliest_of ?k_earliest_of ?a_law_bags ?l_law_bags ?c_law_bags ?k_law_bags ?a_law_small ?l_law_small ?c_law_small ?k_law_small ?a_need_rule ?l_need_rule ?c_need_rule ?k_need_rule ?a_earliest ?l_earliest ?c_earliest ?k_earliest ?a_most_until ?l_most_until ?c_most_until ?k_most_until ?a_law ?l_law ?c_law ?k_law ?a_law_error ?l_law_error ?c_law_error ?k_law_error ?lcc ?vPt ?nPt ?cHd ?hTb ?ewt ?ea0 ?ex0 ?ek0 ?eb0 ?et0 ?eg0 ?ej0 ?ed0 ?ec0 ?em0 ?ew0 ?ev0 ?ea1 ?ex1 ?ek1 ?eb1 ?et1 ?eg1 ?ej1 ?ed1 ?ec1 ?em1 ?ew1 ?ev1 ?ea2 ?ex2 ?ek2 ?eb2 ?et2 ?eg2 ?ej2 ?ed2 ?ec2 ?em2 ?ew2 ?ev2 ?ea3 ?ex3 ?ek3 ?eb3 ?et3 ?eg3 ?ej3 ?ed3 ?ec3 ?em3 ?ew3 ?ev3 ?ea4 ?ex4 ?ek4 ?eb4 ?et4 ?eg4 ?ej4 ?ed4 ?ec4 ?em4 ?ew4 ?ev4 ?ea5 ?ex5 ?ek5 ?eb5 ?et5 ?eg5 ?ej5 ?ed5 ?ec5 ?em5 ?ew5 ?ev5 ?ei0_0 ?ei0_1 ?ei0_2 ?ei0_3 ?ei0_4 ?ei0_5 ?ei1_0 ?ei1_1 ?ei1_2 ?ei1_3 ?ei1_4 ?ei1_5 ?ei2_0 ?ei2_1 ?ei2_2 ?ei2_3 ?ei2_4 ?ei2_5 ?ei3_0 ?ei3_1 ?ei3_2 ?ei3_3 ?ei3_4 ?ei3_5 ?ei4_0 ?ei4_1 ?ei4_2 ?ei4_3 ?ei4_4 ?ei4_5 ?ei5_0 ?ei5_1 ?ei5_2 ?ei5_3 ?ei5_4 ?ei5_5 ?en ?eq ?ebw ?edw ?etw ?ezv ?ezi ?z_all ?z_bool ?z_int ?z_isinstance ?z_len ?z_max ?z_min ?z_range ?z_sum ?z_tuple ?z_zip ?g_LONGEST_PAUSE ?g_MANY
    (case a_is_integer => k_is); (case l_is_integer => k_is); (case c_is_integer => k_is); (case k_is_integer => k_is); (case a_never_falls => k_is); (case l_never_falls => k_is); (case c_never_falls => k_is); (case k_never_falls => k_is); (case a_series_time => k_is); (case l_series_time => k_is); (case c_series_time => k_is); (case k_series_time => k_is); (case a_law_cell_at => k_is); (case l_law_cell_at => k_is); (case c_law_cell_at => k_is); (case k_law_cell_at => k_is); (case a_law_draws => k_is); (case l_law_draws => k_is); (case c_law_draws => k_is); (case k_law_draws => k_is); (case a_law_take => k_is); (case l_law_take => k_is); (case c_law_take => k_is); (case k_law_take => k_is); (case a_law_wait => k_is); (case l_law_wait => k_is); (case c_law_wait => k_is); (case k_law_wait => k_is); (case a_are_waits => k_is); (case l_are_waits => k_is); (case c_are_waits => k_is); (case k_are_waits => k_is); (case a_need_time => k_is); (case l_need_time => k_is); (case c_need_time => k_is); (case k_need_time => k_is); (case a_length_of => k_is); (case l_length_of => k_is); (case c_length_of => k_is); (case k_length_of => k_is); (case a_time_of => k_is); (case l_time_of => k_is); (case c_time_of => k_is); (case k_time_of => k_is); (case a_law_bag => k_is); (case l_law_bag => k_is); (case c_law_bag => k_is); (case k_law_bag => k_is); (case a_law_far_draw => k_is); (case l_law_far_draw => k_is); (case c_law_far_draw => k_is); (case k_law_far_draw => k_is); (case a_law_rule => k_is); (case l_law_rule => k_is); (case c_law_rule => k_is); (case k_law_rule => k_is); (case a_law_series => k_is); (case l_law_series => k_is); (case c_law_series => k_is); (case k_law_series => k_is); (case a_is_rule => k_is); (case l_is_rule => k_is); (case c_is_rule => k_is); (case k_is_rule => k_is); (case a_earliest_of => k_is); (case l_earliest_of => k_is); (case c_earliest_of => k_is); (case k_earliest_of => k_is); (case a_law_bags => k_is); (case l_law_bags => k_is); (case c_law_bags => k_is); (case k_law_bags => k_is); (case a_law_small => k_is); (case l_law_small => k_is); (case c_law_small => k_is); (case k_law_small => k_is); (case a_need_rule => k_is); (case l_need_rule => k_is); (case c_need_rule => k_is); (case k_need_rule => k_is); (case a_earliest => k_is); (case l_earliest => k_is); (case c_earliest => k_is); (case k_earliest => k_is); (case a_most_until => k_is); (case l_most_until => k_is); (case c_most_until => k_is); (case k_most_until => k_is); (case a_law => k_is); (case l_law => k_is); (case c_law => k_is); (case k_law => k_is); (case a_law_error => k_is); (case l_law_error => k_is); (case c_law_error => k_is); (case k_law_error => k_is); (case lcc => k_is); (case vPt => rfl); (case nPt => first | kernel_rfl | rfl | decide); (case cHd => first | kernel_rfl | rfl); (case hTb => exact PySem.W.km_tabs_of Y _ (by decide)); (case ewt => k_is); (case ea0 => k_is); (case ex0 => k_exc); (case ek0 => k_is); (case eb0 => k_is); (case et0 => k_is); (case eg0 => k_is); (case ej0 => k_is); (case ed0 => k_is); (case ec0 => k_is); (case em0 => k_is); (case ew0 => k_is); (case ev0 => k_is); (case ea1 => k_is); (case ex1 => k_exc); (case ek1 => k_is); (case eb1 => k_is); (case et1 => k_is); (case eg1 => k_is); (case ej1 => k_is); (case ed1 => k_is); (case ec1 => k_is); (case em1 => k_is); (case ew1 => k_is); (case ev1 => k_is); (case ea2 => k_is); (case ex2 => k_exc); (case ek2 => k_is); (case eb2 => k_is); (case et2 => k_is); (case eg2 => k_is); (case ej2 => k_is); (case ed2 => k_is); (case ec2 => k_is); (case em2 => k_is); (case ew2 => k_is); (case ev2 => k_is); (case ea3 => k_is); (case ex3 => k_exc); (case ek3 => k_is); (case eb3 => k_is); (case et3 => k_is); (case eg3 => k_is); (case ej3 => k_is); (case ed3 => k_is); (case ec3 => k_is); (case em3 => k_is); (case ew3 => k_is); (case ev3 => k_is); (case ea4 => k_is); (case ex4 => k_exc); (case ek4 => k_is); (case eb4 => k_is); (case et4 => k_is); (case eg4 => k_is); (case ej4 => k_is); (case ed4 => k_is); (case ec4 => k_is); (case em4 => k_is); (case ew4 => k_is); (case ev4 => k_is); (case ea5 => k_is); (case ex5 => k_exc); (case ek5 => k_is); (case eb5 => k_is); (case et5 => k_is); (case eg5 => k_is); (case ej5 => k_is); (case ed5 => k_is); (case ec5 => k_is); (case em5 => k_is); (case ew5 => k_is); (case ev5 => k_is); (case ei0_0 => k_is); (case ei0_1 => k_is); (case ei0_2 => k_is); (case ei0_3 => k_is); (case ei0_4 => k_is); (case ei0_5 => k_is); (case ei1_0 => k_is); (case ei1_1 => k_is); (case ei1_2 => k_is); (case ei1_3 => k_is); (case ei1_4 => k_is); (case ei1_5 => k_is); (case ei2_0 => k_is); (case ei2_1 => k_is); (case ei2_2 => k_is); (case ei2_3 => k_is); (case ei2_4 => k_is); (case ei2_5 => k_is); (case ei3_0 => k_is); (case ei3_1 => k_is); (case ei3_2 => k_is); (case ei3_3 => k_is); (case ei3_4 => k_is); (case ei3_5 => k_is); (case ei4_0 => k_is); (case ei4_1 => k_is); (case ei4_2 => k_is); (case ei4_3 => k_is); (case ei4_4 => k_is); (case ei4_5 => k_is); (case ei5_0 => k_is); (case ei5_1 => k_is); (case ei5_2 => k_is); (case ei5_3 => k_is); (case ei5_4 => k_is); (case ei5_5 => k_is); (case en => k_is); (case eq => k_is); (case ebw => k_is); (case edw => k_is); (case etw => k_is); (case ezv => k_is); (case ezi => k_is); (case z_all => k_is); (case z_bool => k_is); (case z_int => k_is); (case z_isinstance => k_is); (case z_len => k_is); (case z_max => k_is); (case z_min => k_is); (case z_range => k_is); (case z_sum => k_is); (case z_tuple => k_is); (case z_zip => k_is); (case g_LONGEST_PAUSE => k_is); (case g_MANY => k_is)
