import PyProof.Rows.All
import HandS.ForMost
import HandS.ExcValue
import HandS.ExcInit
import HandS.ExcIs
import HandS.ExcField
import KE.KExcIs
import HandS.ForExc
import HandS.Flow
import HandS.IsInst
import KE.KDictKeyed
import KE.KeyNested
import HandS.Wide
import HandS.WideBits
import HandS.Text
import HandS.TupAny
import KE.DataEq
import PyProof.Rows.SeqMore
import HandS.TupLen
import KE.GoesMore
import PyProof.Draws
import PyProof.EnumMake
import HandS.Iter
import HandS.Comp
import HandS.List
import HandS.Defaults
import HandS.Dict
import HandS.Head0
import HandS.Head1
import HandS.Head2
import HandS.HeadEnd
import HandS.HeadHook1
import HandS.HeadHook2
import HandS.RaiseMore
import HandS.DictComp
import PyProof.StrOps2
import PyProof.ReprRoads
import HandS.ExcOwn
import HandS.TryMany
import HandS.TupSets
import KE.SortData
import KE.SortKeyHeap
import HandS.SortKw
import HandS.More
import HandS.FStr
import HandS.TupMul
import HandS.Style
import HandS.ClsMeth
import PySem.Challenge.RW_stemrules_k01_errors
set_option Elab.async false
set_option linter.all false
set_option maxRecDepth 100000
set_option maxHeartbeats 4000000
/-! DL: data, frozen and owned; the runs of defs as plain functions. -/
namespace DL
open PySem PySem.Spec PyProof.Rows L2
/-! ### data at a value -/
def keyD : Key → PyData
  | .inl i => .int i
  | .inr x => .str x
/-- the written part, and the world (texts' hashes) -/
structure KW where
  f : PySem.W.Frag
  w : World
instance : CoeOut KW PySem.W.Frag := ⟨KW.f⟩
abbrev _root_.L2.Cx.KW (X : Cx) : DL.KW := ⟨X.K, X.w⟩
mutual
/-- data as a key of any depth -/
def nkOf : PyData → Option NestedKey
  | .none => some .none
  | .int i => some (.num i)
  | .str x => some (.text x)
  | .tuple ds => (nkAll ds).map .tup
  | _ => none
def nkAll : List PyData → Option (List NestedKey)
  | [] => some []
  | d :: ds => (nkOf d).bind fun k => (nkAll ds).map (k :: ·)
end
abbrev NkV := NestedKey × Addr × V
/-- a dict whose keys are tuples of any depth -/
def dnO (w : World) (a : Addr) (xs : List NkV) : HO := .ext fun h => xs.length ≤ sizeLine ∧ (a == sysModules) = false ∧ ∃ ys : List (NestedKey × Addr × Value),
  Paired (fun (p : NkV) (q : NestedKey × Addr × Value) => p.1 = q.1 ∧ p.2.1 = q.2.1 ∧ RelV p.2.2 q.2.2) xs ys ∧
  ∃ o es ep, h.get? a = some o ∧ o.ExactDict ∧ o.data = .dict es ep ∧ es.toList = ys.map (fun x => (⟨x.1.hash w, .ref x.2.1, x.2.2⟩ : DictEntry)) ∧ (ys.map (·.1)).Nodup
mutual
inductive Rp (K : KW) (F : Hp) : V → PyData → Prop
  | non : Rp K F .non .none
  | bl (b : Bool) : Rp K F (.bl b) (.bool b)
  | int (i : Int) : Rp K F (.int i) (.int i)
  | str (x : Str) : x.length ≤ sizeLine → Rp K F (.str x) (.str x)
  | lst {a : Addr} {xs : List V} {ds : List PyData} : SqL K.f F a xs → RpAll K F xs ds → Rp K F (.ref a) (.list ds)
  | tup {a : Addr} {xs : List V} {ds : List PyData} : SqT K.f F a xs → RpAll K F xs ds → Rp K F (.ref a) (.tuple ds)
  | dct {a : Addr} {ks : List (Key × V)} {ds : List (PyData × PyData)} : F a = some (.dK ks) → RpKV K F ks ds → Rp K F (.ref a) (.dict ds)
  | dcn {a : Addr} {ks : List NkV} {ds : List (PyData × PyData)} : F a = some (dnO K.w a ks) → ks ≠ [] → RpKN K F ks ds → Rp K F (.ref a) (.dict ds)
  | ex0 {a C : Addr} : ExcC K.f C → F a = some (ExO (.ref C) a) → Rp K F (.ref a) (.dict [(.bool true, .int (Int.ofNat C))])
  | exn {a C d : Addr} {xs : List (Str × V)} {ds : List (PyData × PyData)} : ExcC K.f C → F a = some (exo a C (some d)) → F d = some (exd d xs) → RpKV K F (xs.map fun p => (Sum.inr p.1, p.2)) ds → Rp K F (.ref a) (.dict ((.bool true, .int (Int.ofNat C)) :: ds))
inductive RpAll (K : KW) (F : Hp) : List V → List PyData → Prop
  | nil : RpAll K F [] []
  | cons {v : V} {vs : List V} {d : PyData} {ds : List PyData} : Rp K F v d → RpAll K F vs ds → RpAll K F (v :: vs) (d :: ds)
inductive RpKV (K : KW) (F : Hp) : List (Key × V) → List (PyData × PyData) → Prop
  | nil : RpKV K F [] []
  | cons {k : Key} {v : V} {vs : List (Key × V)} {d : PyData} {ds : List (PyData × PyData)} : Rp K F v d → RpKV K F vs ds → RpKV K F ((k, v) :: vs) ((keyD k, d) :: ds)
inductive RpKN (K : KW) (F : Hp) : List NkV → List (PyData × PyData) → Prop
  | nil : RpKN K F [] []
  | cons {k : NestedKey} {b : Addr} {v : V} {vs : List NkV} {kd d : PyData} {ds : List (PyData × PyData)} : nkOf kd = some k → k.depth ≤ 8 → Rp K F (.ref b) kd → Rp K F v d → RpKN K F vs ds → RpKN K F ((k, b, v) :: vs) ((kd, d) :: ds)
end
section
variable {K : KW} {F F' : Hp}
theorem sqT_mono {a : Addr} {xs : List V} (e : Same F F') (h : SqT K F a xs) : SqT K F' a xs := by
  rcases h with (h | ⟨o, h⟩) | h
  · exact .inl (.inl (e _ _ h))
  · exact .inl (.inr ⟨o, e _ _ h⟩)
  · exact .inr h
mutual
theorem Rp.mono (e : Same F F') : ∀ {v : V} {d : PyData}, Rp K F v d → Rp K F' v d
  | _, _, .non => .non
  | _, _, .bl b => .bl b
  | _, _, .int i => .int i
  | _, _, .str x h => .str x h
  | _, _, .lst s r => .lst (e.seq s) (RpAll.mono e r)
  | _, _, .tup s r => .tup (sqT_mono e s) (RpAll.mono e r)
  | _, _, .dct s r => .dct (e _ _ s) (RpKV.mono e r)
  | _, _, .dcn s n r => .dcn (e _ _ s) n (RpKN.mono e r)
  | _, _, .ex0 c s => .ex0 c (e _ _ s)
  | _, _, .exn c s t r => .exn c (e _ _ s) (e _ _ t) (RpKV.mono e r)
theorem RpAll.mono (e : Same F F') : ∀ {v : List V} {d : List PyData}, RpAll K F v d → RpAll K F' v d
  | _, _, .nil => .nil
  | _, _, .cons a b => .cons (Rp.mono e a) (RpAll.mono e b)
theorem RpKV.mono (e : Same F F') : ∀ {v : List (Key × V)} {d : List (PyData × PyData)}, RpKV K F v d → RpKV K F' v d
  | _, _, .nil => .nil
  | _, _, .cons a b => .cons (Rp.mono e a) (RpKV.mono e b)
theorem RpKN.mono (e : Same F F') : ∀ {v : List NkV} {d : List (PyData × PyData)}, RpKN K F v d → RpKN K F' v d
  | _, _, .nil => .nil
  | _, _, .cons a b c d r => .cons a b (Rp.mono e c) (Rp.mono e d) (RpKN.mono e r)
end
end
/-! ### views: the top cell stands in the heap, what it holds is frozen -/
inductive Vw (K : KW) (F H : Hp) : V → PyData → Prop
  | dat {v : V} {d : PyData} : Rp K F v d → Vw K F H v d
  | lst {a : Addr} {xs : List V} {ds : List PyData} : SqL K.f H a xs → RpAll K F xs ds → Vw K F H (.ref a) (.list ds)
  | dct {a : Addr} {ks : List (Key × V)} {ds : List (PyData × PyData)} : H a = some (.dK ks) → RpKV K F ks ds → Vw K F H (.ref a) (.dict ds)
  | dcn {a : Addr} {ks : List NkV} {ds : List (PyData × PyData)} : H a = some (dnO K.w a ks) → ks ≠ [] → RpKN K F ks ds → Vw K F H (.ref a) (.dict ds)
/-! ### owned things -/
inductive Val where
  | d (x : PyData)
  | lst (xs : List PyData)
  | dct (kvs : List (PyData × PyData))
  | obj (C : Addr) (fs : List (Str × Val))
def Val.vw : Val → Option PyData
  | .d x => some x
  | .lst xs => some (.list xs)
  | .dct kvs => some (.dict kvs)
  | .obj _ _ => none
mutual
inductive VRep (K : KW) (F H : Hp) : Val → V → List Addr → Prop
  | d {x : PyData} {v : V} : Rp K F v x → VRep K F H (.d x) v []
  | lst {a : Addr} {vs : List V} {xs : List PyData} : H a = some (.lst vs) → RpAll K F vs xs → VRep K F H (.lst xs) (.ref a) [a]
  | dct {a : Addr} {ks : List (Key × V)} {kvs : List (PyData × PyData)} : H a = some (.dK ks) → RpKV K F ks kvs → VRep K F H (.dct kvs) (.ref a) [a]
  | dcn {a : Addr} {ks : List NkV} {kvs : List (PyData × PyData)} : H a = some (dnO K.w a ks) → ks ≠ [] → RpKN K F ks kvs → VRep K F H (.dct kvs) (.ref a) [a]
  | obj {a C dx : Addr} {fs : List (Str × Val)} {vs : List (Str × V)} {fp : List Addr} : H a = some (.ins C dx vs) → H dx = some (.own a) → FRep K F H fs vs fp → VRep K F H (.obj C fs) (.ref a) (a :: dx :: fp)
inductive FRep (K : KW) (F H : Hp) : List (Str × Val) → List (Str × V) → List Addr → Prop
  | nil : FRep K F H [] [] []
  | cons {x : Str} {v : Val} {u : V} {fs : List (Str × Val)} {us : List (Str × V)} {p q : List Addr} : VRep K F H v u p → FRep K F H fs us q → FRep K F H ((x, v) :: fs) ((x, u) :: us) (p ++ q)
end
abbrev Env := List (Option Val)
inductive EnvRep (K : KW) (F H : Hp) : Env → L2.St → List Addr → Prop
  | nil : EnvRep K F H [] [] []
  | un {δ : Env} {o : Option V} {σ : L2.St} {fp : List Addr} : EnvRep K F H δ σ fp → EnvRep K F H (none :: δ) (o :: σ) fp
  | co {δ : Env} {x : Val} {v : V} {σ : L2.St} {p fp : List Addr} : VRep K F H x v p → EnvRep K F H δ σ fp → EnvRep K F H (some x :: δ) (some v :: σ) (p ++ fp)
/-- frozen F, heap H, the env's owned cells fp -/
structure St3 (K : KW) (F H : Hp) (δ : Env) (σ : L2.St) (fp : List Addr) : Prop where
  rep : EnvRep K F H δ σ fp
  inn : Same F H
  nof : ∀ a ∈ fp, F a = none
  nd : fp.Nodup
/-- pure growth -/
structure Grow (F H F' H' : Hp) : Prop where
  same : Same H H'
  sub : Same F F'
  inn : Same F' H'
  new : ∀ a o, F' a = some o → F a = none → H a = none
/-- growth where the cells fp may change; then the owned ones are fp' -/
structure Ext (F H : Hp) (fp : List Addr) (F' H' : Hp) (fp' : List Addr) : Prop where
  keep : ∀ a o, H a = some o → a ∉ fp → H' a = some o
  sub : Same F F'
  inn : Same F' H'
  new : ∀ a o, F' a = some o → F a = none → a ∈ fp ∨ H a = none
  fpn : ∀ a ∈ fp', a ∈ fp ∨ H a = none
section
variable {K : KW} {F F' F'' H H' H'' : Hp} {fp fp' fp'' : List Addr} {δ : Env} {σ : L2.St}
theorem Rp.vw {v : V} {d : PyData} (h : Rp K F v d) : Vw K F H v d := .dat h
theorem VRep.vw {x : Val} {v : V} {q : List Addr} {d : PyData} (h : VRep K F H x v q) (e : x.vw = some d) : Vw K F H v d := by
  cases h with
  | d r => cases e; exact .dat r
  | lst a r => cases e; exact .lst (.inl (.inl a)) r
  | dct a r => cases e; exact .dct a r
  | dcn a n r => cases e; exact .dcn a n r
  | obj _ _ _ => cases e
theorem Vw.lift {v : V} {d : PyData} (h : Vw K F H v d) (e : Same F F') (e' : Same H H') : Vw K F' H' v d := by
  cases h with
  | dat r => exact .dat (r.mono e)
  | lst s r => exact .lst (e'.seq s) (r.mono e)
  | dct s r => exact .dct (e' _ _ s) (r.mono e)
  | dcn s n r => exact .dcn (e' _ _ s) n (r.mono e)
mutual
theorem VRep.live {x : Val} {v : V} {q : List Addr} : VRep K F H x v q → ∀ a ∈ q, H a ≠ none
  | .d _ => fun _ h => nomatch h
  | .lst e _ => fun b h => by rcases List.mem_singleton.mp h; rw [e]; exact fun z => nomatch z
  | .dct e _ => fun b h => by rcases List.mem_singleton.mp h; rw [e]; exact fun z => nomatch z
  | .dcn e _ _ => fun b h => by rcases List.mem_singleton.mp h; rw [e]; exact fun z => nomatch z
  | .obj e e' r => fun b h => by
    rcases List.mem_cons.mp h with rfl | h
    · rw [e]; exact fun z => nomatch z
    · rcases List.mem_cons.mp h with rfl | h
      · rw [e']; exact fun z => nomatch z
      · exact FRep.live r b h
theorem FRep.live {fs : List (Str × Val)} {vs : List (Str × V)} {q : List Addr} : FRep K F H fs vs q → ∀ a ∈ q, H a ≠ none
  | .nil => fun _ h => nomatch h
  | .cons a b => fun c h => (List.mem_append.mp h).elim (VRep.live a c) (FRep.live b c)
end
theorem EnvRep.live : ∀ {δ : Env} {σ : L2.St} {q : List Addr}, EnvRep K F H δ σ q → ∀ a ∈ q, H a ≠ none
  | _, _, _, .nil => fun _ h => nomatch h
  | _, _, _, .un a => a.live
  | _, _, _, .co a b => fun c h => (List.mem_append.mp h).elim (a.live c) (b.live c)
mutual
theorem VRep.lift (e : Same F F') {x : Val} {v : V} {q : List Addr} : VRep K F H x v q → (∀ a o, a ∈ q → H a = some o → H' a = some o) → VRep K F' H' x v q
  | .d r, _ => .d (r.mono e)
  | .lst a r, k => .lst (k _ _ (by simp) a) (r.mono e)
  | .dct a r, k => .dct (k _ _ (by simp) a) (r.mono e)
  | .dcn a n r, k => .dcn (k _ _ (by simp) a) n (r.mono e)
  | .obj a b r, k => .obj (k _ _ (by simp) a) (k _ _ (by simp) b) (FRep.lift e r fun c o h => k c o (by simp [h]))
theorem FRep.lift (e : Same F F') {fs : List (Str × Val)} {vs : List (Str × V)} {q : List Addr} : FRep K F H fs vs q → (∀ a o, a ∈ q → H a = some o → H' a = some o) → FRep K F' H' fs vs q
  | .nil, _ => .nil
  | .cons a b, k => .cons (VRep.lift e a fun c o h => k c o (by simp [h])) (FRep.lift e b fun c o h => k c o (by simp [h]))
end
theorem EnvRep.lift (e : Same F F') : ∀ {δ : Env} {σ : L2.St} {q : List Addr}, EnvRep K F H δ σ q → (∀ a o, a ∈ q → H a = some o → H' a = some o) → EnvRep K F' H' δ σ q
  | _, _, _, .nil, _ => .nil
  | _, _, _, .un a, k => .un (a.lift e k)
  | _, _, _, .co a b, k => .co (a.lift e fun c o h => k c o (by simp [h])) (b.lift e fun c o h => k c o (by simp [h]))
theorem Grow.refl (e : Same F H) : Grow F H F H := ⟨Same.refl _, Same.refl _, e, fun a o h n => by rw [n] at h; cases h⟩
theorem Grow.trans (a : Grow F H F' H') (b : Grow F' H' F'' H'') : Grow F H F'' H'' := ⟨a.same.trans b.same, a.sub.trans b.sub, b.inn, fun c o h n => by
  cases q : F' c with
  | none => exact a.same.free (b.new c o h q)
  | some o' => exact a.new c o' q n⟩
theorem Grow.ext (g : Grow F H F' H') : Ext F H fp F' H' fp := ⟨fun a o e _ => g.same a o e, g.sub, g.inn, fun a o e n => .inr (g.new a o e n), fun _ h => .inl h⟩
theorem Ext.refl (e : Same F H) : Ext F H fp F H fp := (Grow.refl e).ext
theorem Ext.trans (a : Ext F H fp F' H' fp') (b : Ext F' H' fp' F'' H'' fp'') : Ext F H fp F'' H'' fp'' where
  keep := fun c o e n => b.keep c o (a.keep c o e n) fun m => (a.fpn c m).elim n fun z => by rw [z] at e; cases e
  sub := a.sub.trans b.sub
  inn := b.inn
  new := fun c o h n => by
    cases q : F' c with
    | none =>
      rcases b.new c o h q with m | z
      · exact a.fpn c m
      · cases q2 : H c with
        | none => exact .inr rfl
        | some o2 =>
          by_cases m : c ∈ fp
          · exact .inl m
          · have := a.keep c o2 q2 m
            rw [z] at this; cases this
    | some o' => exact a.new c o' q n
  fpn := fun c m => by
    rcases b.fpn c m with m | z
    · exact a.fpn c m
    · cases q2 : H c with
      | none => exact .inr rfl
      | some o2 =>
        by_cases m : c ∈ fp
        · exact .inl m
        · have := a.keep c o2 q2 m
          rw [z] at this; cases this
theorem St3.grow (s : St3 K F H δ σ fp) (g : Grow F H F' H') : St3 K F' H' δ σ fp :=
  ⟨s.rep.lift g.sub fun a o _ e => g.same a o e, g.inn, fun a h => by
    cases q : F' a with
    | none => rfl
    | some o => exact absurd (g.new a o q (s.nof a h)) (s.rep.live a h), s.nd⟩
/-- a new frozen object -/
theorem Grow.laid {p : Addr} {o : HO} (e : Same F H) (h : H p = none) : Grow F H (upd F p o) (upd H p o) where
  same := fun b u q => by rw [upd_ne (ne_of_none q h)]; exact q
  sub := fun b u q => by rw [upd_ne (ne_of_none (e _ _ q) h)]; exact q
  inn := fun b u q => by
    by_cases z : b = p
    · subst z; rw [upd_same] at q ⊢; exact q
    · rw [upd_ne z] at q ⊢; exact e _ _ q
  new := fun b u q n => by
    by_cases z : b = p
    · subst z; exact h
    · rw [upd_ne z, n] at q; cases q
/-- a new object that is not frozen -/
theorem Grow.made {p : Addr} {o : HO} (e : Same F H) (h : H p = none) : Grow F H F (upd H p o) where
  same := fun b u q => by rw [upd_ne (ne_of_none q h)]; exact q
  sub := Same.refl _
  inn := fun b u q => by rw [upd_ne (ne_of_none (e _ _ q) h)]; exact e _ _ q
  new := fun b u q n => by rw [n] at q; cases q
end
/-! ### outcomes -/
inductive Res (α : Type) where
  | st
  | ok (a : α) (δ : Env)
  | ex (c : Addr) (x : List (Str × PyData)) (δ : Env)
def Res.bind {α β : Type} (r : Res α) (k : α → Env → Res β) : Res β := match r with
  | .st => .st
  | .ok a δ => k a δ
  | .ex c x δ => .ex c x δ
@[simp] theorem Res.bind_ok {α β : Type} (a : α) (δ : Env) (k : α → Env → Res β) : (Res.ok a δ).bind k = k a δ := rfl
@[simp] theorem Res.bind_st {α β : Type} (k : α → Env → Res β) : (Res.st : Res α).bind k = .st := rfl
@[simp] theorem Res.bind_ex {α β : Type} (c : Addr) (x : List (Str × PyData)) (δ : Env) (k : α → Env → Res β) : (Res.ex c x δ : Res α).bind k = .ex c x δ := rfl
def Res.of {α : Type} (o : Option α) (δ : Env) : Res α := match o with
  | some a => .ok a δ
  | none => .st
@[simp] theorem Res.of_some {α : Type} (a : α) (δ : Env) : Res.of (some a) δ = .ok a δ := rfl
@[simp] theorem Res.of_none {α : Type} (δ : Env) : (Res.of none δ : Res α) = .st := rfl
abbrev Mo (α : Type) := Env → Res α
def bnd {α β : Type} (m : Mo α) (k : α → Mo β) : Mo β := fun δ => (m δ).bind fun a δ' => k a δ'
/-- an error's own fields -/
def ExR (K : KW) (F H : Hp) : List (Str × PyData) → Option Addr → Prop
  | [], dd => dd = none
  | x :: xs, dd => ∃ d fs, dd = some d ∧ H d = some (.xd fs) ∧ F d = none ∧ fs.map (·.1) = (x :: xs).map (·.1) ∧ RpAll K F (fs.map (·.2)) ((x :: xs).map (·.2))
/-- what is wanted of an outcome -/
def RPost {α : Type} (X : Cx) (W : WX) (σ : L2.St) (F H : Hp) (fp : List Addr) (r : Res α) (R : α → Env → Hp → Hp → List Addr → Prop) : Prop :=
  match r with
  | .st => False
  | .ok a δ' => ∀ F' H' fp', Ext F H fp F' H' fp' → St3 X.KW F' H' δ' σ fp' → R a δ' F' H' fp'
  | .ex c x δ' => ∀ F' H' fp' dd, Ext F H fp F' H' fp' → St3 X.KW F' H' δ' σ fp' → ExR X.KW F' H' x dd → W (.ref c) dd σ H'
section
variable {α β : Type} {X : Cx} {W : WX} {σ : L2.St} {F H F1 H1 : Hp} {fp fp1 : List Addr} {δ : Env}
theorem RPost.from {r : Res α} {R : α → Env → Hp → Hp → List Addr → Prop} (h : RPost X W σ F H fp r R) (e : Ext F H fp F1 H1 fp1) : RPost X W σ F1 H1 fp1 r R := by
  cases r with
  | st => exact h
  | ok a δ' => exact fun F' H' fp' e' s => h F' H' fp' (e.trans e') s
  | ex c x δ' => exact fun F' H' fp' dd e' s z => h F' H' fp' dd (e.trans e') s z
theorem RPost.bind {r : Res α} {k : α → Env → Res β} {R : β → Env → Hp → Hp → List Addr → Prop} (h : RPost X W σ F H fp (r.bind k) R) :
    RPost X W σ F H fp r fun a δ1 F1 H1 fp1 => RPost X W σ F1 H1 fp1 (k a δ1) R := by
  cases r with
  | st => exact h
  | ok a δ' => exact fun F' H' fp' e' s => RPost.from h e'
  | ex c x δ' => exact h
theorem RPost.imp {r : Res α} {R R' : α → Env → Hp → Hp → List Addr → Prop} (h : RPost X W σ F H fp r R) (k : ∀ a δ' F' H' fp', Ext F H fp F' H' fp' → St3 X.KW F' H' δ' σ fp' → R a δ' F' H' fp' → R' a δ' F' H' fp') : RPost X W σ F H fp r R' := by
  cases r with
  | st => exact h
  | ok a δ' => exact fun F' H' fp' e' s => k _ _ _ _ _ e' s (h F' H' fp' e' s)
  | ex c x δ' => exact h
theorem RPost.of {o : Option α} {R : α → Env → Hp → Hp → List Addr → Prop} (h : RPost X W σ F H fp (Res.of o δ) R) : ∃ a, o = some a ∧ ∀ F' H' fp', Ext F H fp F' H' fp' → St3 X.KW F' H' δ σ fp' → R a δ F' H' fp' := by
  cases o with
  | none => exact False.elim h
  | some a => exact ⟨a, rfl, h⟩
end
/-! ### the judgements -/
/-- an expression that gives data -/
def DE (X : Cx) (W : WX) (e : Expr) (f : Mo PyData) : Prop := ∃ t, PE X e t ∧ ∀ σ H F δ fp Q, St3 X.KW F H δ σ fp → RPost X W σ F H fp (f δ) (fun d _ F' H' _ => ∀ v, Rp X.KW F' v d → Q v H') → t σ H Q
/-- a test -/
def DT (X : Cx) (W : WX) (e : Expr) (f : Mo Bool) : Prop := ∃ t, PT X e t ∧ ∀ σ H F δ fp Q, St3 X.KW F H δ σ fp → RPost X W σ F H fp (f δ) (fun b _ _ H' _ => Q b H') → t σ H Q
def DTW (X : Cx) (W : WX) (e : Expr) (f : Mo Bool) : Prop := ∃ t, PW X e t ∧ ∀ σ H F δ fp Q, St3 X.KW F H δ σ fp → RPost X W σ F H fp (f δ) (fun b _ _ H' _ => Q b H') → t σ H Q
/-- a place: what stands there, read; no heap is made -/
def DPl (X : Cx) (e : Expr) (g : Env → Option PyData) : Prop := ∃ t, PE X e t ∧ ∀ σ H F δ fp Q, St3 X.KW F H δ σ fp → (∃ d, g δ = some d ∧ ∀ v, Vw X.KW F H v d → Q v H) → t σ H Q
/-- arguments, data all -/
def DA (X : Cx) (W : WX) (es : List Expr) (f : Mo (List PyData)) : Prop := ∃ t, PA X es t ∧ ∀ σ H F δ fp Q, St3 X.KW F H δ σ fp → RPost X W σ F H fp (f δ) (fun ds _ F' H' _ => ∀ vs, RpAll X.KW F' vs ds → Q vs H') → t σ H Q
def VPost (X : Cx) (W : WX) (σ : L2.St) (F H : Hp) (fp : List Addr) (r : Res Val) (Q : VK) : Prop :=
  match r with
  | .st => False
  | .ok x δ' => ∀ F' H' fp' v q, Ext F H fp F' H' (fp' ++ q) → St3 X.KW F' H' δ' σ fp' → VRep X.KW F' H' x v q → (fp' ++ q).Nodup → (∀ a ∈ q, F' a = none) → Q v H'
  | .ex c x δ' => ∀ F' H' fp' dd, Ext F H fp F' H' fp' → St3 X.KW F' H' δ' σ fp' → ExR X.KW F' H' x dd → W (.ref c) dd σ H'
section
variable {α : Type} {X : Cx} {W : WX} {σ : L2.St} {F H F1 H1 : Hp} {fp fp1 : List Addr} {δ : Env}
theorem VPost.from {r : Res Val} {Q : VK} (h : VPost X W σ F H fp r Q) (e : Ext F H fp F1 H1 fp1) : VPost X W σ F1 H1 fp1 r Q := by
  cases r with
  | st => exact h
  | ok a δ' => exact fun F' H' fp' v q e' s => h F' H' fp' v q (e.trans e') s
  | ex c x δ' => exact fun F' H' fp' dd e' s z => h F' H' fp' dd (e.trans e') s z
theorem VPost.bind {r : Res α} {k : α → Env → Res Val} {Q : VK} (h : VPost X W σ F H fp (r.bind k) Q) :
    RPost X W σ F H fp r fun a δ1 F1 H1 fp1 => VPost X W σ F1 H1 fp1 (k a δ1) Q := by
  cases r with
  | st => exact h
  | ok a δ' => exact fun F' H' fp' e' s => VPost.from h e'
  | ex c x δ' => exact h
end
/-- an expression that gives a thing of the taker's own -/
def DV (X : Cx) (W : WX) (e : Expr) (f : Mo Val) : Prop := ∃ t, PE X e t ∧ ∀ σ H F δ fp Q, St3 X.KW F H δ σ fp → VPost X W σ F H fp (f δ) Q → t σ H Q
inductive Fl where
  | nx | bk | ct
  | ret (x : Val)
/-- the slots kp hold what they held -/
def Kept (kp : List Nat) (σ σ' : L2.St) : Prop := ∀ i ∈ kp, σ'[i]? = σ[i]?
theorem Kept.refl (kp : List Nat) (σ : L2.St) : Kept kp σ σ := fun _ _ => rfl
theorem Kept.trans {kp : List Nat} {σ σ1 σ2 : L2.St} (a : Kept kp σ σ1) (b : Kept kp σ1 σ2) : Kept kp σ σ2 := fun i h => (b i h).trans (a i h)
def SPost (X : Cx) (W : WX) (kp : List Nat) (D : Ends) (σ : L2.St) (F H : Hp) (fp : List Addr) (r : Res Fl) : Prop :=
  match r with
  | .st => False
  | .ok .nx δ' => ∀ F' H' fp' σ', Ext F H fp F' H' fp' → St3 X.KW F' H' δ' σ' fp' → Kept kp σ σ' → D.nx σ' H'
  | .ok .bk δ' => ∀ F' H' fp' σ', Ext F H fp F' H' fp' → St3 X.KW F' H' δ' σ' fp' → Kept kp σ σ' → D.bk σ' H'
  | .ok .ct δ' => ∀ F' H' fp' σ', Ext F H fp F' H' fp' → St3 X.KW F' H' δ' σ' fp' → Kept kp σ σ' → D.ct σ' H'
  | .ok (.ret x) δ' => ∀ F' H' fp' σ' v q, Ext F H fp F' H' (fp' ++ q) → St3 X.KW F' H' δ' σ' fp' → Kept kp σ σ' → VRep X.KW F' H' x v q → (fp' ++ q).Nodup → (∀ a ∈ q, F' a = none) → D.rt v H'
  | .ex c x δ' => ∀ F' H' fp' σ' dd, Ext F H fp F' H' fp' → St3 X.KW F' H' δ' σ' fp' → Kept kp σ σ' → ExR X.KW F' H' x dd → W (.ref c) dd σ' H'
def DS (X : Cx) (W : WX) (kp : List Nat) (st : Stmt) (f : Mo Fl) : Prop := ∃ t, PS X st t ∧ ∀ D σ H F δ fp, St3 X.KW F H δ σ fp → SPost X W kp D σ F H fp (f δ) → t D σ H
def DSs (X : Cx) (W : WX) (kp : List Nat) (st : List Stmt) (f : Mo Fl) : Prop := ∃ t, PSs X st t ∧ ∀ D σ H F δ fp, St3 X.KW F H δ σ fp → SPost X W kp D σ F H fp (f δ) → t D σ H
section
variable {α : Type} {X : Cx} {W : WX} {kp : List Nat} {D : Ends} {σ σ1 : L2.St} {F H F1 H1 : Hp} {fp fp1 : List Addr} {δ : Env}
theorem SPost.from {r : Res Fl} (h : SPost X W kp D σ F H fp r) (e : Ext F H fp F1 H1 fp1) (k : Kept kp σ σ1) : SPost X W kp D σ1 F1 H1 fp1 r := by
  cases r with
  | st => exact h
  | ok a δ' =>
    cases a with
    | nx => exact fun F' H' fp' σ' e' s k' => h F' H' fp' σ' (e.trans e') s (k.trans k')
    | bk => exact fun F' H' fp' σ' e' s k' => h F' H' fp' σ' (e.trans e') s (k.trans k')
    | ct => exact fun F' H' fp' σ' e' s k' => h F' H' fp' σ' (e.trans e') s (k.trans k')
    | ret x => exact fun F' H' fp' σ' v q e' s k' => h F' H' fp' σ' v q (e.trans e') s (k.trans k')
  | ex c x δ' => exact fun F' H' fp' σ' dd e' s k' => h F' H' fp' σ' dd (e.trans e') s (k.trans k')
theorem SPost.bind {r : Res α} {k : α → Env → Res Fl} (h : SPost X W kp D σ F H fp (r.bind k)) :
    RPost X W σ F H fp r fun a δ1 F1 H1 fp1 => SPost X W kp D σ F1 H1 fp1 (k a δ1) := by
  cases r with
  | st => exact h
  | ok a δ' => exact fun F' H' fp' e' s => SPost.from h e' (Kept.refl _ _)
  | ex c x δ' => exact fun F' H' fp' dd e s z => h F' H' fp' σ dd e s (Kept.refl _ _) z
theorem SPost.nx {δ' : Env} (h : SPost X W kp D σ F H fp (.ok .nx δ')) {F' H' : Hp} {fp' : List Addr} {σ' : L2.St} (e : Ext F H fp F' H' fp') (s : St3 X.KW F' H' δ' σ' fp') (k : Kept kp σ σ') : D.nx σ' H' := h F' H' fp' σ' e s k
end
end DL
namespace DL
open PySem PySem.Spec PyProof.Rows L2
/-! ### operations by data -/
abbrev Op2 := PyData → PyData → Option PyData
def rV (K : KW) (op : Op2) : R2 := fun x y H Q => ∃ F dx dy z, Same F H ∧ Vw K F H x dx ∧ Vw K F H y dy ∧ op dx dy = some z ∧ ∀ F' H' v, Grow F H F' H' → Rp K F' v z → Q v H'
inductive VwAll (K : KW) (F H : Hp) : List V → List PyData → Prop
  | nil : VwAll K F H [] []
  | cons {v : V} {vs : List V} {d : PyData} {ds : List PyData} : Vw K F H v d → VwAll K F H vs ds → VwAll K F H (v :: vs) (d :: ds)
def rC (K : KW) (op : List PyData → Option PyData) : List V → Hp → VK → Prop := fun xs H Q => ∃ F ds z, Same F H ∧ VwAll K F H xs ds ∧ op ds = some z ∧ ∀ F' H' v, Grow F H F' H' → Rp K F' v z → Q v H'
theorem RpAll.vw {K : KW} {F H : Hp} : ∀ {vs : List V} {ds : List PyData}, RpAll K F vs ds → VwAll K F H vs ds
  | _, _, .nil => .nil
  | _, _, .cons a b => .cons (.dat a) b.vw
theorem RpAll.length {K : KW} {F : Hp} : ∀ {vs : List V} {ds : List PyData}, RpAll K F vs ds → vs.length = ds.length
  | _, _, .nil => rfl
  | _, _, .cons a b => congrArg (· + 1) b.length
theorem RpAll.get {K : KW} {F : Hp} : ∀ {vs : List V} {ds : List PyData} {i : Nat} {v : V} {d : PyData}, RpAll K F vs ds → vs[i]? = some v → ds[i]? = some d → Rp K F v d
  | _, _, _, _, _, .nil, h, _ => by simp at h
  | _, _, 0, _, _, .cons a b, h, h' => by simp at h h'; subst h; subst h'; exact a
  | _, _, i + 1, _, _, .cons a b, h, h' => b.get (i := i) (by simpa using h) (by simpa using h')
theorem RpAll.append {K : KW} {F : Hp} : ∀ {vs ws : List V} {ds es : List PyData}, RpAll K F vs ds → RpAll K F ws es → RpAll K F (vs ++ ws) (ds ++ es)
  | _, _, _, _, .nil, h => h
  | _, _, _, _, .cons a b, h => .cons a (b.append h)
theorem RpAll.drop {K : KW} {F : Hp} : ∀ {vs : List V} {ds : List PyData} (n : Nat), RpAll K F vs ds → RpAll K F (vs.drop n) (ds.drop n)
  | _, _, 0, h => h
  | _, _, n + 1, .nil => .nil
  | _, _, n + 1, .cons a b => b.drop n
theorem RpAll.take {K : KW} {F : Hp} : ∀ {vs : List V} {ds : List PyData} (n : Nat), RpAll K F vs ds → RpAll K F (vs.take n) (ds.take n)
  | _, _, 0, h => .nil
  | _, _, n + 1, .nil => .nil
  | _, _, n + 1, .cons a b => .cons a (b.take n)
theorem RpAll.set {K : KW} {F : Hp} {v : V} {d : PyData} (r : Rp K F v d) : ∀ {vs : List V} {ds : List PyData} (n : Nat), RpAll K F vs ds → RpAll K F (vs.set n v) (ds.set n d)
  | _, _, _, .nil => .nil
  | _, _, 0, .cons a b => .cons r b
  | _, _, n + 1, .cons a b => .cons a (b.set r n)
section
variable {X : Cx} {W : WX} {pos : Pos}
/-! ### names, constants -/
def mVar (i : Nat) : Mo PyData := fun δ => match δ[i]? with
  | some (some (.d x)) => .ok x δ
  | _ => .st
theorem EnvRep.at {K : KW} {F H : Hp} : ∀ {δ : Env} {σ : L2.St} {fp : List Addr} {i : Nat} {x : Val}, EnvRep K F H δ σ fp → δ[i]? = some (some x) → ∃ v q, σ[i]? = some (some v) ∧ VRep K F H x v q
  | _, _, _, _, _, .nil, h => by simp at h
  | _, _, _, 0, _, .un _, h => by simp at h
  | _, _, _, 0, _, .co a b, h => by simp at h; subst h; exact ⟨_, _, rfl, a⟩
  | _, _, _, i + 1, _, .un a, h => by
    obtain ⟨v, q, e, r⟩ := a.at (i := i) (by simpa using h)
    exact ⟨v, q, by simpa using e, r⟩
  | _, _, _, i + 1, _, .co a b, h => by
    obtain ⟨v, q, e, r⟩ := b.at (i := i) (by simpa using h)
    exact ⟨v, q, by simpa using e, r⟩
theorem de_var {e : Expr} (i : Nat) (h : PE X e (tVar i)) : DE X W e (mVar i) := by
  refine ⟨_, h, fun σ H F δ fp Q s h => ?_⟩
  unfold mVar at h
  split at h
  · rename_i x hx
    obtain ⟨v, q, e, r⟩ := s.rep.at hx
    cases r with
    | d r => exact ⟨v, e, h F H fp (Ext.refl s.inn) s v r⟩
  · exact h.elim
def gVar (i : Nat) : Env → Option PyData := fun δ => match δ[i]? with
  | some (some x) => x.vw
  | _ => none
theorem dpl_var {e : Expr} (i : Nat) (h : PE X e (tVar i)) : DPl X e (gVar i) := by
  refine ⟨_, h, fun σ H F δ fp Q s h => ?_⟩
  obtain ⟨d, h1, h2⟩ := h
  unfold gVar at h1
  split at h1
  · rename_i x hx
    obtain ⟨v, q, e, r⟩ := s.rep.at hx
    exact ⟨v, e, h2 v (r.vw h1)⟩
  · cases h1
def mC (d : PyData) : Mo PyData := fun δ => .ok d δ
theorem de_c {e : Expr} {v : V} {d : PyData} (h : PE X e (tC v)) (r : ∀ F, Rp X.KW F v d) : DE X W e (mC d) :=
  ⟨_, h, fun σ H F δ fp Q s h => h F H fp (Ext.refl s.inn) s v (r F)⟩
theorem de_int {i j} : DE X W (.Constant (.int i) j pos) (mC (.int i)) := de_c pe_int fun _ => .int i
theorem de_bl {b j} : DE X W (.Constant (.bool b) j pos) (mC (.bool b)) := de_c pe_bl fun _ => .bl b
theorem de_non {j} : DE X W (.Constant .none j pos) (mC .none) := de_c pe_non fun _ => .non
theorem de_str {x j} (h : x.length ≤ sizeLine := by rw [sizeLine_eq]; decide +kernel) : DE X W (.Constant (.str x) j pos) (mC (.str x)) := de_c pe_str fun _ => .str x h
/-- a place's data, frozen already (read into data): what stands at a slot is data -/
theorem dpl_c {e : Expr} {v : V} {d : PyData} (h : PE X e (tC v)) (r : ∀ F, Rp X.KW F v d) : DPl X e (fun _ => some d) :=
  ⟨_, h, fun σ H F δ fp Q s h => by
    obtain ⟨d', e, h⟩ := h
    cases e
    exact h v (.dat (r F))⟩
/-! ### two-place operations -/
def op2 (o : Op2) (fa fb : Mo PyData) : Mo PyData := bnd fa fun x => bnd fb fun y δ => Res.of (o x y) δ
def op2P (o : Op2) (g : Env → Option PyData) (fb : Mo PyData) : Mo PyData := fun δ => (fb δ).bind fun y δ' => Res.of ((g δ').bind fun x => o x y) δ'
def op2Q (o : Op2) (fa : Mo PyData) (g : Env → Option PyData) : Mo PyData := fun δ => (fa δ).bind fun x δ' => Res.of ((g δ').bind fun y => o x y) δ'
def op2PP (o : Op2) (g g' : Env → Option PyData) : Mo PyData := fun δ => Res.of ((g δ).bind fun x => (g' δ).bind fun y => o x y) δ
theorem t_op {a b : Expr} {o : Op2} {fa fb : Mo PyData} {ta tb : TE}
    (qa : ∀ σ H F δ fp Q, St3 X.KW F H δ σ fp → RPost X W σ F H fp (fa δ) (fun d _ F' H' _ => ∀ v, Rp X.KW F' v d → Q v H') → ta σ H Q)
    (qb : ∀ σ H F δ fp Q, St3 X.KW F H δ σ fp → RPost X W σ F H fp (fb δ) (fun d _ F' H' _ => ∀ v, Rp X.KW F' v d → Q v H') → tb σ H Q)
    {σ : L2.St} {H F : Hp} {δ : Env} {fp : List Addr} {Q : VK} (s : St3 X.KW F H δ σ fp) (h : RPost X W σ F H fp (op2 o fa fb δ) (fun d _ F' H' _ => ∀ v, Rp X.KW F' v d → Q v H')) : tOp (rV X.KW o) ta tb σ H Q := by
  refine qa σ H F δ fp _ s ((RPost.bind h).imp fun x δ1 F1 H1 fp1 e1 s1 h1 v rv => ?_)
  refine qb σ H1 F1 δ1 fp1 _ s1 ((RPost.bind h1).imp fun y δ2 F2 H2 fp2 e2 s2 h2 w rw => ?_)
  obtain ⟨z, ez, h3⟩ := RPost.of h2
  exact ⟨F2, x, y, z, s2.inn, (rv.mono e2.sub).vw, rw.vw, ez, fun F' H' v' g r => h3 F' H' fp2 g.ext (s2.grow g) v' r⟩
/-- the left one a name whose cell is read when the right one is there -/
theorem t_opP {b : Expr} {o : Op2} {fb : Mo PyData} {tb : TE} {i : Nat}
    (qb : ∀ σ H F δ fp Q, St3 X.KW F H δ σ fp → RPost X W σ F H fp (fb δ) (fun d _ F' H' _ => ∀ v, Rp X.KW F' v d → Q v H') → tb σ H Q)
    {σ : L2.St} {H F : Hp} {δ : Env} {fp : List Addr} {Q : VK} (hl : ∃ v, σ[i]? = some (some v)) (s : St3 X.KW F H δ σ fp) (h : RPost X W σ F H fp (op2P o (gVar i) fb δ) (fun d _ F' H' _ => ∀ v, Rp X.KW F' v d → Q v H')) : tOp (rV X.KW o) (tVar i) tb σ H Q := by
  obtain ⟨v, ev⟩ := hl
  refine ⟨v, ev, ?_⟩
  refine qb σ H F δ fp _ s ((RPost.bind h).imp fun y δ2 F2 H2 fp2 e2 s2 h2 w rw => ?_)
  obtain ⟨z, ez, h3⟩ := RPost.of h2
  obtain ⟨x, ex, eo⟩ := Option.bind_eq_some_iff.mp ez
  unfold gVar at ex
  split at ex
  · rename_i x' hx
    obtain ⟨v', q, e, r⟩ := s2.rep.at hx
    rw [ev] at e
    cases e
    exact ⟨F2, x, y, z, s2.inn, r.vw ex, rw.vw, eo, fun F' H' v' g r => h3 F' H' fp2 g.ext (s2.grow g) v' r⟩
  · cases ex
theorem de_op {op : Operator} {o : Op2} {a b : Expr} {fa fb : Mo PyData} (ho : OpR X (binaryOp op) (rV X.KW o)) (ha : DE X W a fa) (hb : DE X W b fb) : DE X W (.BinOp a op b pos) (op2 o fa fb) := by
  obtain ⟨ta, pa, qa⟩ := ha
  obtain ⟨tb, pb, qb⟩ := hb
  exact ⟨_, pe_op ho pa pb, fun σ H F δ fp Q s h => t_op (a := a) (b := b) qa qb s h⟩
theorem de_cmp {op : CmpOp} {o : Op2} {a b : Expr} {fa fb : Mo PyData} (ho : OpR X (compareOp op) (rV X.KW o)) (ha : DE X W a fa) (hb : DE X W b fb) (hm : behindInMarks op b = false := by first | exact nomark _ | rfl) : DE X W (.Compare a [op] [b] pos) (op2 o fa fb) := by
  obtain ⟨ta, pa, qa⟩ := ha
  obtain ⟨tb, pb, qb⟩ := hb
  exact ⟨_, pe_cmpR ho pa pb hm, fun σ H F δ fp Q s h => t_op (a := a) (b := b) qa qb s h⟩
theorem de_ix {o : Op2} {a b : Expr} {fa fb : Mo PyData} (ho : IxR X (rV X.KW o)) (ha : DE X W a fa) (hb : DE X W b fb) (hs : PlainIx b := by exact fun _ _ => rfl) : DE X W (.Subscript a b pos) (op2 o fa fb) := by
  obtain ⟨ta, pa, qa⟩ := ha
  obtain ⟨tb, pb, qb⟩ := hb
  exact ⟨_, pe_ix ho pa pb hs, fun σ H F δ fp Q s h => t_op (a := a) (b := b) qa qb s h⟩
end
end DL
namespace DL
open PySem PySem.Spec PyProof.Rows L2
section
variable {X : Cx} {pins : List (Addr × Obj)} {σ : L2.St} {H F : Hp} {s : Shared}
theorem key_read {h : Heap} {k : Key} {v : Value} (e : keyIs k v = true) : Reads h v (keyD k) [] := by
  rcases keyIs_shape e with ⟨i, t, rfl, rfl⟩ | ⟨x, t, rfl, rfl⟩
  · exact .int i t
  · exact .str x t
theorem keys_reads {P : Program} {w : World} {h : Heap} : ∀ {es : List DictEntry} {kvs : List (Key × Value)}, Pairs (mixKind P w) es kvs → ReadsAll h (es.map (·.key)) (kvs.map fun p => keyD p.1) [] ∧ es.map (·.val) = kvs.map (·.2)
  | _, _, .nil => ⟨.nil, rfl⟩
  | _, _, .cons a b r => ⟨.cons (key_read a) (keys_reads r).1, by
    have z := (keys_reads (h := h) r).2
    simp only [List.map_cons, z, b]⟩
theorem kv_fst {ks : List (Key × V)} {vs : List (Key × Value)} (r : KV ks vs) : (vs.map fun p => keyD p.1) = ks.map fun p => keyD p.1 := by
  induction r with
  | nil => rfl
  | cons a _ ih => simp only [List.map_cons, ih, a.1]
theorem kv_snd {ks : List (Key × V)} {vs : List (Key × Value)} (r : KV ks vs) : Vals (ks.map (·.2)) (vs.map (·.2)) := by
  induction r with
  | nil => exact .nil
  | cons a _ ih => exact .cons a.2 ih
theorem RpKV.fst {K : KW} {F : Hp} : ∀ {ks : List (Key × V)} {ds : List (PyData × PyData)}, RpKV K F ks ds → (ks.map fun p => keyD p.1) = ds.map (·.1)
  | _, _, .nil => rfl
  | _, _, .cons a b => congrArg (_ :: ·) b.fst
theorem dict_reads {P : Program} {w : World} {h : Heap} {a : Addr} {ks : List (Key × V)} {ds : List (PyData × PyData)} (o : ObjOk P w H h a (.dK ks)) (e : (ks.map fun p => keyD p.1) = ds.map (·.1))
    (r : ∀ us, Vals (ks.map (·.2)) us → ∃ bs, ReadsAll h us (ds.map (·.2)) bs) : ∃ bs, Reads h (.ref a) (.dict ds) (a :: [] ++ bs) ∧ (a == sysModules) = false := by
  obtain ⟨z, y, vs, kv, ob, es, ep, ho, ex, hd, hk, hp, _⟩ := o
  obtain ⟨h1, h2⟩ := keys_reads (h := h) hp
  obtain ⟨bs, h3⟩ := r _ (kv_snd kv)
  exact ⟨bs, .dict ho ex.1 hd (by rw [← e, ← kv_fst kv]; exact h1) (by rw [h2]; exact h3), y⟩
theorem RpKN.fst {K : KW} {F : Hp} : ∀ {ks : List NkV} {ds : List (PyData × PyData)}, RpKN K F ks ds → ks.length = ds.length
  | _, _, .nil => rfl
  | _, _, .cons _ _ _ _ r => congrArg (· + 1) r.fst
theorem dn_vals {ks : List NkV} {ys : List (NestedKey × Addr × Value)} (r : Paired (fun (p : NkV) (q : NestedKey × Addr × Value) => p.1 = q.1 ∧ p.2.1 = q.2.1 ∧ RelV p.2.2 q.2.2) ks ys) :
    Vals (ks.map fun p => V.ref p.2.1) (ys.map fun p => Value.ref p.2.1) ∧ Vals (ks.map fun p => p.2.2) (ys.map fun p => p.2.2) := by
  induction r with
  | nil => exact ⟨.nil, .nil⟩
  | cons a _ ih => exact ⟨.cons (show RelV (V.ref _) (Value.ref _) from by rw [a.2.1]; rfl) ih.1, .cons a.2.2 ih.2⟩
/-- a dict of keys of any depth, read -/
theorem dn_reads {P : Program} {w w' : World} {h : Heap} {H : Hp} {a : Addr} {ks : List NkV} {kd vd : List PyData} {ds : List (PyData × PyData)} (o : ObjOk P w H h a (dnO w' a ks)) (e1 : ds.map (·.1) = kd) (e2 : ds.map (·.2) = vd) {Z : List Addr → Prop}
    (r1 : ∀ us, Vals (ks.map fun p => V.ref p.2.1) us → ∃ bs, ReadsAll h us kd bs ∧ Z bs) (r : ∀ us, Vals (ks.map fun p => p.2.2) us → ∃ bs, ReadsAll h us vd bs ∧ Z bs) : ∃ as bs, Reads h (.ref a) (.dict ds) (a :: as ++ bs) ∧ Z as ∧ Z bs ∧ (a == sysModules) = false := by
  obtain ⟨⟨z, y, ys, kv, ob, es, ep, ho, ex, hd, he, hn⟩, _, _⟩ := o
  obtain ⟨q1, q2⟩ := dn_vals kv
  obtain ⟨as, h1, z1⟩ := r1 _ q1
  obtain ⟨bs, h2, z2⟩ := r _ q2
  refine ⟨as, bs, .dict ho ex.1 hd ?_ ?_, z1, z2, y⟩
  · rw [e1, he, List.map_map]; exact h1
  · rw [e2, he, List.map_map]; exact h2
mutual
theorem Rp.reads (I : Inv X pins σ H s) (e : Same F H) : ∀ {v : V} {d : PyData} {u : Value}, Rp X.KW F v d → RelV v u → d.plain = true → ∃ as, Reads s.heap u d as
  | _, _, _, .non, r, _ => by cases r; exact ⟨_, .none⟩
  | _, _, _, .bl b, r, _ => by cases r; exact ⟨_, .bool b⟩
  | _, _, _, .int i, r, _ => by obtain ⟨t, rfl⟩ := r; exact ⟨_, .int i t⟩
  | _, _, _, .str x _, r, _ => by obtain ⟨t, rfl⟩ := r; exact ⟨_, .str x t⟩
  | _, _, _, .lst hs ha, r, hp => by
    cases r
    obtain ⟨its, rv, ⟨o, n, ho, hc, _, hd⟩, _⟩ := I.list (e.seq hs)
    obtain ⟨as, hr⟩ := RpAll.reads I e ha rv (by simpa [PyData.plain] using hp)
    exact ⟨_, Reads.list ho hc hd hr⟩
  | _, _, _, .tup hs ha, r, hp => by
    cases r
    obtain ⟨its, rv, ⟨o, ho, hc, n, hd⟩, _⟩ := I.tuple (sqT_mono e hs)
    obtain ⟨as, hr⟩ := RpAll.reads I e ha rv (by simpa [PyData.plain] using hp)
    exact ⟨_, Reads.tuple ho hc hd hr⟩
  | _, _, _, .dct _ _, _, hp => by simp [PyData.plain] at hp
  | _, _, _, .dcn _ _ _, _, hp => by simp [PyData.plain] at hp
  | _, _, _, .ex0 _ _, _, hp => by simp [PyData.plain] at hp
  | _, _, _, .exn _ _ _ _, _, hp => by simp [PyData.plain] at hp
theorem RpAll.reads (I : Inv X pins σ H s) (e : Same F H) : ∀ {v : List V} {d : List PyData} {u : List Value}, RpAll X.KW F v d → Vals v u → PyData.plainAll d = true → ∃ as, ReadsAll s.heap u d as
  | _, _, _, .nil, r, _ => by cases r; exact ⟨_, .nil⟩
  | _, _, _, .cons a b, r, hp => by
    simp only [PyData.plainAll, Bool.and_eq_true] at hp
    cases r with
    | cons r1 r2 =>
      obtain ⟨as, q1⟩ := Rp.reads I e a r1 hp.1
      obtain ⟨bs, q2⟩ := RpAll.reads I e b r2 hp.2
      exact ⟨_, .cons q1 q2⟩
end
theorem Vw.reads (I : Inv X pins σ H s) (e : Same F H) {v : V} {d : PyData} {u : Value} (h : Vw X.KW F H v d) (r : RelV v u) (hp : d.plain = true) : ∃ as, Reads s.heap u d as := by
  cases h with
  | dat h => exact h.reads I e r hp
  | lst hs ha =>
    cases r
    obtain ⟨its, rv, ⟨o, n, ho, hc, _, hd⟩, _⟩ := I.list hs
    obtain ⟨as, hr⟩ := RpAll.reads I e ha rv (by simpa [PyData.plain] using hp)
    exact ⟨_, Reads.list ho hc hd hr⟩
  | dct hs ha => simp [PyData.plain] at hp
  | dcn hs _ ha => simp [PyData.plain] at hp
end
section
variable {K : KW} {F H : Hp} {v : V}
theorem Vw.int {i : Int} (h : Vw K F H v (.int i)) : v = .int i := by cases h with | dat h => cases h; rfl
theorem Vw.str {x : Str} (h : Vw K F H v (.str x)) : v = .str x ∧ x.length ≤ sizeLine := by cases h with | dat h => cases h with | str _ e => exact ⟨rfl, e⟩
theorem Vw.bl {b : Bool} (h : Vw K F H v (.bool b)) : v = .bl b := by cases h with | dat h => cases h; rfl
theorem Vw.non (h : Vw K F H v .none) : v = .non := by cases h with | dat h => cases h; rfl
theorem Vw.list {ds : List PyData} (e : Same F H) (h : Vw K F H v (.list ds)) : ∃ a xs, v = .ref a ∧ SqL K H a xs ∧ RpAll K F xs ds := by
  cases h with
  | dat h => cases h with | lst s r => exact ⟨_, _, rfl, e.seq s, r⟩
  | lst s r => exact ⟨_, _, rfl, s, r⟩
theorem Vw.tup {ds : List PyData} (e : Same F H) (h : Vw K F H v (.tuple ds)) : ∃ a xs, v = .ref a ∧ SqT K H a xs ∧ RpAll K F xs ds := by
  cases h with
  | dat h => cases h with | tup s r => exact ⟨_, _, rfl, sqT_mono e s, r⟩
/-- this stands for an error -/
def isErr : List (PyData × PyData) → Bool
  | (.bool _, _) :: _ => true
  | _ => false
theorem Vw.dictO {ds : List (PyData × PyData)} (e : Same F H) (h : Vw K F H v (.dict ds)) (hne : isErr ds = false) : (∃ a ks, v = .ref a ∧ H a = some (.dK ks) ∧ RpKV K F ks ds) ∨ ∃ a ks, v = .ref a ∧ H a = some (dnO K.w a ks) ∧ ks ≠ [] ∧ RpKN K F ks ds := by
  cases h with
  | dat h => cases h with
    | dct s r => exact .inl ⟨_, _, rfl, e _ _ s, r⟩
    | dcn s n r => exact .inr ⟨_, _, rfl, e _ _ s, n, r⟩
    | ex0 _ _ => cases hne
    | exn _ _ _ _ => cases hne
  | dct s r => exact .inl ⟨_, _, rfl, s, r⟩
  | dcn s n r => exact .inr ⟨_, _, rfl, s, n, r⟩
/-- a key that is carried by value -/
def plainKey : PyData → Bool
  | .int _ => true
  | .str _ => true
  | _ => false
theorem RpKV.plain {ks : List (Key × V)} : ∀ {ks : List (Key × V)} {ds : List (PyData × PyData)}, RpKV K F ks ds → (ds.all fun p => plainKey p.1) = true
  | _, _, .nil => rfl
  | _, _, .cons (k := k) _ r => by rw [List.all_cons, RpKV.plain (ks := ks) r, Bool.and_true]; cases k <;> rfl
theorem Rp.ref_plain {a : Addr} {d : PyData} (h : Rp K F (.ref a) d) : plainKey d = false := by cases h <;> rfl
theorem RpKN.plain {ks : List NkV} {ds : List (PyData × PyData)} (h : RpKN K F ks ds) (n : ks ≠ []) : (ds.all fun p => plainKey p.1) = false := by
  cases h with
  | nil => exact absurd rfl n
  | cons _ _ c _ _ => rw [List.all_cons, c.ref_plain, Bool.false_and]
theorem Vw.dict {ds : List (PyData × PyData)} (e : Same F H) (h : Vw K F H v (.dict ds)) (hp : (ds.all fun p => plainKey p.1) = true) : ∃ a ks, v = .ref a ∧ H a = some (.dK ks) ∧ RpKV K F ks ds := by
  rcases h.dictO e (by match ds, hp with | [], _ => rfl | (.int _, _) :: _, _ => rfl | (.str _, _) :: _, _ => rfl) with h | ⟨a, ks, _, _, n, r⟩
  · exact h
  · rw [r.plain n] at hp; cases hp
end
/-! ### the operations -/
def iOp (c : Int → Int → Bool) (g : Int → Int → Int) : Op2 := fun x y => match x, y with
  | .int i, .int j => if c i j then some (.int (g i j)) else none
  | _, _ => none
def oAdd : Op2 := fun x y => match x, y with
  | .int i, .int j => some (.int (i + j))
  | .str a, .str b => if a.length + b.length ≤ sizeLine then some (.str (a ++ b)) else none
  | .list a, .list b => if a.length + b.length ≤ sizeLine then some (.list (a ++ b)) else none
  | .tuple a, .tuple b => if a.length + b.length ≤ sizeLine then some (.tuple (a ++ b)) else none
  | _, _ => none
def mulFit (i j : Int) : Bool := decide ((i.natAbs < 2 ^ 64 ∨ j.natAbs < 2 ^ 64))
def oSub : Op2 := iOp (fun _ _ => true) (· - ·)
def oMul : Op2 := iOp mulFit (· * ·)
def oMod : Op2 := iOp (fun _ j => decide (j ≠ 0)) Int.fmod
def oFdv : Op2 := iOp (fun _ j => decide (j ≠ 0 ∧ j.natAbs < 1073741824)) Int.fdiv
def oPow : Op2 := iOp (fun i j => decide (0 ≤ j ∧ j ≤ 1000000 ∧ i.natAbs < 2 ^ 64)) fun i j => i ^ j.toNat
/-- lists of unlike lengths: == looks no further -/
def lenDiff : PyData → PyData → Bool
  | .list xs, .list ys => decide (xs.length ≠ ys.length)
  | _, _ => false
def eqOk (x y : PyData) : Bool := (x.plain && y.plain && decide (min x.depth y.depth ≤ 60)) || lenDiff x y
theorem eqvAll_len : ∀ {xs ys : List PyData}, xs.length ≠ ys.length → PyData.eqvAll xs ys = false
  | [], [], h => absurd rfl h
  | [], _ :: _, _ => rfl
  | _ :: _, [], _ => rfl
  | x :: xs, y :: ys, h => by
    rw [PyData.eqvAll, eqvAll_len (xs := xs) (ys := ys) fun e => h (by simp [e]), Bool.and_false]
def oEq : Op2 := fun x y => if eqOk x y then some (.bool (PyData.eqv x y)) else none
def oNe : Op2 := fun x y => if eqOk x y then some (.bool (!PyData.eqv x y)) else none
def cmpI (p : Int → Int → Bool) (q : Str → Str → Bool) : Op2 := fun x y => match x, y with
  | .int i, .int j => some (.bool (p i j))
  | .str a, .str b => some (.bool (q a b))
  | _, _ => none
def oLt : Op2 := cmpI (fun i j => decide (i < j)) fun a b => decide (a.cps.toList < b.cps.toList)
def oGt : Op2 := cmpI (fun i j => decide (j < i)) fun a b => decide (b.cps.toList < a.cps.toList)
def oLe : Op2 := cmpI (fun i j => decide (i ≤ j)) fun a b => !decide (b.cps.toList < a.cps.toList)
def oGe : Op2 := cmpI (fun i j => decide (j ≤ i)) fun a b => !decide (a.cps.toList < b.cps.toList)
def inOk (x : PyData) (ys : List PyData) : Bool := x.plain && PyData.plainAll ys && decide (min (PyData.depthAll ys) x.depth ≤ 60)
def dHas (kvs : List (PyData × PyData)) (k : PyData) : Bool := kvs.any fun p => PyData.eqv p.1 k
/-- a tuple as a key, asked of a dict whose keys are tuples -/
def tupOk (a : List PyData) (kvs : List (PyData × PyData)) : Bool := match nkOf (.tuple a) with
  | some k => (decide (k.depth ≤ 8) && (kvs.isEmpty || !(kvs.all fun p => plainKey p.1))) && !isErr kvs
  | none => false
def isIn (x y : PyData) : Option Bool := match x, y with
  | .str a, .str b => match a.cps.toList with
    | [c] => some (decide (c ∈ b.cps.toList))
    | _ => none
  | x, .list ys => if inOk x ys then some (ys.any fun y => PyData.eqv y x) else none
  | x, .tuple ys => if inOk x ys then some (ys.any fun y => PyData.eqv y x) else none
  | .str a, .dict kvs => if (kvs.all fun p => plainKey p.1) = true then some (dHas kvs (.str a)) else none
  | .int a, .dict kvs => if (kvs.all fun p => plainKey p.1) = true then some (dHas kvs (.int a)) else none
  | .tuple a, .dict kvs => if tupOk a kvs = true then some (dHas kvs (.tuple a)) else none
  | _, _ => none
def oIn : Op2 := fun x y => (isIn x y).map .bool
def oNotIn : Op2 := fun x y => (isIn x y).map fun b => .bool !b
def oIs : Op2 := fun x y => match x, y with
  | .none, .none => some (.bool true)
  | _, .none => some (.bool false)
  | .bool a, .bool b => some (.bool (a == b))
  | _, _ => none
def oIsNot : Op2 := fun x y => (oIs x y).bind fun z => match z with
  | .bool b => some (.bool !b)
  | _ => none
def oIx : Op2 := fun x y => match x, y with
  | .list xs, .int i => atI xs i
  | .tuple xs, .int i => atI xs i
  | .str z, .int i => (atI z.cps.toList i).map fun c => .str ⟨#[c]⟩
  | _, _ => none
section
variable {X : Cx}
theorem rV_fin {I0 : Prop} {op : Op2} {pins : List (Addr × Obj)} {σ : L2.St} {H F : Hp} {s : Shared} {Q : VK} {z : PyData} {v : V} {u : Value} (I : Inv X pins σ H s) (e : Same F H) (q : ∀ F' H' v, Grow F H F' H' → Rp X.KW F' v z → Q v H') (r : Rp X.KW F v z) (rv : RelV v u) : EP X pins σ Q u s :=
  ⟨v, H, I, rv, q F H v (Grow.refl e) r⟩
theorem iOp_ok {f : Value → Value → Sem Value} {c : Int → Int → Bool} {g : Int → Int → Int} (h : OpR X f (rI (fun i j => c i j = true) fun i j => .int (g i j))) : OpR X f (rV X.KW (iOp c g)) := by
  intro pins s σ H x y v u Q I rx ry ⟨F, dx, dy, z, e, vx, vy, ho, q⟩
  unfold iOp at ho
  split at ho
  · rename_i i j
    split at ho
    · rename_i hc
      cases ho
      obtain rfl := vx.int
      obtain rfl := vy.int
      exact h pins s σ H _ _ v u Q I rx ry ⟨i, j, rfl, rfl, hc, q F H _ (Grow.refl e) (.int _)⟩
    · cases ho
  · cases ho
theorem rI_imp {f : Value → Value → Sem Value} {C C' : Int → Int → Prop} {g : Int → Int → V} (h : OpR X f (rI C g)) (k : ∀ i j, C' i j → C i j) : OpR X f (rI C' g) := by
  intro pins s σ H x y v u Q I rx ry ⟨i, j, ex, ey, hc, q⟩
  exact h pins s σ H x y v u Q I rx ry ⟨i, j, ex, ey, k i j hc, q⟩
theorem rI_of0 {f : Value → Value → Sem Value} {C' : Int → Int → Prop} {g : Int → Int → V} (h : OpR X f (rI0 g)) : OpR X f (rI C' g) := by
  intro pins s σ H x y v u Q I rx ry ⟨i, j, ex, ey, hc, q⟩
  exact h pins s σ H x y v u Q I rx ry ⟨i, j, ex, ey, q⟩
theorem ok_sub : OpR X (binaryOp .Sub) (rV X.KW oSub) := iOp_ok (rI_of0 op_sub)
theorem ok_mul : OpR X (binaryOp .Mult) (rV X.KW oMul) := iOp_ok (rI_imp op_mul fun i j h => by
  have := of_decide_eq_true h
  rcases this with h | h
  · exact .inl (by omega)
  · exact .inr (by omega))
theorem ok_mod : OpR X (binaryOp .Mod) (rV X.KW oMod) := iOp_ok (rI_imp op_modN fun i j h => of_decide_eq_true h)
theorem ok_fdv : OpR X (binaryOp .FloorDiv) (rV X.KW oFdv) := iOp_ok (rI_imp op_fdivN fun i j h => show j ≠ 0 ∧ j.natAbs < 1073741824 from of_decide_eq_true h)
theorem ok_pow : OpR X (binaryOp .Pow) (rV X.KW oPow) := iOp_ok (rI_imp op_pow fun i j h => show 0 ≤ j ∧ j ≤ 1000000 ∧ i.natAbs < 2 ^ 64 from of_decide_eq_true h)
theorem cat_list {pins : List (Addr × Obj)} {σ : L2.St} {H : Hp} {s : Shared} {Q : VK} {a b : Addr} {xs ys : List V} (I : Inv X pins σ H s) (ha : SqL X.KW H a xs) (hb : SqL X.KW H b ys) (hz : xs.length + ys.length ≤ sizeLine)
    (q : ∀ p, H p = none → Q (.ref p) (upd H p (.lst (xs ++ ys)))) : wpAny (model X.prog X.w) X.A (binaryOp .Add (.ref a) (.ref b)) (EP X pins σ Q) X.xe s := by
  obtain ⟨its, r, ⟨⟨c1, d1, dt1, sl1⟩, n, ho, hc, hdd, hd⟩, _⟩ := I.list ha
  obtain ⟨its2, r2, ⟨⟨c2, d2, dt2, sl2⟩, n2, ho2, hc2, hdd2, hd2⟩, _⟩ := I.list hb
  simp only at hc hd hc2 hd2 hdd hdd2
  subst hc hd hc2 hd2
  have l1 := r.length
  have l2 := r2.length
  refine concat_meets ⟨_, ho, rfl⟩ ⟨_, ho2, rfl⟩ noFill_list_add seq_list_add F.slot_list_add F.entry_list_add (F.args_list_add_2 _ _) (list_addW a b its.toArray its2.toArray n n2 d1 d2 sl1 sl2 (by simp only [List.size_toArray]; omega)) ⟨ho, ho2, ?_⟩
  have ea : its.toArray ++ its2.toArray = (its ++ its2).toArray := by simp
  rw [ea]
  exact ⟨.ref _, _, I.lnew (t' := s.toks) (r.append r2) (by rw [List.length_append]; omega), rfl, q _ I.fresh⟩
theorem ok_add : OpR X (binaryOp .Add) (rV X.KW oAdd) := by
  intro pins s σ H x y v u Q I rx ry ⟨F, dx, dy, z, e, vx, vy, ho, q⟩
  unfold oAdd at ho
  split at ho
  · cases ho
    obtain rfl := vx.int
    obtain rfl := vy.int
    exact op_add pins s σ H _ _ v u Q I rx ry ⟨_, _, rfl, rfl, q F H _ (Grow.refl e) (.int _)⟩
  · split at ho
    · rename_i hz
      cases ho
      obtain ⟨rfl, _⟩ := vx.str
      obtain ⟨rfl, _⟩ := vy.str
      exact op_add_str pins s σ H _ _ v u Q I rx ry ⟨_, _, rfl, rfl, hz, q F H _ (Grow.refl e) (.str _ (by rw [Str.length_append]; exact hz))⟩
    · cases ho
  · split at ho
    · rename_i hz
      cases ho
      obtain ⟨a, xs, rfl, ha, ra⟩ := vx.list e
      obtain ⟨b, ys, rfl, hb, rb⟩ := vy.list e
      cases rx
      cases ry
      exact cat_list I ha hb (by rw [ra.length, rb.length]; exact hz) fun p hp => q (upd F p (.lst (xs ++ ys))) _ _ (Grow.laid e hp) (.lst (.of upd_same) ((ra.append rb).mono (Grow.laid e hp).sub))
    · cases ho
  · split at ho
    · rename_i hz
      cases ho
      obtain ⟨a, xs, rfl, ha, ra⟩ := vx.tup e
      obtain ⟨b, ys, rfl, hb, rb⟩ := vy.tup e
      refine op_catA pins s σ H _ _ v u Q I rx ry ⟨a, b, xs, ys, rfl, rfl, ha, hb, by rw [ra.length, rb.length]; exact hz, fun en => ?_, fun _ en => ?_, fun _ _ p hp => q (upd F p (.tup (xs ++ ys))) _ _ (Grow.laid e hp) (.tup (.of upd_same) ((ra.append rb).mono (Grow.laid e hp).sub))⟩
      · subst en
        cases ra
        obtain ⟨F', g, r⟩ : ∃ F', Grow F H F' H ∧ Rp X.KW F' (.ref b) (.tuple _) := by
          cases vy with
          | dat r => exact ⟨F, Grow.refl e, r⟩
        exact q F' H _ g r
      · subst en
        cases rb
        cases vx with
        | dat r => exact q F H _ (Grow.refl e) (by rw [List.append_nil]; exact r)
    · cases ho
  · cases ho
end
end DL
namespace DL
open PySem PySem.Spec PyProof.Rows L2
/-! ### keys of any depth -/
mutual
theorem nk_eqv : ∀ (a b : PyData) (k l : NestedKey), nkOf a = some k → nkOf b = some l → PyData.eqv a b = NestedKey.beq k l
  | .none, .none, _, _, h, h' => by cases h; cases h'; rfl
  | .none, .int _, _, _, h, h' => by cases h; cases h'; rfl
  | .none, .str _, _, _, h, h' => by cases h; cases h'; rfl
  | .none, .tuple ys, _, _, h, h' => by
    obtain ⟨l, _, rfl⟩ := Option.map_eq_some_iff.mp (show (nkAll ys).map NestedKey.tup = some _ from h')
    cases h; simp [PyData.eqv, NestedKey.beq]
  | .int _, .none, _, _, h, h' => by cases h; cases h'; rfl
  | .int i, .int j, _, _, h, h' => by cases h; cases h'; simp only [PyData.eqv, NestedKey.beq]; by_cases e : i = j <;> simp [e]
  | .int _, .str _, _, _, h, h' => by cases h; cases h'; rfl
  | .int _, .tuple ys, _, _, h, h' => by
    obtain ⟨l, _, rfl⟩ := Option.map_eq_some_iff.mp (show (nkAll ys).map NestedKey.tup = some _ from h')
    cases h; simp [PyData.eqv, NestedKey.beq]
  | .str _, .none, _, _, h, h' => by cases h; cases h'; rfl
  | .str _, .int _, _, _, h, h' => by cases h; cases h'; rfl
  | .str x, .str y, _, _, h, h' => by cases h; cases h'; simp only [PyData.eqv, NestedKey.beq]; by_cases e : x = y <;> simp [e]
  | .str _, .tuple ys, _, _, h, h' => by
    obtain ⟨l, _, rfl⟩ := Option.map_eq_some_iff.mp (show (nkAll ys).map NestedKey.tup = some _ from h')
    cases h; simp [PyData.eqv, NestedKey.beq]
  | .tuple xs, .none, _, _, h, h' => by
    obtain ⟨l, _, rfl⟩ := Option.map_eq_some_iff.mp (show (nkAll xs).map NestedKey.tup = some _ from h)
    cases h'; simp [PyData.eqv, NestedKey.beq]
  | .tuple xs, .int _, _, _, h, h' => by
    obtain ⟨l, _, rfl⟩ := Option.map_eq_some_iff.mp (show (nkAll xs).map NestedKey.tup = some _ from h)
    cases h'; simp [PyData.eqv, NestedKey.beq]
  | .tuple xs, .str _, _, _, h, h' => by
    obtain ⟨l, _, rfl⟩ := Option.map_eq_some_iff.mp (show (nkAll xs).map NestedKey.tup = some _ from h)
    cases h'; simp [PyData.eqv, NestedKey.beq]
  | .tuple xs, .tuple ys, _, _, h, h' => by
    obtain ⟨k, e1, rfl⟩ := Option.map_eq_some_iff.mp (show (nkAll xs).map NestedKey.tup = some _ from h)
    obtain ⟨l, e2, rfl⟩ := Option.map_eq_some_iff.mp (show (nkAll ys).map NestedKey.tup = some _ from h')
    simp only [PyData.eqv, NestedKey.beq]
    exact nk_eqvAll xs ys k l e1 e2
  | .bool _, _, _, _, h, _ => by cases h
  | .list _, _, _, _, h, _ => by cases h
  | .dict _, _, _, _, h, _ => by cases h
  | .none, .bool _, _, _, _, h => by cases h
  | .none, .list _, _, _, _, h => by cases h
  | .none, .dict _, _, _, _, h => by cases h
  | .int _, .bool _, _, _, _, h => by cases h
  | .int _, .list _, _, _, _, h => by cases h
  | .int _, .dict _, _, _, _, h => by cases h
  | .str _, .bool _, _, _, _, h => by cases h
  | .str _, .list _, _, _, _, h => by cases h
  | .str _, .dict _, _, _, _, h => by cases h
  | .tuple _, .bool _, _, _, _, h => by cases h
  | .tuple _, .list _, _, _, _, h => by cases h
  | .tuple _, .dict _, _, _, _, h => by cases h
theorem nk_eqvAll : ∀ (a b : List PyData) (k l : List NestedKey), nkAll a = some k → nkAll b = some l → PyData.eqvAll a b = NestedKey.beqAll k l
  | [], [], _, _, h, h' => by cases h; cases h'; rfl
  | [], y :: ys, _, _, h, h' => by
    obtain ⟨k1, _, h2⟩ := Option.bind_eq_some_iff.mp (show (nkOf y).bind _ = some _ from h')
    obtain ⟨k2, _, rfl⟩ := Option.map_eq_some_iff.mp h2
    cases h; rfl
  | x :: xs, [], _, _, h, h' => by
    obtain ⟨k1, _, h2⟩ := Option.bind_eq_some_iff.mp (show (nkOf x).bind _ = some _ from h)
    obtain ⟨k2, _, rfl⟩ := Option.map_eq_some_iff.mp h2
    cases h'; rfl
  | x :: xs, y :: ys, _, _, h, h' => by
    obtain ⟨k1, e1, h2⟩ := Option.bind_eq_some_iff.mp (show (nkOf x).bind _ = some _ from h)
    obtain ⟨k2, e2, rfl⟩ := Option.map_eq_some_iff.mp h2
    obtain ⟨l1, e3, h3⟩ := Option.bind_eq_some_iff.mp (show (nkOf y).bind _ = some _ from h')
    obtain ⟨l2, e4, rfl⟩ := Option.map_eq_some_iff.mp h3
    simp only [PyData.eqvAll, NestedKey.beqAll]
    rw [nk_eqv x y k1 l1 e1 e3, nk_eqvAll xs ys k2 l2 e2 e4]
end
section
variable {X : Cx} {pins : List (Addr × Obj)} {σ : L2.St} {H F : Hp} {s : Shared}
mutual
theorem nk_is (I : Inv X pins σ H s) (e : Same F H) : ∀ {v : V} {d : PyData} {k : NestedKey} {u : Value}, Rp X.KW F v d → nkOf d = some k → RelV v u → NestedIs s.heap k u
  | _, _, _, _, .non, h, r => by cases h; cases r; exact .none
  | _, _, _, _, .bl b, h, r => by cases h
  | _, _, _, _, .int i, h, r => by cases h; obtain ⟨t, rfl⟩ := r; exact .int i t
  | _, _, _, _, .str x _, h, r => by cases h; obtain ⟨t, rfl⟩ := r; exact .text x t
  | _, _, _, _, .lst hs ha, h, r => by cases h
  | _, _, _, _, .tup (ds := ds) hs ha, h, r => by
    cases r
    obtain ⟨ks, e1, rfl⟩ := Option.map_eq_some_iff.mp (show (nkAll ds).map NestedKey.tup = some _ from h)
    obtain ⟨its, rv, ⟨o, ho, hc, n, hd⟩, _⟩ := I.tuple (sqT_mono e hs)
    exact .tup ho hc hd (by simpa using nk_all I e ha e1 rv)
  | _, _, _, _, .dct hs ha, h, r => by cases h
  | _, _, _, _, .dcn hs _ ha, h, r => by cases h
  | _, _, _, _, .ex0 _ _, h, r => by cases h
  | _, _, _, _, .exn _ _ _ _, h, r => by cases h
theorem nk_all (I : Inv X pins σ H s) (e : Same F H) : ∀ {v : List V} {d : List PyData} {k : List NestedKey} {u : List Value}, RpAll X.KW F v d → nkAll d = some k → Vals v u → NestedAll s.heap k u
  | _, _, _, _, .nil, h, r => by cases h; cases r; exact .nil
  | _, _, _, _, .cons (d := d) a b, h, r => by
    cases r with
    | cons r1 r2 =>
      obtain ⟨k1, e1, h2⟩ := Option.bind_eq_some_iff.mp (show (nkOf d).bind _ = some _ from h)
      obtain ⟨k2, e2, rfl⟩ := Option.map_eq_some_iff.mp h2
      exact .cons (nk_is I e a e1 r1) (nk_all I e b e2 r2)
end
abbrev NkP (p : NkV) (q : NestedKey × Addr × Value) : Prop := p.1 = q.1 ∧ p.2.1 = q.2.1 ∧ RelV p.2.2 q.2.2
/-- the keys of such a dict are keys -/
theorem nk_keys (I : Inv X pins σ H s) (e : Same F H) : ∀ {ks : List NkV} {ds : List (PyData × PyData)} {ys : List (NestedKey × Addr × Value)}, RpKN X.KW F ks ds → Paired NkP ks ys → ∀ y ∈ ys, (nestedKind X.prog X.w).is s.heap y.1 y.2.1
  | _, _, _, .nil, .nil => fun y h => nomatch h
  | _, _, _, .cons (b := b) h1 h2 h3 h4 r, .cons p q => fun y h => by
    rcases List.mem_cons.mp h with rfl | h
    · have z := nk_is I e h3 h1 (show RelV (V.ref b) (Value.ref b) from rfl)
      rw [← p.1, ← p.2.1]
      exact ⟨z, h2⟩
    · exact nk_keys I e r q y h
theorem dn_of (I : Inv X pins σ H s) (e : Same F H) {a : Addr} {ks : List NkV} {ds : List (PyData × PyData)} (h : H a = some (dnO X.w a ks)) (r : RpKN X.KW F ks ds) : ks.length ≤ sizeLine ∧ (a == sysModules) = false ∧ ∃ ys, Paired NkP ks ys ∧ s.heap.DictOfH (nestedKind X.prog X.w) a ys := by
  obtain ⟨⟨z, y, ys, kv, ob, es, ep, ho, ex, hd, he, hn⟩, _, _⟩ := I.hok _ _ h
  exact ⟨z, y, ys, kv, ob, es, ep, ho, ex, hd, he, nk_keys I e r kv, hn⟩
theorem dn_nil (I : Inv X pins σ H s) {a : Addr} (h : H a = some (.dK [])) : (a == sysModules) = false ∧ s.heap.DictOfH (nestedKind X.prog X.w) a [] := by
  obtain ⟨z, hd, vs, rel, ob, es, ep, ho, ex, hdt, hk, hp, hn⟩ := dk_of I.hok h
  cases rel
  have he : es.toList = [] := by cases h : es.toList with
    | nil => rfl
    | cons x xs => rw [h] at hp; cases hp
  exact ⟨hd, ob, es, ep, ho, ex, hdt, by rw [he]; rfl, fun x hx => (by cases hx), List.nodup_nil⟩
/-- what such a dict holds at a key -/
def atNk (ds : List (PyData × PyData)) (k : PyData) : Option PyData := (ds.find? fun p => PyData.eqv p.1 k).map (·.2)
theorem nk_find {K : KW} : ∀ {ks : List NkV} {ds : List (PyData × PyData)} {ys : List (NestedKey × Addr × Value)} {kd : PyData} {k : NestedKey}, nkOf kd = some k → RpKN K F ks ds → Paired NkP ks ys →
    (dHas ds kd = (atKey ys k).isSome) ∧ ∀ p, atKey ys k = some p → ∃ v d, atNk ds kd = some d ∧ Rp K F v d ∧ RelV v p.2
  | _, _, _, kd, k, hk, .nil, .nil => ⟨rfl, fun p h => by simp [atKey] at h⟩
  | _, _, _, kd, k, hk, .cons (k := k1) (v := v) (kd := kd1) (d := d1) (ds := ds) h1 h2 h3 h4 r, .cons (l₂ := ys) (b := y) p q => by
    obtain ⟨i1, i2⟩ := nk_find hk r q
    have e := nk_eqv kd1 kd k1 k h1 hk
    rw [← NestedKey.decide_eq] at e
    have p1 : k1 = y.1 := p.1
    by_cases c : k1 = k
    · rw [decide_eq_true c] at e
      refine ⟨by simp [dHas, e, atKey, ← p1, c], fun z hz => ?_⟩
      simp [atKey, ← p1, c] at hz
      subst hz
      exact ⟨v, d1, by simp [atNk, e], h4, p.2.2⟩
    · rw [decide_eq_false c] at e
      refine ⟨?_, fun z hz => ?_⟩
      · have : dHas ((kd1, d1) :: ds) kd = dHas ds kd := by simp [dHas, e]
        rw [this, i1]
        simp [atKey, List.find?_cons, ← p1, c]
      · have h' : atKey ys k = some z := by simpa [atKey, List.find?_cons, ← p1, c] using hz
        obtain ⟨v', d', q1, q2, q3⟩ := i2 z h'
        exact ⟨v', d', by simpa [atNk, List.find?_cons, e] using q1, q2, q3⟩
end
end DL
namespace DL
open PySem PySem.Spec PyProof.Rows L2
section
variable {X : Cx}
theorem EP.bl {pins : List (Addr × Obj)} {σ : L2.St} {H F : Hp} {s : Shared} {Q : VK} {b : Bool} (I : Inv X pins σ H s) (e : Same F H) (q : ∀ F' H' v, Grow F H F' H' → Rp X.KW F' v (.bool b) → Q v H') : EP X pins σ Q (.bool b) s :=
  ⟨.bl b, H, I, rfl, q F H _ (Grow.refl e) (.bl b)⟩
theorem eqOk_spec {x y : PyData} (h : eqOk x y = true) : (x.plain = true ∧ y.plain = true ∧ min x.depth y.depth ≤ 60) ∨ ∃ xs ys, x = .list xs ∧ y = .list ys ∧ xs.length ≠ ys.length := by
  unfold eqOk at h
  rcases Bool.or_eq_true_iff.mp h with h | h
  · simp only [Bool.and_eq_true, decide_eq_true_eq] at h
    exact .inl ⟨h.1.1, h.1.2, h.2⟩
  · unfold lenDiff at h
    split at h
    · exact .inr ⟨_, _, rfl, rfl, of_decide_eq_true h⟩
    · cases h
theorem inOk_spec {x : PyData} {ys : List PyData} (h : inOk x ys = true) : x.plain = true ∧ PyData.plainAll ys = true ∧ min (PyData.depthAll ys) x.depth ≤ 60 := by
  unfold inOk at h
  simp only [Bool.and_eq_true, decide_eq_true_eq] at h
  exact ⟨h.1.1, h.1.2, h.2⟩
theorem ok_eq (hu : X.A.units + 64 < cLine) : OpR X (compareOp .Eq) (rV X.KW oEq) := by
  intro pins s σ H x y v u Q I rx ry ⟨F, dx, dy, z, e, vx, vy, ho, q⟩
  unfold oEq at ho
  split at ho
  · rename_i hk
    cases ho
    rcases eqOk_spec hk with ⟨h1, h2, h3⟩ | ⟨xs, ys, rfl, rfl, hl⟩
    · obtain ⟨as, r1⟩ := vx.reads I e rx h1
      obtain ⟨bs, r2⟩ := vy.reads I e ry h2
      exact SeqAt.eq_plain r1 r2 h1 h2 (by omega) (EP.bl I e q)
    · rw [show PyData.eqv (.list xs) (.list ys) = false from eqvAll_len hl] at q
      obtain ⟨a, ws, rfl, ha, ra⟩ := vx.list e
      obtain ⟨b, zs, rfl, hb, rb⟩ := vy.list e
      cases rx
      cases ry
      obtain ⟨its, r1, p1, _⟩ := I.list ha
      obtain ⟨its2, r2, p2, _⟩ := I.list hb
      exact SeqAt.RcAt.lists_lengths p1.isList p2.isList (by
        have := r1.length; have := r2.length; have := ra.length; have := rb.length
        simp only [List.size_toArray, bne_iff_ne]; omega) (by omega) _ _ _ _ (EP.bl I e q)
  · cases ho
theorem ok_ne (hu : X.A.units + 64 < cLine) : OpR X (compareOp .NotEq) (rV X.KW oNe) := by
  intro pins s σ H x y v u Q I rx ry ⟨F, dx, dy, z, e, vx, vy, ho, q⟩
  unfold oNe at ho
  split at ho
  · rename_i hk
    cases ho
    rcases eqOk_spec hk with ⟨h1, h2, h3⟩ | ⟨xs, ys, rfl, rfl, hl⟩
    · obtain ⟨as, r1⟩ := vx.reads I e rx h1
      obtain ⟨bs, r2⟩ := vy.reads I e ry h2
      exact SeqAt.ne_plain r1 r2 h1 h2 (by omega) (EP.bl I e q)
    · rw [show PyData.eqv (.list xs) (.list ys) = false from eqvAll_len hl] at q
      obtain ⟨a, ws, rfl, ha, ra⟩ := vx.list e
      obtain ⟨b, zs, rfl, hb, rb⟩ := vy.list e
      cases rx
      cases ry
      obtain ⟨its, r1, p1, _⟩ := I.list ha
      obtain ⟨its2, r2, p2, _⟩ := I.list hb
      exact SeqAt.RcNeAt.lists_lengths p1.isList p2.isList (by
        have := r1.length; have := r2.length; have := ra.length; have := rb.length
        simp only [List.size_toArray, bne_iff_ne]; omega) (by omega) _ _ _ _ (EP.bl I e q)
  · cases ho
theorem cmp_ok {f : Value → Value → Sem Value} {p : Int → Int → Bool} {p2 : Str → Str → Bool} (h : OpR X f (rI0 fun i j => .bl (p i j))) (h2 : OpR X f (fun x y H Q => ∃ i j, x = .str i ∧ y = .str j ∧ Q (.bl (p2 i j)) H)) : OpR X f (rV X.KW (cmpI p p2)) := by
  intro pins s σ H x y v u Q I rx ry ⟨F, dx, dy, z, e, vx, vy, ho, q⟩
  unfold cmpI at ho
  split at ho
  · cases ho
    obtain rfl := vx.int
    obtain rfl := vy.int
    exact h pins s σ H _ _ v u Q I rx ry ⟨_, _, rfl, rfl, q F H _ (Grow.refl e) (.bl _)⟩
  · cases ho
    obtain ⟨rfl, _⟩ := vx.str
    obtain ⟨rfl, _⟩ := vy.str
    exact h2 pins s σ H _ _ v u Q I rx ry ⟨_, _, rfl, rfl, q F H _ (Grow.refl e) (.bl _)⟩
  · cases ho
theorem ok_lt : OpR X (compareOp .Lt) (rV X.KW oLt) := cmp_ok op_lt op_lt_str
theorem ok_gt : OpR X (compareOp .Gt) (rV X.KW oGt) := cmp_ok op_gt op_gt_str
theorem ok_le : OpR X (compareOp .LtE) (rV X.KW oLe) := cmp_ok op_le op_le_str
theorem ok_ge : OpR X (compareOp .GtE) (rV X.KW oGe) := cmp_ok op_ge op_ge_str
theorem ok_ix : IxR X (rV X.KW oIx) := by
  intro value slice pins s σ H x y v u Q I rx ry ⟨F, dx, dy, z, e, vx, vy, ho, q⟩ hs
  unfold oIx at ho
  split at ho
  · rename_i xs i
    obtain ⟨a, ws, rfl, ha, ra⟩ := vx.list e
    obtain rfl := vy.int
    unfold atI at ho
    obtain ⟨j, hj, hg⟩ := Option.bind_eq_some_iff.mp ho
    obtain ⟨w, hw⟩ : ∃ w, ws[j]? = some w := by
      have : j < ws.length := by rw [ra.length]; exact (List.getElem?_eq_some_iff.mp hg).1
      exact ⟨_, List.getElem?_eq_getElem this⟩
    refine ix_list value slice pins s σ H _ _ v u Q I rx ry ⟨a, ws, i, w, rfl, rfl, ha, ?_, q F H _ (Grow.refl e) (ra.get hw hg)⟩ hs
    unfold atI
    rw [ra.length, hj]
    exact hw
  · rename_i xs i
    obtain ⟨a, ws, rfl, ha, ra⟩ := vx.tup e
    obtain rfl := vy.int
    unfold atI at ho
    obtain ⟨j, hj, hg⟩ := Option.bind_eq_some_iff.mp ho
    obtain ⟨w, hw⟩ : ∃ w, ws[j]? = some w := by
      have : j < ws.length := by rw [ra.length]; exact (List.getElem?_eq_some_iff.mp hg).1
      exact ⟨_, List.getElem?_eq_getElem this⟩
    refine ix_tup value slice pins s σ H _ _ v u Q I rx ry ⟨a, ws, i, w, rfl, rfl, ha, ?_, q F H _ (Grow.refl e) (ra.get hw hg)⟩ hs
    unfold atI
    rw [ra.length, hj]
    exact hw
  · rename_i zz i
    obtain ⟨rfl, hz⟩ := vx.str
    obtain rfl := vy.int
    obtain ⟨c, hc, rfl⟩ := Option.map_eq_some_iff.mp ho
    exact ix_str value slice pins s σ H _ _ v u Q I rx ry ⟨zz, i, c, rfl, rfl, hz, hc, q F H _ (Grow.refl e) (.str _ (by rw [sizeLine_eq]; exact (by decide : 1 ≤ 16777216)))⟩ hs
  · cases ho
theorem isN_iff {K : KW} {F H : Hp} {v : V} {d : PyData} (h : Vw K F H v d) : decide (v = .non) = (match d with | .none => true | _ => false) := by
  cases h with
  | dat h => cases h <;> rfl
  | lst _ _ => rfl
  | dct _ _ => rfl
  | dcn _ _ _ => rfl
theorem keyD_eqv (k' k : Key) : PyData.eqv (keyD k') (keyD k) = decide (k' = k) := by
  cases k' <;> cases k <;> simp [keyD, PyData.eqv, Bool.beq_eq_decide_eq]
theorem dhas_key {K : KW} {F : Hp} (k : Key) : ∀ {ks : List (Key × V)} {ds : List (PyData × PyData)}, RpKV K F ks ds → (valV ks k).isSome = dHas ds (keyD k)
  | _, _, .nil => rfl
  | _, _, .cons (k := k') (v := v) (vs := ks) (d := d) (ds := ds) a b => by
    have ih := dhas_key k b
    unfold valV at ih ⊢
    unfold dHas at ih ⊢
    rw [List.find?_cons, List.any_cons]
    show _ = (PyData.eqv (keyD k') (keyD k) || _)
    rw [keyD_eqv k' k]
    cases h : decide (k' = k) with
    | true => rfl
    | false => simpa using ih
theorem tupOk_spec {a : List PyData} {kvs : List (PyData × PyData)} (h : tupOk a kvs = true) : ∃ k, nkOf (.tuple a) = some k ∧ k.depth ≤ 8 ∧ (kvs = [] ∨ (kvs.all fun p => plainKey p.1) = false) := by
  unfold tupOk at h
  split at h
  · rename_i k hk
    rw [Bool.and_eq_true, Bool.and_eq_true, Bool.or_eq_true] at h
    exact ⟨k, hk, of_decide_eq_true h.1.1, h.1.2.imp (fun z => List.isEmpty_iff.mp z) (fun z => by simpa using z)⟩
  · cases h
theorem tupOk_err {a : List PyData} {kvs : List (PyData × PyData)} (h : tupOk a kvs = true) : isErr kvs = false := by
  unfold tupOk at h
  split at h
  · rw [Bool.and_eq_true, Bool.and_eq_true] at h
    simpa using h.2
  · cases h
theorem ok_in (hu : X.A.units + 64 < cLine) : OpR X (compareOp .In) (rV X.KW oIn) := by
  intro pins s σ H x y v u Q I rx ry ⟨F, dx, dy, z, e, vx, vy, ho, q⟩
  unfold oIn isIn at ho
  split at ho
  · rename_i a b
    split at ho
    · rename_i c hc
      cases ho
      obtain ⟨rfl, _⟩ := vx.str
      obtain ⟨rfl, _⟩ := vy.str
      obtain ⟨a⟩ := a
      have ea : a = #[c] := Array.toList_inj.mp hc
      subst ea
      exact op_in_sign pins s σ H _ _ v u Q I rx ry ⟨c, b, rfl, rfl, q F H _ (Grow.refl e) (.bl _)⟩
    · cases ho
  · split at ho
    · rename_i hk
      cases ho
      obtain ⟨h1, h2, h3⟩ := inOk_spec hk
      obtain ⟨as, r1⟩ := vx.reads I e rx h1
      obtain ⟨bs, r2⟩ := vy.reads I e ry (by simpa [PyData.plain] using h2)
      exact SeqAt.in_list_data r2 r1 h2 h1 (by omega) (EP.bl I e q)
    · cases ho
  · split at ho
    · rename_i hk
      cases ho
      obtain ⟨h1, h2, h3⟩ := inOk_spec hk
      obtain ⟨as, r1⟩ := vx.reads I e rx h1
      obtain ⟨bs, r2⟩ := vy.reads I e ry (by simpa [PyData.plain] using h2)
      exact SeqAt.in_tuple_data r2 r1 h2 h1 (by omega) (EP.bl I e q)
    · cases ho
  · rename_i a kvs
    split at ho
    · rename_i hp
      cases ho
      obtain ⟨rfl, _⟩ := vx.str
      obtain ⟨b, ks, rfl, hb, rb⟩ := vy.dict e hp
      cases ry
      exact d_in (by omega) I (DGet.k (k := .inr a) hb) rx fun s' I' => EP.bl I' e (by rw [dhas_key (.inr a) rb]; exact q)
    · cases ho
  · rename_i a kvs
    split at ho
    · rename_i hp
      cases ho
      obtain rfl := vx.int
      obtain ⟨b, ks, rfl, hb, rb⟩ := vy.dict e hp
      cases ry
      exact d_in (by omega) I (DGet.k (k := .inl a) hb) rx fun s' I' => EP.bl I' e (by rw [dhas_key (.inl a) rb]; exact q)
    · cases ho
  · rename_i a kvs
    split at ho
    · rename_i hp
      cases ho
      obtain ⟨k, hk, hd8, hm⟩ := tupOk_spec hp
      obtain ⟨ta, ts, rfl, hta, hra⟩ := vx.tup e
      cases rx
      have hroom : (nestedKind X.prog X.w).room X.A.in1 := by
        show X.A.in1.units + 8 < cLine
        have : X.A.in1.units = X.A.units + 1 := rfl
        omega
      have hkey : (nestedKind X.prog X.w).is s.heap k ta := by
        obtain ⟨its, rv, ⟨o, ho, hc, n, hd⟩, _⟩ := I.tuple hta
        obtain ⟨ks, e1, rfl⟩ := Option.map_eq_some_iff.mp (show (nkAll a).map NestedKey.tup = some _ from hk)
        exact ⟨.tup ho hc hd (by simpa using nk_all I e hra e1 rv), hd8⟩
      rcases vy.dictO e (tupOk_err hp) with ⟨b, ks, rfl, hb, rb⟩ | ⟨b, ks, rfl, hb, _, rb⟩
      · have h0 : kvs = [] := by
          rcases hm with h | h
          · exact h
          · rw [rb.plain (ks := ks)] at h; cases h
        subst h0
        cases rb
        obtain ⟨h1, h2⟩ := dn_nil I hb
        cases ry
        exact wpAny_in_heap hroom hkey h1 h2 (EP.bl (I.tok _) e (by exact q))
      · obtain ⟨_, h1, ys, h2, h3⟩ := dn_of I e hb rb
        cases ry
        obtain ⟨h4, _⟩ := nk_find hk rb h2
        exact wpAny_in_heap hroom hkey h1 h3 (EP.bl (I.tok _) e (by rw [← h4]; exact q))
    · cases ho
  · cases ho
theorem ok_notIn (hu : X.A.units + 64 < cLine) : OpR X (compareOp .NotIn) (rV X.KW oNotIn) := by
  intro pins s σ H x y v u Q I rx ry ⟨F, dx, dy, z, e, vx, vy, ho, q⟩
  unfold oNotIn isIn at ho
  split at ho
  · rename_i a b
    split at ho
    · rename_i c hc
      cases ho
      obtain ⟨rfl, _⟩ := vx.str
      obtain ⟨rfl, _⟩ := vy.str
      obtain ⟨a⟩ := a
      have ea : a = #[c] := Array.toList_inj.mp hc
      subst ea
      exact op_notIn_sign pins s σ H _ _ v u Q I rx ry ⟨c, b, rfl, rfl, q F H _ (Grow.refl e) (.bl _)⟩
    · cases ho
  · split at ho
    · rename_i hk
      cases ho
      obtain ⟨h1, h2, h3⟩ := inOk_spec hk
      obtain ⟨as, r1⟩ := vx.reads I e rx h1
      obtain ⟨bs, r2⟩ := vy.reads I e ry (by simpa [PyData.plain] using h2)
      exact SeqAt.notIn_list_data r2 r1 h2 h1 (by omega) (EP.bl I e q)
    · cases ho
  · split at ho
    · rename_i hk
      cases ho
      obtain ⟨h1, h2, h3⟩ := inOk_spec hk
      obtain ⟨as, r1⟩ := vx.reads I e rx h1
      obtain ⟨bs, r2⟩ := vy.reads I e ry (by simpa [PyData.plain] using h2)
      exact SeqAt.notIn_tuple_data r2 r1 h2 h1 (by omega) (EP.bl I e q)
    · cases ho
  · rename_i a kvs
    split at ho
    · rename_i hp
      cases ho
      obtain ⟨rfl, _⟩ := vx.str
      obtain ⟨b, ks, rfl, hb, rb⟩ := vy.dict e hp
      cases ry
      exact d_notIn (by omega) I (DGet.k (k := .inr a) hb) rx fun s' I' => EP.bl I' e (by rw [dhas_key (.inr a) rb]; exact q)
    · cases ho
  · rename_i a kvs
    split at ho
    · rename_i hp
      cases ho
      obtain rfl := vx.int
      obtain ⟨b, ks, rfl, hb, rb⟩ := vy.dict e hp
      cases ry
      exact d_notIn (by omega) I (DGet.k (k := .inl a) hb) rx fun s' I' => EP.bl I' e (by rw [dhas_key (.inl a) rb]; exact q)
    · cases ho
  · rename_i a kvs
    split at ho
    · rename_i hp
      cases ho
      obtain ⟨k, hk, hd8, hm⟩ := tupOk_spec hp
      obtain ⟨ta, ts, rfl, hta, hra⟩ := vx.tup e
      cases rx
      have hroom : (nestedKind X.prog X.w).room X.A.in1 := by
        show X.A.in1.units + 8 < cLine
        have : X.A.in1.units = X.A.units + 1 := rfl
        omega
      have hkey : (nestedKind X.prog X.w).is s.heap k ta := by
        obtain ⟨its, rv, ⟨o, ho, hc, n, hd⟩, _⟩ := I.tuple hta
        obtain ⟨ks, e1, rfl⟩ := Option.map_eq_some_iff.mp (show (nkAll a).map NestedKey.tup = some _ from hk)
        exact ⟨.tup ho hc hd (by simpa using nk_all I e hra e1 rv), hd8⟩
      rcases vy.dictO e (tupOk_err hp) with ⟨b, ks, rfl, hb, rb⟩ | ⟨b, ks, rfl, hb, _, rb⟩
      · have h0 : kvs = [] := by
          rcases hm with h | h
          · exact h
          · rw [rb.plain (ks := ks)] at h; cases h
        subst h0
        cases rb
        obtain ⟨h1, h2⟩ := dn_nil I hb
        cases ry
        exact wpAny_notIn_heap hroom hkey h1 h2 (EP.bl (I.tok _) e (by exact q))
      · obtain ⟨_, h1, ys, h2, h3⟩ := dn_of I e hb rb
        cases ry
        obtain ⟨h4, _⟩ := nk_find hk rb h2
        exact wpAny_notIn_heap hroom hkey h1 h3 (EP.bl (I.tok _) e (by rw [← h4]; exact q))
    · cases ho
  · cases ho
theorem vw_none {K : KW} {F H : Hp} {v : V} {d : PyData} {u : Value} (h : Vw K F H v d) (r : RelV v u) : (u == Value.none) = match d with | .none => true | _ => false := by
  rw [r.none_iff, isN_iff h]
theorem ok_is : OpR X (compareOp .Is) (rV X.KW oIs) := by
  intro pins s σ H x y v u Q I rx ry ⟨F, dx, dy, z, e, vx, vy, ho, q⟩
  have kn := vw_none vx rx
  unfold oIs at ho
  split at ho
  · cases ho
    obtain rfl := vy.non
    cases ry
    exact is_none_gen (by rw [kn]; exact EP.bl I e q)
  · rename_i hd
    cases ho
    obtain rfl := vy.non
    cases ry
    refine is_none_gen ?_
    rw [kn]
    split
    · exact absurd rfl hd
    · exact EP.bl I e q
  · cases ho
    obtain rfl := vx.bl
    obtain rfl := vy.bl
    cases rx
    cases ry
    exact is_bool (EP.bl I e q)
  · cases ho
theorem ok_isNot : OpR X (compareOp .IsNot) (rV X.KW oIsNot) := by
  intro pins s σ H x y v u Q I rx ry ⟨F, dx, dy, z, e, vx, vy, ho, q⟩
  have kn := vw_none vx rx
  unfold oIsNot oIs at ho
  split at ho
  · cases ho
    obtain rfl := vy.non
    cases ry
    exact isnot_none_gen (by rw [kn]; exact EP.bl I e q)
  · rename_i hd
    cases ho
    obtain rfl := vy.non
    cases ry
    refine isnot_none_gen ?_
    rw [kn]
    split
    · exact absurd rfl hd
    · exact EP.bl I e q
  · cases ho
    obtain rfl := vx.bl
    obtain rfl := vy.bl
    cases rx
    cases ry
    exact isnot_bool (EP.bl I e q)
  · cases ho
end
end DL
namespace DL
open PySem PySem.Spec PyProof.Rows L2
section
variable {X : Cx} {W : WX} {pos : Pos}
/-! ### a name first, read when the other is there -/
def op2N (o : Op2) (i : Nat) (fb : Mo PyData) : Mo PyData := fun δ => (Res.of (gVar i δ) δ).bind fun _ δ0 => (fb δ0).bind fun y δ' => Res.of ((gVar i δ').bind fun x => o x y) δ'
theorem gVar_at {K : KW} {F H : Hp} {δ : Env} {σ : L2.St} {fp : List Addr} {i : Nat} {x : PyData} (r : EnvRep K F H δ σ fp) (e : gVar i δ = some x) : ∃ v, σ[i]? = some (some v) ∧ Vw K F H v x := by
  unfold gVar at e
  split at e
  · rename_i x' hx
    obtain ⟨v', q, e', r⟩ := r.at hx
    exact ⟨v', e', r.vw e⟩
  · cases e
theorem t_opN {o : Op2} {fb : Mo PyData} {tb : TE} {i : Nat}
    (qb : ∀ σ H F δ fp Q, St3 X.KW F H δ σ fp → RPost X W σ F H fp (fb δ) (fun d _ F' H' _ => ∀ v, Rp X.KW F' v d → Q v H') → tb σ H Q)
    {σ : L2.St} {H F : Hp} {δ : Env} {fp : List Addr} {Q : VK} (s : St3 X.KW F H δ σ fp) (h : RPost X W σ F H fp (op2N o i fb δ) (fun d _ F' H' _ => ∀ v, Rp X.KW F' v d → Q v H')) : tOp (rV X.KW o) (tVar i) tb σ H Q := by
  obtain ⟨x0, ex0, h0⟩ := RPost.of (RPost.bind h)
  have h1 := h0 F H fp (Ext.refl s.inn) s
  obtain ⟨v, ev, _⟩ := gVar_at s.rep ex0
  refine ⟨v, ev, ?_⟩
  refine qb σ H F δ fp _ s ((RPost.bind h1).imp fun y δ2 F2 H2 fp2 e2 s2 h2 w rw => ?_)
  obtain ⟨z, ez, h3⟩ := RPost.of h2
  obtain ⟨x, ex, eo⟩ := Option.bind_eq_some_iff.mp ez
  obtain ⟨v', e, r⟩ := gVar_at s2.rep ex
  rw [ev] at e
  cases e
  exact ⟨F2, x, y, z, s2.inn, r, rw.vw, eo, fun F' H' v' g r => h3 F' H' fp2 g.ext (s2.grow g) v' r⟩
theorem de_ixN {o : Op2} {a b : Expr} {fb : Mo PyData} {i : Nat} (ho : IxR X (rV X.KW o)) (ha : PE X a (tVar i)) (hb : DE X W b fb) (hs : PlainIx b := by exact fun _ _ => rfl) : DE X W (.Subscript a b pos) (op2N o i fb) := by
  obtain ⟨tb, pb, qb⟩ := hb
  exact ⟨_, pe_ix ho ha pb hs, fun σ H F δ fp Q s h => t_opN qb s h⟩
theorem de_cmpN {op : CmpOp} {o : Op2} {a b : Expr} {fb : Mo PyData} {i : Nat} (ho : OpR X (compareOp op) (rV X.KW o)) (ha : PE X a (tVar i)) (hb : DE X W b fb) (hm : behindInMarks op b = false := by first | exact nomark _ | rfl) : DE X W (.Compare a [op] [b] pos) (op2N o i fb) := by
  obtain ⟨tb, pb, qb⟩ := hb
  exact ⟨_, pe_cmpR ho ha pb hm, fun σ H F δ fp Q s h => t_opN qb s h⟩
/-- the right one a place -/
theorem de_cmpQ {op : CmpOp} {o : Op2} {a b : Expr} {fa : Mo PyData} {g : Env → Option PyData} (ho : OpR X (compareOp op) (rV X.KW o)) (ha : DE X W a fa) (hb : DPl X b g) (hm : behindInMarks op b = false := by first | exact nomark _ | rfl) : DE X W (.Compare a [op] [b] pos) (op2Q o fa g) := by
  obtain ⟨ta, pa, qa⟩ := ha
  obtain ⟨tb, pb, qb⟩ := hb
  refine ⟨_, pe_cmpR ho pa pb hm, fun σ H F δ fp Q s h => ?_⟩
  refine qa σ H F δ fp _ s ((RPost.bind h).imp fun x δ1 F1 H1 fp1 e1 s1 h1 v rv => ?_)
  obtain ⟨z, ez, h3⟩ := RPost.of h1
  obtain ⟨y, ey, eo⟩ := Option.bind_eq_some_iff.mp ez
  exact qb σ H1 F1 δ1 fp1 _ s1 ⟨y, ey, fun w rw => ⟨F1, x, y, z, s1.inn, rv.vw, rw, eo, fun F' H' v' g r => h3 F' H' fp1 g.ext (s1.grow g) v' r⟩⟩
/-! ### tests -/
def asB (d : PyData) : Mo Bool := fun δ => match d with
  | .bool b => .ok b δ
  | _ => .st
@[simp] theorem asB_bool (b : Bool) (δ : Env) : asB (.bool b) δ = .ok b δ := rfl
def asI (d : PyData) : Mo Int := fun δ => match d with
  | .int b => .ok b δ
  | _ => .st
@[simp] theorem asI_int (b : Int) (δ : Env) : asI (.int b) δ = .ok b δ := rfl
theorem RPost.asB {σ : L2.St} {F H : Hp} {fp : List Addr} {d : PyData} {δ : Env} {R : Bool → Env → Hp → Hp → List Addr → Prop} (h : RPost X W σ F H fp (DL.asB d δ) R) : ∃ b, d = .bool b ∧ ∀ F' H' fp', Ext F H fp F' H' fp' → St3 X.KW F' H' δ σ fp' → R b δ F' H' fp' := by
  cases d with
  | bool b => exact ⟨b, rfl, h⟩
  | _ => exact False.elim h
theorem RPost.asI {σ : L2.St} {F H : Hp} {fp : List Addr} {d : PyData} {δ : Env} {R : Int → Env → Hp → Hp → List Addr → Prop} (h : RPost X W σ F H fp (DL.asI d δ) R) : ∃ b, d = .int b ∧ ∀ F' H' fp', Ext F H fp F' H' fp' → St3 X.KW F' H' δ σ fp' → R b δ F' H' fp' := by
  cases d with
  | int b => exact ⟨b, rfl, h⟩
  | _ => exact False.elim h
def tst (f : Mo PyData) : Mo Bool := bnd f asB
theorem dt_of {e : Expr} {f : Mo PyData} (h : DE X W e f) (k : ∀ t, PE X e t → PT X e (tB t)) : DT X W e (tst f) := by
  obtain ⟨t, p, q⟩ := h
  refine ⟨_, k t p, fun σ H F δ fp Q s h => ?_⟩
  refine q σ H F δ fp _ s ((RPost.bind h).imp fun d δ1 F1 H1 fp1 e1 s1 h1 v rv => ?_)
  obtain ⟨b, rfl, h2⟩ := RPost.asB h1
  cases rv
  exact ⟨_, rfl, h2 F1 H1 fp1 (Ext.refl s1.inn) s1⟩
/-- an expression whose value is a bool, as a test -/
theorem dt_val {e : Expr} {f : Mo PyData} (h : DE X W e f) (he : ∀ whole, isTrue e X.env whole = (do let v ← whole; standAt e.pos; holding [v] (truthy v)) := by intro _; rfl) : DT X W e (tst f) := dt_of h fun t p => pt_val p he
theorem pt_of_cmp {a b : Expr} {op : CmpOp} {t : TE} (h : PE X (.Compare a [op] [b] pos) t) : True := trivial
theorem dt_cmp {op : CmpOp} {o : Op2} {a b : Expr} {fa fb : Mo PyData} (ho : OpR X (compareOp op) (rV X.KW o)) (ha : DE X W a fa) (hb : DE X W b fb) (hm : behindInMarks op b = false := by first | exact nomark _ | rfl) : DT X W (.Compare a [op] [b] pos) (tst (op2 o fa fb)) := by
  obtain ⟨ta, pa, qa⟩ := ha
  obtain ⟨tb, pb, qb⟩ := hb
  refine ⟨_, pt_cmpR ho pa pb hm, fun σ H F δ fp Q s h => ?_⟩
  refine t_op (a := a) (b := b) qa qb s ((RPost.bind h).imp fun d δ1 F1 H1 fp1 e1 s1 h1 v rv => ?_)
  obtain ⟨b, rfl, h2⟩ := RPost.asB h1
  cases rv
  exact ⟨_, rfl, h2 F1 H1 fp1 (Ext.refl s1.inn) s1⟩
theorem dt_cmpN {op : CmpOp} {o : Op2} {a b : Expr} {fb : Mo PyData} {i : Nat} (ho : OpR X (compareOp op) (rV X.KW o)) (ha : PE X a (tVar i)) (hb : DE X W b fb) (hm : behindInMarks op b = false := by first | exact nomark _ | rfl) : DT X W (.Compare a [op] [b] pos) (tst (op2N o i fb)) := by
  obtain ⟨tb, pb, qb⟩ := hb
  refine ⟨_, pt_cmpR ho ha pb hm, fun σ H F δ fp Q s h => ?_⟩
  refine t_opN qb s ((RPost.bind h).imp fun d δ1 F1 H1 fp1 e1 s1 h1 v rv => ?_)
  obtain ⟨b, rfl, h2⟩ := RPost.asB h1
  cases rv
  exact ⟨_, rfl, h2 F1 H1 fp1 (Ext.refl s1.inn) s1⟩
theorem dt_cmpQ {op : CmpOp} {o : Op2} {a b : Expr} {fa : Mo PyData} {g : Env → Option PyData} (ho : OpR X (compareOp op) (rV X.KW o)) (ha : DE X W a fa) (hb : DPl X b g) (hm : behindInMarks op b = false := by first | exact nomark _ | rfl) : DT X W (.Compare a [op] [b] pos) (tst (op2Q o fa g)) := by
  obtain ⟨ta, pa, qa⟩ := ha
  obtain ⟨tb, pb, qb⟩ := hb
  refine ⟨_, pt_cmpR ho pa pb hm, fun σ H F δ fp Q s h => ?_⟩
  refine qa σ H F δ fp _ s ((RPost.bind (RPost.bind h)).imp fun x δ1 F1 H1 fp1 e1 s1 h1 v rv => ?_)
  obtain ⟨z, ez, h3⟩ := RPost.of h1
  obtain ⟨y, ey, eo⟩ := Option.bind_eq_some_iff.mp ez
  refine qb σ H1 F1 δ1 fp1 _ s1 ⟨y, ey, fun w rw => ⟨F1, x, y, z, s1.inn, rv.vw, rw, eo, fun F' H' v' g r => ?_⟩⟩
  obtain ⟨b, rfl, h4⟩ := RPost.asB (h3 F' H' fp1 g.ext (s1.grow g))
  cases r
  exact ⟨_, rfl, h4 F' H' fp1 (Ext.refl g.inn) (s1.grow g)⟩
def mNot (f : Mo Bool) : Mo Bool := bnd f fun b δ => .ok (!b) δ
def mAnd (f g : Mo Bool) : Mo Bool := bnd f fun b δ => if b = true then g δ else .ok false δ
def mOr (f g : Mo Bool) : Mo Bool := bnd f fun b δ => if b = true then .ok true δ else g δ
def mBool (f : Mo Bool) : Mo PyData := bnd f fun b δ => .ok (.bool b) δ
theorem dt_not {a : Expr} {f : Mo Bool} (h : DT X W a f) : DT X W (.UnaryOp .Not a pos) (mNot f) := by
  obtain ⟨t, p, q⟩ := h
  exact ⟨_, pt_not p, fun σ H F δ fp Q s h => q σ H F δ fp _ s ((RPost.bind h).imp fun d δ1 F1 H1 fp1 e1 s1 h1 => h1 F1 H1 fp1 (Ext.refl s1.inn) s1)⟩
theorem DTW.t {a : Expr} {f : Mo Bool} (h : DTW X W a f) : DT X W a f := by
  obtain ⟨t, p, q⟩ := h
  exact ⟨t, p.pt, q⟩
theorem dw_and1 {a : Expr} {f : Mo Bool} (h : DT X W a f) : DTW X W (.BoolOp .And [a] pos) f := by
  obtain ⟨t, p, q⟩ := h
  exact ⟨t, pw_and1 p, q⟩
theorem dw_or1 {a : Expr} {f : Mo Bool} (h : DT X W a f) : DTW X W (.BoolOp .Or [a] pos) f := by
  obtain ⟨t, p, q⟩ := h
  exact ⟨t, pw_or1 p, q⟩
theorem dw_and {a b : Expr} {r : List Expr} {f g : Mo Bool} (ha : DT X W a f) (hb : DTW X W (.BoolOp .And (b :: r) pos) g) : DTW X W (.BoolOp .And (a :: b :: r) pos) (mAnd f g) := by
  obtain ⟨ta, pa, qa⟩ := ha
  obtain ⟨tb, pb, qb⟩ := hb
  refine ⟨_, pw_and pa pb, fun σ H F δ fp Q s h => qa σ H F δ fp _ s ((RPost.bind h).imp fun d δ1 F1 H1 fp1 e1 s1 h1 => ?_)⟩
  cases d with
  | true => exact iteT (qb σ H1 F1 δ1 fp1 _ s1 h1)
  | false => exact iteF (h1 F1 H1 fp1 (Ext.refl s1.inn) s1)
theorem dw_or {a b : Expr} {r : List Expr} {f g : Mo Bool} (ha : DT X W a f) (hb : DTW X W (.BoolOp .Or (b :: r) pos) g) : DTW X W (.BoolOp .Or (a :: b :: r) pos) (mOr f g) := by
  obtain ⟨ta, pa, qa⟩ := ha
  obtain ⟨tb, pb, qb⟩ := hb
  refine ⟨_, pw_or pa pb, fun σ H F δ fp Q s h => qa σ H F δ fp _ s ((RPost.bind h).imp fun d δ1 F1 H1 fp1 e1 s1 h1 => ?_)⟩
  cases d with
  | true => exact iteT (h1 F1 H1 fp1 (Ext.refl s1.inn) s1)
  | false => exact iteF (qb σ H1 F1 δ1 fp1 _ s1 h1)
/-- and, or as values: all but the last are bools -/
def vAnd (f g : Mo PyData) : Mo PyData := bnd (tst f) fun b δ => if b = true then g δ else .ok (.bool false) δ
def vOr (f g : Mo PyData) : Mo PyData := bnd (tst f) fun b δ => if b = true then .ok (.bool true) δ else g δ
theorem de_one {op} {a : Expr} {f : Mo PyData} (h : DE X W a f) : DE X W (.BoolOp op [a] pos) f := by
  obtain ⟨t, p, q⟩ := h
  exact ⟨t, pe_one p, q⟩
theorem de_and {a b : Expr} {r : List Expr} {f g : Mo PyData} (ha : DE X W a f) (hb : DE X W (.BoolOp .And (b :: r) pos) g) : DE X W (.BoolOp .And (a :: b :: r) pos) (vAnd f g) := by
  obtain ⟨ta, pa, qa⟩ := ha
  obtain ⟨tb, pb, qb⟩ := hb
  refine ⟨_, pe_and pa pb, fun σ H F δ fp Q s h => qa σ H F δ fp _ s ((RPost.bind (RPost.bind h)).imp fun d δ1 F1 H1 fp1 e1 s1 h1 v rv => ?_)⟩
  obtain ⟨b, rfl, h2⟩ := RPost.asB h1
  cases rv
  have h2 := h2 F1 H1 fp1 (Ext.refl s1.inn) s1
  · refine ⟨b, rfl, ?_⟩
    cases b with
    | true => exact iteT (qb σ H1 F1 δ1 fp1 _ s1 h2)
    | false => exact iteF (h2 F1 H1 fp1 (Ext.refl s1.inn) s1 _ (.bl false))
theorem de_or {a b : Expr} {r : List Expr} {f g : Mo PyData} (ha : DE X W a f) (hb : DE X W (.BoolOp .Or (b :: r) pos) g) : DE X W (.BoolOp .Or (a :: b :: r) pos) (vOr f g) := by
  obtain ⟨ta, pa, qa⟩ := ha
  obtain ⟨tb, pb, qb⟩ := hb
  refine ⟨_, pe_or pa pb, fun σ H F δ fp Q s h => qa σ H F δ fp _ s ((RPost.bind (RPost.bind h)).imp fun d δ1 F1 H1 fp1 e1 s1 h1 v rv => ?_)⟩
  obtain ⟨b, rfl, h2⟩ := RPost.asB h1
  cases rv
  have h2 := h2 F1 H1 fp1 (Ext.refl s1.inn) s1
  · refine ⟨b, rfl, ?_⟩
    cases b with
    | true => exact iteT (h2 F1 H1 fp1 (Ext.refl s1.inn) s1 _ (.bl true))
    | false => exact iteF (qb σ H1 F1 δ1 fp1 _ s1 h2)
def vNot (f : Mo PyData) : Mo PyData := bnd (tst f) fun b δ => .ok (.bool !b) δ
theorem de_not {a : Expr} {f : Mo PyData} (ha : DE X W a f) : DE X W (.UnaryOp .Not a pos) (vNot f) := by
  obtain ⟨ta, pa, qa⟩ := ha
  refine ⟨_, pe_not pa, fun σ H F δ fp Q s h => qa σ H F δ fp _ s ((RPost.bind (RPost.bind h)).imp fun d δ1 F1 H1 fp1 e1 s1 h1 v rv => ?_)⟩
  obtain ⟨b, rfl, h1⟩ := RPost.asB h1
  · cases rv
    exact ⟨b, rfl, h1 F1 H1 fp1 (Ext.refl s1.inn) s1 F1 H1 fp1 (Ext.refl s1.inn) s1 _ (.bl _)⟩
def vNeg (f : Mo PyData) : Mo PyData := bnd (bnd f asI) fun i δ => .ok (.int (-i)) δ
theorem de_neg {a : Expr} {f : Mo PyData} (ha : DE X W a f) : DE X W (.UnaryOp .USub a pos) (vNeg f) := by
  obtain ⟨ta, pa, qa⟩ := ha
  refine ⟨_, pe_un un_neg pa, fun σ H F δ fp Q s h => qa σ H F δ fp _ s ((RPost.bind (RPost.bind h)).imp fun d δ1 F1 H1 fp1 e1 s1 h1 v rv => ?_)⟩
  obtain ⟨b, rfl, h1⟩ := RPost.asI h1
  cases rv
  exact ⟨_, rfl, h1 F1 H1 fp1 (Ext.refl s1.inn) s1 F1 H1 fp1 (Ext.refl s1.inn) s1 _ (.int _)⟩
def mIf {α : Type} (c : Mo Bool) (f g : Mo α) : Mo α := bnd c fun b δ => if b = true then f δ else g δ
theorem de_if {c a b : Expr} {fc : Mo Bool} {f g : Mo PyData} (hc : DT X W c fc) (ha : DE X W a f) (hb : DE X W b g) : DE X W (.IfExp c a b pos) (mIf fc f g) := by
  obtain ⟨tc, pc, qc⟩ := hc
  obtain ⟨ta, pa, qa⟩ := ha
  obtain ⟨tb, pb, qb⟩ := hb
  refine ⟨_, pe_ifExp pc pa pb, fun σ H F δ fp Q s h => qc σ H F δ fp _ s ((RPost.bind h).imp fun d δ1 F1 H1 fp1 e1 s1 h1 => ?_)⟩
  cases d with
  | true => exact iteT (qa σ H1 F1 δ1 fp1 _ s1 h1)
  | false => exact iteF (qb σ H1 F1 δ1 fp1 _ s1 h1)
/-- a op1 b op2 c -/
def mChain (o o' : Op2) (fa fb fc : Mo PyData) : Mo PyData := bnd fa fun x => bnd fb fun y δ => (Res.of (o x y) δ).bind fun z δ => (asB z δ).bind fun b δ => if b = true then (fc δ).bind fun w δ' => Res.of (o' y w) δ' else .ok (.bool false) δ
theorem t_chain {a b c : Expr} {o o' : Op2} {fa fb fc : Mo PyData} {ta tb tc : TE}
    (qa : ∀ σ H F δ fp Q, St3 X.KW F H δ σ fp → RPost X W σ F H fp (fa δ) (fun d _ F' H' _ => ∀ v, Rp X.KW F' v d → Q v H') → ta σ H Q)
    (qb : ∀ σ H F δ fp Q, St3 X.KW F H δ σ fp → RPost X W σ F H fp (fb δ) (fun d _ F' H' _ => ∀ v, Rp X.KW F' v d → Q v H') → tb σ H Q)
    (qc : ∀ σ H F δ fp Q, St3 X.KW F H δ σ fp → RPost X W σ F H fp (fc δ) (fun d _ F' H' _ => ∀ v, Rp X.KW F' v d → Q v H') → tc σ H Q)
    {σ : L2.St} {H F : Hp} {δ : Env} {fp : List Addr} {Q : VK} (s : St3 X.KW F H δ σ fp) (h : RPost X W σ F H fp (mChain o o' fa fb fc δ) (fun d _ F' H' _ => ∀ v, Rp X.KW F' v d → Q v H')) : tChain (rV X.KW o) (rV X.KW o') ta tb tc σ H Q := by
  refine qa σ H F δ fp _ s ((RPost.bind h).imp fun x δ1 F1 H1 fp1 e1 s1 h1 v rv => ?_)
  refine qb σ H1 F1 δ1 fp1 _ s1 ((RPost.bind h1).imp fun y δ2 F2 H2 fp2 e2 s2 h2 w rw => ?_)
  obtain ⟨z, ez, h3⟩ := RPost.of (RPost.bind h2)
  refine ⟨F2, x, y, z, s2.inn, (rv.mono e2.sub).vw, rw.vw, ez, fun F' H' v' g r => ?_⟩
  have s3 := s2.grow g
  obtain ⟨b, rfl, h4⟩ := RPost.asB (RPost.bind (h3 F' H' fp2 g.ext s3))
  have h4 := h4 F' H' fp2 (Ext.refl g.inn) s3
  · cases r
    refine ⟨b, rfl, ?_⟩
    cases b with
    | true =>
      refine iteT (qc σ H' F' δ2 fp2 _ s3 ((RPost.bind h4).imp fun y2 δ4 F4 H4 fp4 e4 s4 h5 w4 rw4 => ?_))
      obtain ⟨z5, ez5, h6⟩ := RPost.of h5
      exact ⟨F4, y, y2, z5, s4.inn, (rw.mono (g.sub.trans e4.sub)).vw, rw4.vw, ez5, fun F5 H5 v5 g5 r5 => h6 F5 H5 fp4 g5.ext (s4.grow g5) v5 r5⟩
    | false => exact iteF (h4 F' H' fp2 (Ext.refl g.inn) s3 _ (.bl false))
theorem de_chain {op op' : CmpOp} {o o' : Op2} {a b c : Expr} {fa fb fc : Mo PyData} (ho : OpR X (compareOp op) (rV X.KW o)) (ho' : OpR X (compareOp op') (rV X.KW o')) (ha : DE X W a fa) (hb : DE X W b fb) (hc : DE X W c fc)
    (hm : lastMarks [op, op'] [b, c] = false := by with_unfolding_all rfl) : DE X W (.Compare a [op, op'] [b, c] pos) (mChain o o' fa fb fc) := by
  obtain ⟨ta, pa, qa⟩ := ha
  obtain ⟨tb, pb, qb⟩ := hb
  obtain ⟨tc, pc, qc⟩ := hc
  exact ⟨_, pe_chain ho ho' pa pb pc hm, fun σ H F δ fp Q s h => t_chain (a := a) (b := b) (c := c) qa qb qc s h⟩
theorem dt_chain {op op' : CmpOp} {o o' : Op2} {a b c : Expr} {fa fb fc : Mo PyData} (ho : OpR X (compareOp op) (rV X.KW o)) (ho' : OpR X (compareOp op') (rV X.KW o')) (ha : DE X W a fa) (hb : DE X W b fb) (hc : DE X W c fc)
    (hm : lastMarks [op, op'] [b, c] = false := by with_unfolding_all rfl) : DT X W (.Compare a [op, op'] [b, c] pos) (tst (mChain o o' fa fb fc)) := by
  obtain ⟨ta, pa, qa⟩ := ha
  obtain ⟨tb, pb, qb⟩ := hb
  obtain ⟨tc, pc, qc⟩ := hc
  refine ⟨_, pt_chain ho ho' pa pb pc hm, fun σ H F δ fp Q s h => ?_⟩
  refine t_chain (a := a) (b := b) (c := c) qa qb qc s ((RPost.bind h).imp fun d δ1 F1 H1 fp1 e1 s1 h1 v rv => ?_)
  obtain ⟨b, rfl, h2⟩ := RPost.asB h1
  cases rv
  exact ⟨_, rfl, h2 F1 H1 fp1 (Ext.refl s1.inn) s1⟩
end
end DL
namespace DL
open PySem PySem.Spec PyProof.Rows L2
theorem RPost.impE {α : Type} {X : Cx} {W : WX} {σ : L2.St} {F H : Hp} {fp : List Addr} {r : Res α} {R R' : α → Env → Hp → Hp → List Addr → Prop} (h : RPost X W σ F H fp r R)
    (k : ∀ a δ' F' H' fp', r = .ok a δ' → Ext F H fp F' H' fp' → St3 X.KW F' H' δ' σ fp' → R a δ' F' H' fp' → R' a δ' F' H' fp') : RPost X W σ F H fp r R' := by
  cases r with
  | st => exact h
  | ok a δ' => exact fun F' H' fp' e' s => k _ _ _ _ _ rfl e' s (h F' H' fp' e' s)
  | ex c x δ' => exact h
theorem Res.bind_okE {α β : Type} {r : Res α} {k : α → Env → Res β} {b : β} {δ : Env} (h : r.bind k = .ok b δ) : ∃ a δ', r = .ok a δ' ∧ k a δ' = .ok b δ := by
  cases r with
  | st => cases h
  | ok a δ' => exact ⟨a, δ', rfl, h⟩
  | ex c x δ' => cases h
section
variable {X : Cx} {W : WX} {pos : Pos}
/-! ### arguments -/
structure DAs (X : Cx) (W : WX) (es : List Expr) (f : Mo (List PyData)) : Prop where
  da : DA X W es f
  len : ∀ δ ds δ', f δ = .ok ds δ' → ds.length = es.length
def mNil : Mo (List PyData) := fun δ => .ok [] δ
def mCons (f : Mo PyData) (g : Mo (List PyData)) : Mo (List PyData) := bnd f fun d => bnd g fun ds δ => .ok (d :: ds) δ
theorem da_nil : DAs X W [] mNil := ⟨⟨_, pa_nil, fun σ H F δ fp Q s h => h F H fp (Ext.refl s.inn) s [] .nil⟩, fun δ ds δ' h => by cases h; rfl⟩
theorem da_cons {e : Expr} {es : List Expr} {f : Mo PyData} {g : Mo (List PyData)} (ha : DE X W e f) (hb : DAs X W es g) (hs : starEach (e :: es) X.env = (false, eval e X.env) :: starEach es X.env := by rfl) : DAs X W (e :: es) (mCons f g) := by
  obtain ⟨⟨tb, pb, qb⟩, lb⟩ := hb
  obtain ⟨ta, pa, qa⟩ := ha
  refine ⟨⟨_, pa_cons pa pb hs, fun σ H F δ fp Q s h => ?_⟩, fun δ ds δ' h => ?_⟩
  · refine qa σ H F δ fp _ s ((RPost.bind h).imp fun x δ1 F1 H1 fp1 e1 s1 h1 v rv => ?_)
    refine qb σ H1 F1 δ1 fp1 _ s1 ((RPost.bind h1).imp fun ys δ2 F2 H2 fp2 e2 s2 h2 ws rw => ?_)
    exact h2 F2 H2 fp2 (Ext.refl s2.inn) s2 (v :: ws) (.cons (rv.mono e2.sub) rw)
  · obtain ⟨d, δ1, _, h⟩ := Res.bind_okE h
    obtain ⟨es', δ2, h1, h⟩ := Res.bind_okE h
    cases h
    rw [List.length_cons, lb _ _ _ h1, List.length_cons]
/-! ### displays -/
def mTup (f : Mo (List PyData)) : Mo PyData := bnd f fun ds δ => .ok (.tuple ds) δ
def mLst (f : Mo (List PyData)) : Mo PyData := bnd f fun ds δ => .ok (.list ds) δ
theorem de_tup {es : List Expr} {f : Mo (List PyData)} {x1} (h : DAs X W es f) (hl : es.length ≤ 1000 := by decide) : DE X W (.Tuple es x1 pos) (mTup f) := by
  obtain ⟨⟨t, p, q⟩, lb⟩ := h
  refine ⟨_, pe_tup p, fun σ H F δ fp Q s h => q σ H F δ fp _ s ((RPost.bind h).impE fun ds δ1 F1 H1 fp1 eq e1 s1 h1 vs rv => ?_)⟩
  refine ⟨Nat.le_of_lt (small1000 (by rw [rv.length, lb _ _ _ eq]; exact hl)), fun p hp => ?_⟩
  have g := Grow.laid (o := .tup vs) s1.inn hp
  exact h1 _ _ fp1 g.ext (s1.grow g) _ (.tup (.of upd_same) (rv.mono g.sub))
theorem de_lst {es : List Expr} {f : Mo (List PyData)} (h : DAs X W es f) (hl : es.length ≤ 1000 := by decide) : DE X W (.List es pos) (mLst f) := by
  obtain ⟨⟨t, p, q⟩, lb⟩ := h
  refine ⟨_, pe_lst p, fun σ H F δ fp Q s h => q σ H F δ fp _ s ((RPost.bind h).impE fun ds δ1 F1 H1 fp1 eq e1 s1 h1 vs rv => ?_)⟩
  refine ⟨Nat.le_of_lt (small1000 (by rw [rv.length, lb _ _ _ eq]; exact hl)), fun p hp => ?_⟩
  have g := Grow.laid (o := .lst vs) s1.inn hp
  exact h1 _ _ fp1 g.ext (s1.grow g) _ (.lst (.of upd_same) (rv.mono g.sub))
/-- a new thing at p is the taker's own -/
theorem own_new {σ : L2.St} {F H : Hp} {δ : Env} {fp : List Addr} {p : Addr} {o : HO} (s : St3 X.KW F H δ σ fp) (hp : H p = none) : Grow F H F (upd H p o) ∧ (fp ++ [p]).Nodup ∧ ∀ a ∈ [p], F a = none := by
  refine ⟨Grow.made s.inn hp, ?_, fun a h => ?_⟩
  · rw [List.nodup_append]
    refine ⟨s.nd, by simp, fun a h b h' z => ?_⟩
    have : b = p := by simpa using h'
    subst this; subst z
    exact s.rep.live a h hp
  · have : a = p := by simpa using h
    subst this
    exact (Same.free s.inn hp)
def vLst (f : Mo (List PyData)) : Mo Val := bnd f fun ds δ => .ok (.lst ds) δ
theorem Ext.less' {F H F' H' : Hp} {fp fp' : List Addr} (e : Ext F H fp F' H' (fp' ++ [])) : Ext F H fp F' H' fp' := ⟨e.keep, e.sub, e.inn, e.new, fun a h => e.fpn a (by simp [h])⟩
theorem Ext.made {F H : Hp} {fp : List Addr} {p : Addr} {o : HO} (e : Same F H) (hp : H p = none) : Ext F H fp F (upd H p o) (fp ++ [p]) :=
  ⟨fun a u q _ => (Grow.made e hp).same a u q, Same.refl _, (Grow.made e hp).inn, fun a u q n => (by rw [n] at q; cases q), fun a h => by
    rcases List.mem_append.mp h with z | z
    · exact .inl z
    · have : a = p := by simpa using z
      subst this; exact .inr hp⟩
theorem dv_lst {es : List Expr} {f : Mo (List PyData)} (h : DAs X W es f) (hl : es.length ≤ 1000 := by decide) : DV X W (.List es pos) (vLst f) := by
  obtain ⟨⟨t, p, q⟩, lb⟩ := h
  refine ⟨_, pe_lst p, fun σ H F δ fp Q s h => q σ H F δ fp _ s ((VPost.bind h).impE fun ds δ1 F1 H1 fp1 eq e1 s1 h1 vs rv => ?_)⟩
  refine ⟨Nat.le_of_lt (small1000 (by rw [rv.length, lb _ _ _ eq]; exact hl)), fun p hp => ?_⟩
  obtain ⟨g, nd, nf⟩ := own_new (o := .lst vs) s1 hp
  exact h1 _ _ fp1 _ [p] (Ext.made s1.inn hp) (s1.grow g) (.lst upd_same rv) nd nf
/-- a thing of one's own is data from then on -/
def frzV (x : Val) : Mo PyData := fun δ => Res.of x.vw δ
theorem frz_post {σ : L2.St} {F H F' H' : Hp} {δ' : Env} {fp fp' q : List Addr} {x : Val} {v : V} {d : PyData} (e : Ext F H fp F' H' (fp' ++ q)) (s : St3 X.KW F' H' δ' σ fp') (r : VRep X.KW F' H' x v q) (nd : (fp' ++ q).Nodup) (nf : ∀ a ∈ q, F' a = none) (ev : x.vw = some d) :
    ∃ F2, Same F' F2 ∧ Ext F H fp F2 H' fp' ∧ St3 X.KW F2 H' δ' σ fp' ∧ Rp X.KW F2 v d := by
  have one : ∀ (a : Addr) (o : HO), q = [a] → H' a = some o → Same F' (upd F' a o) ∧ Ext F H fp (upd F' a o) H' fp' ∧ St3 X.KW (upd F' a o) H' δ' σ fp' := by
    rintro a o rfl ho
    have hfa : F' a = none := nf a (by simp)
    have su : Same F' (upd F' a o) := fun b u h => by rw [upd_ne (fun z => by rw [z, hfa] at h; cases h)]; exact h
    have inn : Same (upd F' a o) H' := fun b u h => by
      by_cases z : b = a
      · subst z; rw [upd_same] at h; cases h; exact ho
      · rw [upd_ne z] at h; exact e.inn b u h
    refine ⟨su, ⟨e.keep, e.sub.trans su, inn, fun b u h n => ?_, fun b h => e.fpn b (by simp [h])⟩, ⟨s.rep.lift su fun _ _ _ h => h, inn, fun b h => ?_, s.nd⟩⟩
    · by_cases z : b = a
      · subst z; exact e.fpn b (by simp)
      · rw [upd_ne z] at h; exact e.new b u h n
    · have : b ≠ a := fun z => by
        subst z
        exact (List.nodup_append.mp nd).2.2 b h b (by simp) rfl
      rw [upd_ne this]; exact s.nof b h
  cases r with
  | d r => cases ev; exact ⟨F', Same.refl _, e.less' , s, r⟩
  | lst h r =>
    cases ev
    obtain ⟨h1, h2, h3⟩ := one _ _ rfl h
    exact ⟨_, h1, h2, h3, .lst (.of upd_same) (r.mono h1)⟩
  | dct h r =>
    cases ev
    obtain ⟨h1, h2, h3⟩ := one _ _ rfl h
    exact ⟨_, h1, h2, h3, .dct upd_same (r.mono h1)⟩
  | dcn h n r =>
    cases ev
    obtain ⟨h1, h2, h3⟩ := one _ _ rfl h
    exact ⟨_, h1, h2, h3, .dcn upd_same n (r.mono h1)⟩
  | obj _ _ _ => cases ev
theorem de_frz {e : Expr} {f : Mo Val} (h : DV X W e f) : DE X W e (bnd f frzV) := by
  obtain ⟨t, p, q⟩ := h
  refine ⟨t, p, fun σ H F δ fp Q s h => q σ H F δ fp _ s ?_⟩
  unfold bnd at h
  cases ef : f δ with
  | st => rw [ef] at h; exact False.elim h
  | ex c x δ' => rw [ef] at h; exact h
  | ok x δ' =>
    rw [ef] at h
    obtain ⟨d, ed, h2⟩ := RPost.of h
    intro F' H' fp' v q e1 s1 r nd nf
    obtain ⟨F2, _, e2, s2, r2⟩ := frz_post e1 s1 r nd nf ed
    exact h2 F2 H' fp' e2 s2 v r2
/-! ### calls of built-ins -/
abbrev OpC := List PyData → Option PyData
def mCall (o : OpC) (f : Mo (List PyData)) : Mo PyData := bnd f fun ds δ => Res.of (o ds) δ
theorem t_call {σ : L2.St} {H F : Hp} {δ : Env} {fp : List Addr} {Q : VK} {o : OpC} {ds : List PyData} {vs : List V} (s : St3 X.KW F H δ σ fp) (h : RPost X W σ F H fp (Res.of (o ds) δ) (fun d _ F' H' _ => ∀ v, Rp X.KW F' v d → Q v H')) (r : VwAll X.KW F H vs ds) : rC X.KW o vs H Q := by
  obtain ⟨z, ez, h3⟩ := RPost.of h
  exact ⟨F, ds, z, s.inn, r, ez, fun F' H' v' g r => h3 F' H' fp g.ext (s.grow g) v' r⟩
theorem de_callB {x : Str} {p : Pos} {id : String} {o : OpC} {e : Expr} {es : List Expr} {f : Mo (List PyData)} (hc : CallR X (.builtin id) (rC X.KW o)) (hg : Gl X x) (hm : X.mg x = none) (hv : bootBuiltins x = some (.builtin id)) (ha : DAs X W (e :: es) f)
    (hn : x ≠ "__name__" := by decide) (hdb : (x == ("__debug__" : Str)) = false := by decide) (he : starEach (e :: es) X.env = (false, eval e X.env) :: starEach es X.env := by rfl) (hpl : (backTo pos (starEach es X.env)).any (·.1) = false := by rfl) :
    DE X W (.Call (.Name x p) (e :: es) [] pos) (mCall o f) := by
  obtain ⟨⟨t, pt, q⟩, _⟩ := ha
  exact ⟨_, pe_callB hc hg hm hv pt hn hdb he hpl, fun σ H F δ fp Q s h => q σ H F δ fp _ s ((RPost.bind h).imp fun ds δ1 F1 H1 fp1 e1 s1 h1 vs rv => t_call s1 h1 rv.vw)⟩
theorem de_callTy {x : Str} {p : Pos} {T : String} {o : OpC} {e : Expr} {es : List Expr} {f : Mo (List PyData)} (hc : CallR X (.type T) (rC X.KW o)) (hg : Gl X x) (hm : X.mg x = none) (hv : bootBuiltins x = some (.type T)) (ha : DAs X W (e :: es) f)
    (hn : x ≠ "__name__" := by decide) (hdb : (x == ("__debug__" : Str)) = false := by decide) (he : starEach (e :: es) X.env = (false, eval e X.env) :: starEach es X.env := by rfl) (hpl : (backTo pos (starEach es X.env)).any (·.1) = false := by rfl) :
    DE X W (.Call (.Name x p) (e :: es) [] pos) (mCall o f) := by
  obtain ⟨⟨t, pt, q⟩, _⟩ := ha
  exact ⟨_, pe_callTy hc hg hm hv pt hn hdb he hpl, fun σ H F δ fp Q s h => q σ H F δ fp _ s ((RPost.bind h).imp fun ds δ1 F1 H1 fp1 e1 s1 h1 vs rv => t_call s1 h1 rv.vw)⟩
/-- one argument, a place -/
def mCallP (o : OpC) (g : Env → Option PyData) : Mo PyData := fun δ => Res.of ((g δ).bind fun d => o [d]) δ
theorem t_callP {σ : L2.St} {H F : Hp} {δ : Env} {fp : List Addr} {Q : VK} {o : OpC} {g : Env → Option PyData} {te : TE} (q : ∀ σ H F δ fp Q, St3 X.KW F H δ σ fp → (∃ d, g δ = some d ∧ ∀ v, Vw X.KW F H v d → Q v H) → te σ H Q)
    (s : St3 X.KW F H δ σ fp) (h : RPost X W σ F H fp (mCallP o g δ) (fun d _ F' H' _ => ∀ v, Rp X.KW F' v d → Q v H')) : tCB (rC X.KW o) (tCons te tNil) σ H Q := by
  obtain ⟨z, ez, h3⟩ := RPost.of h
  obtain ⟨d, ed, eo⟩ := Option.bind_eq_some_iff.mp ez
  exact q σ H F δ fp _ s ⟨d, ed, fun v rv => ⟨F, [d], z, s.inn, .cons rv .nil, eo, fun F' H' v' g r => h3 F' H' fp g.ext (s.grow g) v' r⟩⟩
theorem de_callBP {x : Str} {p : Pos} {id : String} {o : OpC} {e : Expr} {g : Env → Option PyData} (hc : CallR X (.builtin id) (rC X.KW o)) (hg : Gl X x) (hm : X.mg x = none) (hv : bootBuiltins x = some (.builtin id)) (ha : DPl X e g)
    (hn : x ≠ "__name__" := by decide) (hdb : (x == ("__debug__" : Str)) = false := by decide) (he : starEach (e :: []) X.env = (false, eval e X.env) :: starEach [] X.env := by rfl) (hpl : (backTo pos (starEach [] X.env)).any (·.1) = false := by rfl) :
    DE X W (.Call (.Name x p) [e] [] pos) (mCallP o g) := by
  obtain ⟨t, pt, q⟩ := ha
  exact ⟨_, pe_callB hc hg hm hv (pa_cons pt pa_nil he) hn hdb he hpl, fun σ H F δ fp Q s h => t_callP q s h⟩
theorem de_callTyP {x : Str} {p : Pos} {T : String} {o : OpC} {e : Expr} {g : Env → Option PyData} (hc : CallR X (.type T) (rC X.KW o)) (hg : Gl X x) (hm : X.mg x = none) (hv : bootBuiltins x = some (.type T)) (ha : DPl X e g)
    (hn : x ≠ "__name__" := by decide) (hdb : (x == ("__debug__" : Str)) = false := by decide) (he : starEach (e :: []) X.env = (false, eval e X.env) :: starEach [] X.env := by rfl) (hpl : (backTo pos (starEach [] X.env)).any (·.1) = false := by rfl) :
    DE X W (.Call (.Name x p) [e] [] pos) (mCallP o g) := by
  obtain ⟨t, pt, q⟩ := ha
  exact ⟨_, pe_callTy hc hg hm hv (pa_cons pt pa_nil he) hn hdb he hpl, fun σ H F δ fp Q s h => t_callP q s h⟩
end
end DL
namespace DL
open PySem PySem.Spec PyProof.Rows L2
def allB : List PyData → Option (List Bool)
  | [] => some []
  | .bool b :: r => (allB r).map (b :: ·)
  | _ => none
def cLen : OpC := fun ds => match ds with
  | [.list xs] => some (.int xs.length)
  | [.tuple xs] => some (.int xs.length)
  | [.str x] => some (.int x.length)
  | _ => none
def cAll : OpC := fun ds => match ds with
  | [.list xs] => (allB xs).map fun bs => .bool (bs.all id)
  | _ => none
def cAny : OpC := fun ds => match ds with
  | [.list xs] => (allB xs).map fun bs => .bool (bs.any id)
  | _ => none
def cAbs : OpC := fun ds => match ds with
  | [.int i] => some (.int (if i < 0 then -i else i))
  | _ => none
def cInt : OpC := fun ds => match ds with
  | [.int i] => some (.int i)
  | _ => none
def cMax : OpC := fun ds => match ds with
  | [.int i, .int j] => some (.int (if j > i then j else i))
  | _ => none
def cMin : OpC := fun ds => match ds with
  | [.int i, .int j] => some (.int (if j < i then j else i))
  | _ => none
def cListOf : OpC := fun ds => match ds with
  | [.list xs] => some (.list xs)
  | [.tuple xs] => some (.list xs)
  | _ => none
def cTupleOf : OpC := fun ds => match ds with
  | [.list xs] => some (.tuple xs)
  | [.tuple xs] => some (.tuple xs)
  | _ => none
section
variable {K : KW} {F H : Hp}
theorem VwAll.one {vs : List V} {d : PyData} (h : VwAll K F H vs [d]) : ∃ v, vs = [v] ∧ Vw K F H v d := by
  cases h with | cons a b => cases b; exact ⟨_, rfl, a⟩
theorem VwAll.two {vs : List V} {d e : PyData} (h : VwAll K F H vs [d, e]) : ∃ v w, vs = [v, w] ∧ Vw K F H v d ∧ Vw K F H w e := by
  cases h with | cons a b => cases b with | cons b c => cases c; exact ⟨_, _, rfl, a, b⟩
theorem allB_vals : ∀ {ds : List PyData} {bs : List Bool} {vs : List V}, allB ds = some bs → RpAll K F vs ds → vs = bs.map V.bl
  | [], _, _, h, .nil => by cases h; rfl
  | .bool b :: r, _, _, h, .cons a rr => by
    unfold allB at h
    obtain ⟨bs', h1, rfl⟩ := Option.map_eq_some_iff.mp h
    cases a
    rw [allB_vals h1 rr]
    rfl
end
section
variable {X : Cx}
theorem ok_len : CallR X (.builtin "len") (rC X.KW cLen) := by
  intro pins s σ H xs us Q I r ⟨F, ds, z, e, va, ho, q⟩
  unfold cLen at ho
  split at ho
  · cases ho
    obtain ⟨v, rfl, vv⟩ := va.one
    obtain ⟨a, ws, rfl, ha, ra⟩ := vv.list e
    exact call_len_seq pins s σ H _ us Q I r ⟨a, ws, rfl, .inl ha, by rw [ra.length]; exact q F H _ (Grow.refl e) (.int _)⟩
  · cases ho
    obtain ⟨v, rfl, vv⟩ := va.one
    obtain ⟨a, ws, rfl, ha, ra⟩ := vv.tup e
    exact call_len_seq pins s σ H _ us Q I r ⟨a, ws, rfl, .inr ha, by rw [ra.length]; exact q F H _ (Grow.refl e) (.int _)⟩
  · cases ho
    obtain ⟨v, rfl, vv⟩ := va.one
    obtain ⟨rfl, hz⟩ := vv.str
    exact call_len_str pins s σ H _ us Q I r ⟨_, rfl, hz, q F H _ (Grow.refl e) (.int _)⟩
  · cases ho
theorem ok_all (hc : X.calm = true) : CallR X (.builtin "all") (rC X.KW cAll) := by
  intro pins s σ H xs us Q I r ⟨F, ds, z, e, va, ho, q⟩
  unfold cAll at ho
  split at ho
  · obtain ⟨bs, hb, rfl⟩ := Option.map_eq_some_iff.mp ho
    obtain ⟨v, rfl, vv⟩ := va.one
    obtain ⟨a, ws, rfl, ha, ra⟩ := vv.list e
    rw [allB_vals hb ra] at ha
    exact cr_all hc pins s σ H _ us Q I r ⟨a, bs, rfl, ha, q F H _ (Grow.refl e) (.bl _)⟩
  · cases ho
theorem ok_any (hc : X.calm = true) : CallR X (.builtin "any") (rC X.KW cAny) := by
  intro pins s σ H xs us Q I r ⟨F, ds, z, e, va, ho, q⟩
  unfold cAny at ho
  split at ho
  · obtain ⟨bs, hb, rfl⟩ := Option.map_eq_some_iff.mp ho
    obtain ⟨v, rfl, vv⟩ := va.one
    obtain ⟨a, ws, rfl, ha, ra⟩ := vv.list e
    rw [allB_vals hb ra] at ha
    exact cr_any hc pins s σ H _ us Q I r ⟨a, bs, rfl, ha, q F H _ (Grow.refl e) (.bl _)⟩
  · cases ho
theorem ok_abs : CallR X (.builtin "abs") (rC X.KW cAbs) := by
  intro pins s σ H xs us Q I r ⟨F, ds, z, e, va, ho, q⟩
  unfold cAbs at ho
  split at ho
  · cases ho
    obtain ⟨v, rfl, vv⟩ := va.one
    obtain rfl := vv.int
    exact call_abs pins s σ H _ us Q I r ⟨_, rfl, q F H _ (Grow.refl e) (.int _)⟩
  · cases ho
theorem ok_int : CallR X (.type "int") (rC X.KW cInt) := by
  intro pins s σ H xs us Q I r ⟨F, ds, z, e, va, ho, q⟩
  unfold cInt at ho
  split at ho
  · cases ho
    obtain ⟨v, rfl, vv⟩ := va.one
    obtain rfl := vv.int
    exact call_int1 pins s σ H _ us Q I r (.inl ⟨_, rfl, q F H _ (Grow.refl e) (.int _)⟩)
  · cases ho
theorem ok_max (hc : X.calm = true) : CallR X (.builtin "max") (rC X.KW cMax) := by
  intro pins s σ H xs us Q I r ⟨F, ds, z, e, va, ho, q⟩
  unfold cMax at ho
  split at ho
  · cases ho
    obtain ⟨v, w, rfl, vv, vw⟩ := va.two
    obtain rfl := vv.int
    obtain rfl := vw.int
    exact call_max2 hc pins s σ H _ us Q I r ⟨_, _, rfl, q F H _ (Grow.refl e) (.int _)⟩
  · cases ho
theorem ok_min (hc : X.calm = true) : CallR X (.builtin "min") (rC X.KW cMin) := by
  intro pins s σ H xs us Q I r ⟨F, ds, z, e, va, ho, q⟩
  unfold cMin at ho
  split at ho
  · cases ho
    obtain ⟨v, w, rfl, vv, vw⟩ := va.two
    obtain rfl := vv.int
    obtain rfl := vw.int
    exact call_min2 hc pins s σ H _ us Q I r ⟨_, _, rfl, q F H _ (Grow.refl e) (.int _)⟩
  · cases ho
theorem ok_listOf : CallR X (.type "list") (rC X.KW cListOf) := by
  intro pins s σ H xs us Q I r ⟨F, ds, z, e, va, ho, q⟩
  unfold cListOf at ho
  split at ho
  · cases ho
    obtain ⟨v, rfl, vv⟩ := va.one
    obtain ⟨a, ws, rfl, ha, ra⟩ := vv.list e
    exact call_list_of pins s σ H _ us Q I r ⟨a, ws, rfl, .inl ha, fun l hl => q _ _ _ (Grow.laid e hl) (.lst (.of upd_same) (ra.mono (Grow.laid e hl).sub))⟩
  · cases ho
    obtain ⟨v, rfl, vv⟩ := va.one
    obtain ⟨a, ws, rfl, ha, ra⟩ := vv.tup e
    exact call_list_of pins s σ H _ us Q I r ⟨a, ws, rfl, .inr ha, fun l hl => q _ _ _ (Grow.laid e hl) (.lst (.of upd_same) (ra.mono (Grow.laid e hl).sub))⟩
  · cases ho
theorem ok_tupleOf : CallR X (.type "tuple") (rC X.KW cTupleOf) := by
  intro pins s σ H xs us Q I r ⟨F, ds, z, e, va, ho, q⟩
  unfold cTupleOf at ho
  split at ho
  · cases ho
    obtain ⟨v, rfl, vv⟩ := va.one
    obtain ⟨a, ws, rfl, ha, ra⟩ := vv.list e
    exact call_tuple_of pins s σ H _ us Q I r ⟨a, ws, rfl, .inl ⟨ha, fun l hl => q _ _ _ (Grow.laid e hl) (.tup (.of upd_same) (ra.mono (Grow.laid e hl).sub))⟩⟩
  · cases ho
    obtain ⟨v, rfl, vv⟩ := va.one
    cases vv with
    | dat rr =>
      cases rr with
      | tup ha ra => exact call_tuple_of pins s σ H _ us Q I r ⟨_, _, rfl, .inr ⟨sqT_mono e ha, q F H _ (Grow.refl e) (.tup ha ra)⟩⟩
  · cases ho
end
/-! ### isinstance of a built-in class -/
def tyName : PyData → String
  | .none => "NoneType"
  | .bool _ => "bool"
  | .int _ => "int"
  | .str _ => "str"
  | .list _ => "list"
  | .tuple _ => "tuple"
  | .dict _ => "dict"
def isTyN (T n : String) : Bool := (n == T) || (n == "bool" && T == "int")
def isTy (T : String) (d : PyData) : Bool := isTyN T (tyName d)
section
variable {X : Cx} {W : WX} {pos : Pos}
/-- what isinstance asks of a value here: as HandS says, or a dict whose keys are tuples -/
def TyN (K : PySem.W.Frag) (H : Hp) (v : V) (t : Value) : Prop := TyX K H v t ∨ ∃ a w ks, v = .ref a ∧ H a = some (dnO w a ks) ∧ t = .type "dict"
def rIsiN (K : PySem.W.Frag) : List V → Hp → VK → Prop := fun xs H Q => ∃ (x c : V) (t u : Value) (b : Bool), xs = [x, c] ∧ ClsV c u ∧ TyN K H x t ∧ PySem.W.kitOne K t u = some b ∧ Q (.bl b) H
theorem call_isiN {X : Cx} : CallR X (.builtin "isinstance") (rIsiN X.K) := by
  intro pins s σ H xs us Q I r h
  obtain ⟨x, c, t, u, b, rfl, k, ty, e, q⟩ := h
  obtain ⟨u1, u2, rfl, r1, r2⟩ := vals2 r
  have e2 := k.eq r2
  subst e2
  rcases ty with ty | ⟨a, w, ks, rfl, ha, rfl⟩
  · obtain ⟨P, Z, p, hx⟩ := kit_of I r1 ty
    exact PySem.W.kia_one Z I.kIn p e hx fun tk => ⟨.bl b, H, I.tok tk, rfl, q⟩
  · cases (show u1 = Value.ref a from r1)
    obtain ⟨⟨_, _, ys, _, o, es, ep, h1, h2, _⟩, _, _⟩ := I.hok _ _ ha
    exact PySem.W.kia_one PySem.W.kitx_dict I.kIn ⟨o, h1, h2.1⟩ e (fun z => nomatch z) fun tk => ⟨.bl b, H, I.tok tk, rfl, q⟩
theorem kit_all (T : String) (hT : T ∈ ["str", "int", "bool", "tuple", "list", "dict"]) (d : PyData) : kitB (tyName d) T = some (isTy T d) := by
  have k : ∀ T ∈ ["str", "int", "bool", "tuple", "list", "dict"], ∀ n ∈ ["NoneType", "bool", "int", "str", "list", "tuple", "dict"], kitB n T = some (isTyN T n) := by decide +kernel
  exact k T hT (tyName d) (by cases d <;> simp [tyName])
def mIsi (T : String) (f : Mo PyData) : Mo PyData := bnd f fun d δ => .ok (.bool (isTy T d)) δ
end
end DL
/-! ### enumerate(a tuple), at the library's level -/
namespace PySem
open Sem (wp)
open AutoSeq1 (wpAny_loadPart')
set_option maxHeartbeats 1000000 in
theorem meets_enumerate_newT (l : Addr) (items : Array Value) (n : Nat) (dct : Option Addr) (sl : Array (Option Value)) :
    Meets (Builtin.«enumerate.__new__» ⟨[.type "enumerate", .ref l], []⟩) (fun _ R s => s.heap.get? l = some { cls := .type "tuple", dict := dct, data := .seq items n, slots := sl } ∧
      R (.ok (.ret (.ref (s.heap.push { cls := .type "tuple_iterator", data := .fields #[.ref l, .int 0 0] }).objs.size)))
        { s with heap := (s.heap.push { cls := .type "tuple_iterator", data := .fields #[.ref l, .int 0 0] }).push { cls := .type "enumerate", data := .fields #[.none, .bool false, .ref s.heap.objs.size, rawInt 0, .none, .none] } }) :=
  .of_wp fun prog w A R s h => by
    obtain ⟨hp, g, d, tk, os⟩ := s; obtain ⟨hl, h⟩ := h
    have hsub := sub_enumerate
    have hL : Heap.IsTuple (Shared.heap ⟨hp, g, d, tk, os⟩) l items := ⟨_, hl, rfl, n, rfl⟩
    wp_walk using wpAny_loadPart' hl
    refine wpAny_stack_any fun st => wpAny_pure ?_
    split
    · rename_i c _ _ _ _ _
      cases (c == Value.type "enumerate")
      · wp_walk using wpAny_loadPart' hl, wpAny_pyIter_tuple hL
        exact ⟨_, rfl, h⟩
      · wp_walk using wpAny_loadPart' hl, wpAny_pyIter_tuple hL
        exact ⟨_, rfl, h⟩
    · wp_walk using wpAny_loadPart' hl, wpAny_pyIter_tuple hL
      exact ⟨_, rfl, h⟩
section
variable {prog : Program} {w : World} {A : Around} {E : Value → Shared → Prop} {s : Shared}
theorem call_enumerate_tuple {l : Addr} {items : Array Value} {Q : Value → Shared → Prop} (hL : s.heap.IsTuple l items)
    (h : ∀ h', IsEnum h' (s.heap.objs.size + 1) s.heap.objs.size 0 .none → h'.IsTupleIter s.heap.objs.size l 0 → h'.objs.size = s.heap.objs.size + 2 →
      (∀ b o, s.heap.get? b = some o → h'.get? b = some o) → Q (.ref (s.heap.objs.size + 1)) { s with heap := h' }) :
    wpAny (model prog w) A (call (.type "enumerate") [.ref l]) Q E s := by
  obtain ⟨⟨c, dct, dt, sl⟩, hl, hc, n, hd⟩ := hL
  replace hc : c = .type "tuple" := hc
  replace hd : dt = .seq items n := hd
  subst hc hd
  refine callType_new F.called_enumerate (by decide) (F.typeCall_enumerate_1 _) (F.newCall_enumerate_1 _) (fun obj => F.args_object_init_2 obj _) F.entry_enumerate_new
    (meets_enumerate_newT l items n dct sl) ⟨hl, ?_⟩
  have hz : (s.heap.push { cls := .type "tuple_iterator", data := .fields #[.ref l, .int 0 0] }).objs.size = s.heap.objs.size + 1 := Heap.size_push ..
  show _ ∧ _
  rw [hz]
  have he : IsEnum ((s.heap.push { cls := .type "tuple_iterator", data := .fields #[.ref l, .int 0 0] }).push
      { cls := .type "enumerate", data := .fields #[.none, .bool false, .ref s.heap.objs.size, rawInt 0, .none, .none] }) (s.heap.objs.size + 1) s.heap.objs.size 0 .none := by
    have := Heap.get?_push_size (s.heap.push { cls := .type "tuple_iterator", data := .fields #[.ref l, .int 0 0] })
      (o := { cls := .type "enumerate", data := .fields #[.none, .bool false, .ref s.heap.objs.size, rawInt 0, .none, .none] }) rfl
    rw [hz] at this; exact this
  refine ⟨⟨_, he, rfl⟩, h _ he ⟨_, Heap.get?_push_of_some _ (Heap.get?_push_size _ rfl), rfl, rfl⟩ (by rw [Heap.size_push, hz]) fun b o x => Heap.get?_push_of_some _ (Heap.get?_push_of_some _ x)⟩
end
end PySem
namespace DL
open PySem PySem.Spec PyProof.Rows L2
def IteT (K : PySem.W.Frag) (a : Addr) (n : Nat) : It :=
  ⟨fun i H => ∃ (xs : List V) (x : V), SqT K H a xs ∧ xs.length = n ∧ xs[i]? = some x, fun i H v H' => ∃ T x, v = .ref T ∧ H T = none ∧ H' = upd H T (.tup [.int (i : Nat), x]) ∧ ∀ xs, SqT K H a xs → xs[i]? = some x, fun i H => ∃ xs : List V, SqT K H a xs ∧ xs.length = n ∧ n ≤ i⟩
theorem turn_enumT {P : Program} {w : World} {K : PySem.W.Frag} {elts : List Expr} {kk : Nat} {tpos : Pos} (a e it : Addr) (n : Nat) (hia : a ≠ it) (hea : a ≠ e) :
    Turn P w K (.Tuple elts kk tpos) (IteT K a n) [e, it] e (fun i h => (∃ old, IsEnum h e it ((i : Nat) : Int) old) ∧ h.IsTupleIter it a i ∧ e ≠ it ∧ i ≤ n) where
  mem := by simp
  obj := fun i h st b hb => by
    obtain ⟨⟨old, he⟩, ⟨o, ho, hc, hd⟩, _⟩ := st
    have e' : b = e ∨ b = it := by simpa using hb
    rcases e' with z | z
    · rw [z]; exact ⟨_, he, fun v q => nomatch q⟩
    · rw [z]; exact ⟨o, ho, fun v q => by rw [hd] at q; cases q⟩
  keep := fun i h h' st k => let ⟨⟨old, he⟩, ⟨o, ho, hc, hd⟩, hne⟩ := st; ⟨⟨old, k e (by simp) _ he⟩, ⟨o, k it (by simp) o ho, hc, hd⟩, hne⟩
  item := by
    intro X hP hw hK hc i pins s σ H E I hf st hg
    subst hP hw hK
    obtain ⟨⟨old, he⟩, hit, hne, hin⟩ := st
    obtain ⟨xs, x, hq, hxn, hx⟩ := hg
    obtain ⟨its, rv, p, hz⟩ := I.tuple hq
    obtain ⟨u, hu, ru⟩ := rv.get hx
    have hel : e < s.heap.objs.size := Heap.lt_size he
    have hil : it < s.heap.objs.size := by obtain ⟨_, q, _⟩ := hit; exact Heap.lt_size q
    have ht : s.heap.IsTuple a its.toArray := p
    have hlt : i < its.toArray.size := by
      rw [List.size_toArray]
      exact (List.getElem?_eq_some_iff.mp hu).1
    have D := Draws.tuple (prog := X.prog) (w := X.w) (A := X.A.in1) (show X.A.in1.handled = none from I.ok.hd hc) it a hia its.toArray
    refine wpAny_pyNext_enum_itemD D he ⟨hit, ht⟩ hlt hne (by simp only [List.mem_cons, List.not_mem_nil, or_false, not_or]; exact ⟨hne, Ne.symm hea⟩) fun x' h' tk hPx ho hst' hT hsz hk => ?_
    obtain rfl : x' = u := by
      have : its.toArray[i]? = some u := by simpa using hu
      exact Option.some.inj (hPx.symm.trans this)
    obtain ⟨hit', _⟩ := hst'
    refine ⟨_, rfl, wpAny_letOwnedTupleGo_enum (s := { s with heap := h', toks := tk + 1 }) ho fun h'' he' sb => ?_⟩
    have hT2 : h''.get? s.heap.objs.size = some { cls := .type "tuple", data := .seq #[.int i tk, x'] } := (sb.2 _ (Nat.ne_of_gt hel)).trans hT
    have new : ObjOk X.prog X.w (upd H s.heap.objs.size (.tup [.int (i : Nat), x])) h'' s.heap.objs.size (.tup [.int (i : Nat), x]) :=
      ⟨by show 2 ≤ sizeLine; decide, [.int i tk, x'], .cons ⟨_, rfl⟩ (.cons ru .nil), ⟨_, hT2, rfl, _, rfl⟩⟩
    have I1 : L2.Inv X pins σ (upd H s.heap.objs.size (.tup [.int (i : Nat), x])) { s with heap := h'', toks := tk + 1 } :=
      I.turnedNew (ch := [e, it]) (fun b ob hb q => (sb.2 b (fun z => hb (by simp [z]))).trans (hk b ob (fun z => hb (by simp [z])) (fun z => hb (by simp [z])) q)) hf (Nat.le_refl _) new
    refine ⟨.ref s.heap.objs.size, _, I1, rfl, ⟨_, x, rfl, I.hok.fresh (Nat.le_refl _), rfl, fun ys hy => by rw [I.tuple_inj hy hq]; exact hx⟩, ⟨⟨x', ?_⟩, ?_, hne, by have := (List.getElem?_eq_some_iff.mp hx).1; omega⟩, fun b hb => ?_⟩
    · have e1 : ((i + 1 : Nat) : Int) = (i : Int) + 1 := by omega
      rw [e1]; exact he'
    · obtain ⟨o, q1, q2, q3⟩ := hit'
      exact ⟨o, (sb.2 it (Ne.symm hne)).trans q1, q2, q3⟩
    · have hb' : b < s.heap.objs.size := by
        have e' : b = e ∨ b = it := by simpa using hb
        rcases e' with z | z
        · rw [z]; exact hel
        · rw [z]; exact hil
      rw [upd_ne (Nat.ne_of_lt hb')]
      exact (hf b hb).1
  done := by
    intro X hP hw hK hc i pins s σ H E I hf st hg
    subst hP hw hK
    obtain ⟨⟨old, he⟩, hit, hne, hin⟩ := st
    obtain ⟨xs, hq, hxn, hx⟩ := hg
    obtain ⟨its, rv, p, hz⟩ := I.tuple hq
    have ht : s.heap.IsTuple a its.toArray := p
    obtain ⟨f0, f1, f2, f3, f4, f5⟩ := hf it (by simp)
    have hl := rv.length
    have D := Draws.tuple (prog := X.prog) (w := X.w) (A := X.A.in1) (show X.A.in1.handled = none from I.ok.hd hc) it a hia its.toArray
    have hi : i = its.toArray.size := by rw [List.size_toArray]; omega
    subst hi
    exact wpAny_pyNext_enum_endD D he ⟨hit, ht⟩ fun h' eb => ⟨rfl, I.turned (t' := s.toks) (fun b o hb q => eb b o hb q) f0 f1 f3 f4 f5⟩
  self := fun A i s Q E st h => let ⟨⟨_, he⟩, _⟩ := st; wpAny_pyIter_enum he h
end DL
namespace DL
open PySem PySem.Spec PyProof.Rows L2
section
variable {X : Cx} {W : WX} {pos : Pos}
/-! ### slices -/
def cutD (xs : List PyData) (lo hi : Option Int) : List PyData := (xs.drop (HT.sIx xs.length 0 lo)).take (HT.sIx xs.length xs.length hi - HT.sIx xs.length 0 lo)
def oSlice (x : PyData) (lo hi : Option Int) : Option PyData := match x with
  | .list xs => some (.list (cutD xs lo hi))
  | .tuple xs => some (.tuple (cutD xs lo hi))
  | .str z => some (.str (cutS z lo hi))
  | _ => none
theorem RpAll.cut {K : KW} {F : Hp} {vs : List V} {ds : List PyData} (r : RpAll K F vs ds) (lo hi : Option Int) : RpAll K F (cutV vs lo hi) (cutD ds lo hi) := by
  unfold cutV cutD
  rw [r.length]
  exact (r.drop _).take _
theorem cutS_length (z : Str) (lo hi : Option Int) : (cutS z lo hi).length ≤ z.length := by
  unfold cutS
  show (List.toArray _).size ≤ z.cps.size
  rw [List.size_toArray, List.length_take, List.length_drop, Array.length_toList]
  omega
def rSlV (K : KW) : V → Option Int → Option Int → Hp → VK → Prop := fun x lo hi H Q => ∃ F d z, Same F H ∧ Vw K F H x d ∧ oSlice d lo hi = some z ∧ ∀ F' H' v, Grow F H F' H' → Rp K F' v z → Q v H'
theorem ok_slice : SlR X (rSlV X.KW) := by
  intro pins s σ H x v vl vu lo hi sl Q I rx hs pl pu ⟨F, d, z, e, vx, ho, q⟩
  cases d with
  | list xs =>
    cases ho
    obtain ⟨a, ws, rfl, ha, ra⟩ := vx.list e
    exact sl_list pins s σ H _ v vl vu lo hi sl Q I rx hs pl pu ⟨a, ws, rfl, ha, fun p hp => q _ _ _ (Grow.laid e hp) (.lst (.of upd_same) ((ra.cut lo hi).mono (Grow.laid e hp).sub))⟩
  | tuple xs =>
    cases ho
    obtain ⟨a, ws, rfl, ha, ra⟩ := vx.tup e
    refine sl_tupA pins s σ H _ v vl vu lo hi sl Q I rx hs pl pu ⟨a, ws, rfl, ha, fun hw => ?_, fun _ p hp => q _ _ _ (Grow.laid e hp) (.tup (.of upd_same) ((ra.cut lo hi).mono (Grow.laid e hp).sub))⟩
    have ec : cutD xs lo hi = xs := by
      rw [ra.length] at hw
      unfold cutD
      rw [hw.1, hw.2]
      simp
    rw [ec] at q
    cases vx with
    | dat r => exact q F H _ (Grow.refl e) r
  | str zz =>
    cases ho
    obtain ⟨rfl, hz⟩ := vx.str
    exact sl_str pins s σ H _ v vl vu lo hi sl Q I rx hs pl pu ⟨zz, rfl, hz, q F H _ (Grow.refl e) (.str _ (Nat.le_trans (cutS_length zz lo hi) hz))⟩
  | none => cases ho
  | bool _ => cases ho
  | int _ => cases ho
  | dict _ => cases ho
def DO (X : Cx) (W : WX) (e : Option Expr) (f : Mo (Option Int)) : Prop := ∃ t, PO X e t ∧ ∀ σ H F δ fp (Q : Option Int → Hp → Prop), St3 X.KW F H δ σ fp → RPost X W σ F H fp (f δ) (fun o _ _ H' _ => Q o H') → t σ H Q
def oNo : Mo (Option Int) := fun δ => .ok none δ
def oSo (f : Mo PyData) : Mo (Option Int) := bnd (bnd f asI) fun i δ => .ok (some i) δ
theorem do_none : DO X W none oNo := ⟨_, po_none, fun σ H F δ fp Q s h => h F H fp (Ext.refl s.inn) s⟩
theorem do_some {e : Expr} {f : Mo PyData} (h : DE X W e f) : DO X W (some e) (oSo f) := by
  obtain ⟨t, p, q⟩ := h
  refine ⟨_, po_some p, fun σ H F δ fp Q s h => q σ H F δ fp _ s ((RPost.bind (RPost.bind h)).imp fun d δ1 F1 H1 fp1 e1 s1 h1 v rv => ?_)⟩
  obtain ⟨b, rfl, h1⟩ := RPost.asI h1
  cases rv
  exact ⟨b, rfl, h1 F1 H1 fp1 (Ext.refl s1.inn) s1 F1 H1 fp1 (Ext.refl s1.inn) s1⟩
def mSlice (f : Mo PyData) (l h : Mo (Option Int)) : Mo PyData := bnd f fun d => bnd l fun lo => bnd h fun hi δ => Res.of (oSlice d lo hi) δ
theorem de_slice {e : Expr} {lo hi : Option Expr} {f : Mo PyData} {l h : Mo (Option Int)} {p2 : Pos} (he : DE X W e f) (hl : DO X W lo l) (hh : DO X W hi h) : DE X W (.Subscript e (.Slice lo hi none p2) pos) (mSlice f l h) := by
  obtain ⟨t, p, q⟩ := he
  obtain ⟨tl, pl, ql⟩ := hl
  obtain ⟨th, ph, qh⟩ := hh
  refine ⟨_, pe_slice ok_slice p pl ph, fun σ H F δ fp Q s h => q σ H F δ fp _ s ((RPost.bind h).imp fun d δ1 F1 H1 fp1 e1 s1 h1 v rv => ?_)⟩
  refine ql σ H1 F1 δ1 fp1 _ s1 ((RPost.bind h1).imp fun lo δ2 F2 H2 fp2 e2 s2 h2 => ?_)
  refine qh σ H2 F2 δ2 fp2 _ s2 ((RPost.bind h2).imp fun hi δ3 F3 H3 fp3 e3 s3 h3 => ?_)
  obtain ⟨z, ez, h4⟩ := RPost.of h3
  exact ⟨F3, d, z, s3.inn, .dat (rv.mono (e2.sub.trans e3.sub)), ez, fun F' H' v' g r => h4 F' H' fp3 g.ext (s3.grow g) v' r⟩
/-- of a name's own list, the parts plain -/
def mSliceN (i : Nat) (l h : Mo (Option Int)) : Mo PyData := fun δ => (Res.of (gVar i δ) δ).bind fun _ => bnd l fun lo => bnd h fun hi δ => Res.of ((gVar i δ).bind fun d => oSlice d lo hi) δ
theorem de_sliceN {e : Expr} {lo hi : Option Expr} {i : Nat} {l h : Mo (Option Int)} {p2 : Pos} (he : PE X e (tVar i)) (hl : DO X W lo l) (hh : DO X W hi h) : DE X W (.Subscript e (.Slice lo hi none p2) pos) (mSliceN i l h) := by
  obtain ⟨tl, pl, ql⟩ := hl
  obtain ⟨th, ph, qh⟩ := hh
  refine ⟨_, pe_slice ok_slice he pl ph, fun σ H F δ fp Q s h => ?_⟩
  obtain ⟨x0, ex0, h0⟩ := RPost.of (RPost.bind h)
  have h1 := h0 F H fp (Ext.refl s.inn) s
  obtain ⟨v, ev, _⟩ := gVar_at s.rep ex0
  refine ⟨v, ev, ?_⟩
  refine ql σ H F δ fp _ s ((RPost.bind h1).imp fun lo δ2 F2 H2 fp2 e2 s2 h2 => ?_)
  refine qh σ H2 F2 δ2 fp2 _ s2 ((RPost.bind h2).imp fun hi δ3 F3 H3 fp3 e3 s3 h3 => ?_)
  obtain ⟨z, ez, h4⟩ := RPost.of h3
  obtain ⟨d, ed, eo⟩ := Option.bind_eq_some_iff.mp ez
  obtain ⟨v', e, r⟩ := gVar_at s3.rep ed
  rw [ev] at e
  cases e
  exact ⟨F3, d, z, s3.inn, r, eo, fun F' H' v' g r => h4 F' H' fp3 g.ext (s3.grow g) v' r⟩
/-! ### what is walked -/
structure Walks (K : KW) (J : It) (F : Hp) (ds : List PyData) : Prop where
  len : ds.length ≤ sizeLine
  go : ∀ i H, Same F H → i < ds.length → J.go i H
  stop : ∀ i H, Same F H → ds.length ≤ i → J.stop i H
  yld : ∀ i F1 H x H', Same F F1 → Same F1 H → i < ds.length → J.yld i H x H' → ∃ F2 d, Grow F1 H F2 H' ∧ ds[i]? = some d ∧ Rp K F2 x d
def DI (X : Cx) (W : WX) (tg e : Expr) (f : Mo (List PyData)) : Prop := ∃ wi, PI X tg e wi ∧ ∀ σ H F δ fp (R : It → Hp → Prop), St3 X.KW F H δ σ fp → RPost X W σ F H fp (f δ) (fun ds _ F' H' _ => ∀ J, Walks X.KW J F' ds → R J H') → wi σ H R
def itemsOf : PyData → Option (List PyData)
  | .list xs => some xs
  | .tuple xs => some xs
  | .str z => some (z.cps.toList.map fun c => .str ⟨#[c]⟩)
  | _ => none
theorem RpAll.at {K : KW} {F : Hp} {vs : List V} {ds : List PyData} {i : Nat} (r : RpAll K F vs ds) (h : i < ds.length) : ∃ v d, vs[i]? = some v ∧ ds[i]? = some d ∧ Rp K F v d := by
  have h2 : i < vs.length := by rw [r.length]; exact h
  exact ⟨_, _, List.getElem?_eq_getElem h2, List.getElem?_eq_getElem h, r.get (List.getElem?_eq_getElem h2) (List.getElem?_eq_getElem h)⟩
theorem walks_list {K : KW} {F : Hp} {a : Addr} {vs : List V} {ds : List PyData} (hl : ds.length ≤ sizeLine) (h : SqL K F a vs) (r : RpAll K F vs ds) : Walks K (Itl K a) F ds where
  len := hl
  go := fun i H e hi => by
    obtain ⟨v, d, h1, _⟩ := r.at hi
    exact ⟨vs, v, e.seq h, h1⟩
  stop := fun i H e hi => ⟨vs, e.seq h, by rw [r.length]; exact hi⟩
  yld := fun i F1 H x H' e1 e2 hi y => by
    obtain ⟨rfl, y⟩ := y
    obtain ⟨v, d, h1, h2, h3⟩ := r.at hi
    have := y vs ((e1.trans e2).seq h)
    rw [h1] at this; cases this
    exact ⟨F1, d, Grow.refl e2, h2, h3.mono e1⟩
theorem walks_tup {K : KW} {F : Hp} {a : Addr} {vs : List V} {ds : List PyData} (hl : ds.length ≤ sizeLine) (h : SqT K F a vs) (r : RpAll K F vs ds) : Walks K (Itt K a) F ds where
  len := hl
  go := fun i H e hi => by
    obtain ⟨v, d, h1, _⟩ := r.at hi
    exact ⟨vs, v, sqT_mono e h, h1⟩
  stop := fun i H e hi => ⟨vs, sqT_mono e h, by rw [r.length]; exact hi⟩
  yld := fun i F1 H x H' e1 e2 hi y => by
    obtain ⟨rfl, y⟩ := y
    obtain ⟨v, d, h1, h2, h3⟩ := r.at hi
    have := y vs (sqT_mono (e1.trans e2) h)
    rw [h1] at this; cases this
    exact ⟨F1, d, Grow.refl e2, h2, h3.mono e1⟩
theorem walks_str {K : KW} {F : Hp} {z : Str} (hl : z.length ≤ sizeLine) : Walks K (Its z) F (z.cps.toList.map fun c => .str ⟨#[c]⟩) where
  len := by rw [List.length_map, Array.length_toList]; exact hl
  go := fun i H e hi => by rw [List.length_map, Array.length_toList] at hi; exact hi
  stop := fun i H e hi => by rw [List.length_map, Array.length_toList] at hi; exact hi
  yld := fun i F1 H x H' e1 e2 hi y => by
    obtain ⟨rfl, c, hc, rfl⟩ := y
    refine ⟨F1, .str ⟨#[c]⟩, Grow.refl e2, ?_, .str _ (by rw [sizeLine_eq]; exact (by decide : 1 ≤ 16777216))⟩
    rw [List.getElem?_map, Array.getElem?_toList, hc]
    rfl
theorem walks_range {K : KW} {F : Hp} {lo : Int} {n : Nat} (hl : n ≤ sizeLine) : Walks K (Itr lo n) F ((List.range n).map fun (i : Nat) => .int (lo + (i : Int))) where
  len := by rw [List.length_map, List.length_range]; exact hl
  go := fun i H e hi => by rw [List.length_map, List.length_range] at hi; exact hi
  stop := fun i H e hi => by rw [List.length_map, List.length_range] at hi; exact hi
  yld := fun i F1 H x H' e1 e2 hi y => by
    obtain ⟨rfl, rfl⟩ := y
    rw [List.length_map, List.length_range] at hi
    exact ⟨F1, .int (lo + (i : Int)), Grow.refl e2, by rw [List.getElem?_map, List.getElem?_range hi]; rfl, .int _⟩
/-- data walked: a list, a tuple, a text -/
def iData (K : KW) (te : TE) : TI := fun σ H R => te σ H fun x H1 => ∃ F d ds, Same F H1 ∧ Rp K F x d ∧ itemsOf d = some ds ∧ ∀ J, Walks K J F ds → R J H1
theorem pi_data {tg e : Expr} {te : TE} (he : PE X e te) : PI X tg e (iData X.KW te) := by
  refine ⟨fun pins s σ H R I h => ?_⟩
  refine thn (he.run pins s σ H _ I h) fun v s1 ⟨x, H1, I1, r1, F, d, ds, e, rx, hi, q⟩ => ?_
  cases rx with
  | lst hs ra =>
    cases hi
    cases r1
    obtain ⟨its, rv, p, hz⟩ := I1.list (e.seq hs)
    refine wpAny_pyIter_list p.isList ?_
    refine ⟨s1.heap.objs.size, [s1.heap.objs.size], _, _, H1, rfl, I1.kept (t' := s1.toks) fun b o e => Heap.get?_push_of_some _ e, turn_list _ _, ⟨_, Heap.get?_push_size _ rfl, rfl, rfl⟩, fun b hb => ?_, q _ (walks_list (by rw [← ra.length]; exact hz) hs ra)⟩
    have e : b = s1.heap.objs.size := by simpa using hb
    subst e
    exact I1.fpOk (Nat.le_refl _) (I1.hok.fresh (Nat.le_refl _))
  | tup hs ra =>
    cases hi
    cases r1
    obtain ⟨its, rv, p, hz⟩ := I1.tuple (sqT_mono e hs)
    refine wpAny_pyIter_tuple (show s1.heap.IsTuple _ its.toArray from p) ?_
    refine ⟨s1.heap.objs.size, [s1.heap.objs.size], _, _, H1, rfl, I1.kept (t' := s1.toks) fun b o e => Heap.get?_push_of_some _ e, turn_tuple _ _, ⟨_, Heap.get?_push_size _ rfl, rfl, rfl⟩, fun b hb => ?_, q _ (walks_tup (by rw [← ra.length]; exact hz) hs ra)⟩
    have e : b = s1.heap.objs.size := by simpa using hb
    subst e
    exact I1.fpOk (Nat.le_refl _) (I1.hok.fresh (Nat.le_refl _))
  | str x hz =>
    cases hi
    obtain ⟨t, rfl⟩ := r1
    cases ha : x.cps.all (· < 128)
    · exact wpAny_pyIter_wide ha (pi_one (tk := s1.toks) I1 _ (turn_str _ x t "str_iterator" (.inr rfl)) ⟨_, Heap.get?_push_size _ rfl, rfl, rfl⟩ (q _ (walks_str hz)))
    · exact wpAny_pyIter_ascii ha (pi_one (tk := s1.toks) I1 _ (turn_str _ x t "str_ascii_iterator" (.inl rfl)) ⟨_, Heap.get?_push_size _ rfl, rfl, rfl⟩ (q _ (walks_str hz)))
  | non => cases hi
  | bl _ => cases hi
  | int _ => cases hi
  | dct _ _ => cases hi
  | dcn _ _ _ => cases hi
  | ex0 _ _ => cases hi
  | exn _ _ _ _ => cases hi
def mItems (f : Mo PyData) : Mo (List PyData) := bnd f fun d δ => Res.of (itemsOf d) δ
theorem di_data {tg e : Expr} {f : Mo PyData} (h : DE X W e f) : DI X W tg e (mItems f) := by
  obtain ⟨t, p, q⟩ := h
  refine ⟨_, pi_data p, fun σ H F δ fp R s h => q σ H F δ fp _ s ((RPost.bind h).imp fun d δ1 F1 H1 fp1 e1 s1 h1 v rv => ?_)⟩
  obtain ⟨z, ez, h4⟩ := RPost.of h1
  exact ⟨F1, d, z, s1.inn, rv, ez, h4 F1 H1 fp1 (Ext.refl s1.inn) s1⟩
/-- range(n), range(a, b) -/
def rng1 : List PyData → Option (List PyData)
  | [.int j] => if -16777216 ≤ j ∧ j ≤ 16777216 then some ((List.range j.toNat).map fun (i : Nat) => .int (0 + (i : Int))) else none
  | [.int i, .int j] => if -16777216 ≤ j ∧ j ≤ 16777216 ∧ -16777216 ≤ i ∧ i ≤ 16777216 ∧ j - i ≤ 16777216 then some ((List.range (j - i).toNat).map fun (k : Nat) => .int (i + (k : Int))) else none
  | _ => none
def mRng (f : Mo (List PyData)) : Mo (List PyData) := bnd f fun ds δ => Res.of (rng1 ds) δ
theorem di_range1 {tg a : Expr} {f : Mo (List PyData)} {p : Pos} (hm : X.mg "range" = none) (ha : DAs X W [a] f) (hg : Gl X "range" := by rfl) (hs : starEach [a] X.env = [(false, eval a X.env)] := by rfl) : DI X W tg (.Call (.Name "range" p) [a] [] pos) (mRng f) := by
  obtain ⟨⟨t, pa, q⟩, lb⟩ := ha
  refine ⟨_, pi_range1 hg hm pa hs, fun σ H F δ fp R s h => q σ H F δ fp _ s ((RPost.bind h).impE fun ds δ1 F1 H1 fp1 eq e1 s1 h1 vs rv => ?_)⟩
  obtain ⟨z, ez, h4⟩ := RPost.of h1
  have hl := lb _ _ _ eq
  unfold rng1 at ez
  split at ez
  · rename_i j
    split at ez
    · rename_i hj
      cases ez
      cases rv with
      | cons a b =>
        cases a
        cases b
        exact ⟨j, rfl, by omega, by omega, h4 F1 H1 fp1 (Ext.refl s1.inn) s1 _ (walks_range (by rw [sizeLine_eq]; omega))⟩
    · cases ez
  · cases hl
  · cases ez
theorem di_range2 {tg a b : Expr} {f : Mo (List PyData)} {p : Pos} (hm : X.mg "range" = none) (ha : DAs X W [a, b] f) (hg : Gl X "range" := by rfl) (hs : starEach [a, b] X.env = [(false, eval a X.env), (false, eval b X.env)] := by rfl) (hs2 : starEach [b] X.env = [(false, eval b X.env)] := by rfl) :
    DI X W tg (.Call (.Name "range" p) [a, b] [] pos) (mRng f) := by
  obtain ⟨⟨t, pa, q⟩, lb⟩ := ha
  refine ⟨_, pi_range2 hg hm pa hs hs2, fun σ H F δ fp R s h => q σ H F δ fp _ s ((RPost.bind h).impE fun ds δ1 F1 H1 fp1 eq e1 s1 h1 vs rv => ?_)⟩
  obtain ⟨z, ez, h4⟩ := RPost.of h1
  have hl := lb _ _ _ eq
  unfold rng1 at ez
  split at ez
  · cases hl
  · rename_i i j
    split at ez
    · rename_i hj
      cases ez
      cases rv with
      | cons a b =>
        cases a
        cases b with
        | cons a b =>
          cases a
          cases b
          exact ⟨i, j, rfl, ⟨by omega, by omega, by omega, by omega⟩, h4 F1 H1 fp1 (Ext.refl s1.inn) s1 _ (walks_range (by rw [sizeLine_eq]; omega))⟩
    · cases ez
  · cases ez
/-- enumerate(a list) -/
def enumD (n : Int) : List PyData → List PyData
  | [] => []
  | d :: ds => .tuple [.int n, d] :: enumD (n + 1) ds
theorem enumD_length : ∀ (ds : List PyData) (n : Int), (enumD n ds).length = ds.length
  | [], _ => rfl
  | _ :: ds, n => congrArg (· + 1) (enumD_length ds (n + 1))
theorem enumD_get : ∀ (ds : List PyData) (n : Int) (i : Nat) (d : PyData), ds[i]? = some d → (enumD n ds)[i]? = some (.tuple [.int (n + i), d])
  | [], _, _, _, h => by simp at h
  | e :: ds, n, 0, d, h => by simp at h; subst h; simp [enumD]
  | e :: ds, n, i + 1, d, h => by
    have := enumD_get ds (n + 1) i d (by simpa using h)
    simp only [enumD, List.getElem?_cons_succ, this]
    congr 3
    congr 1
    push_cast
    omega
def enumOf : List PyData → Option (List PyData)
  | [.list xs] => some (enumD 0 xs)
  | [.tuple xs] => some (enumD 0 xs)
  | _ => none
def mEnum (f : Mo (List PyData)) : Mo (List PyData) := bnd f fun ds δ => Res.of (enumOf ds) δ
theorem walks_enum {K : KW} {F : Hp} {a : Addr} {vs : List V} {ds : List PyData} (hl : ds.length ≤ sizeLine) (h : SqL K F a vs) (r : RpAll K F vs ds) : Walks K (Ite K a) F (enumD 0 ds) where
  len := by rw [enumD_length]; exact hl
  go := fun i H e hi => by
    rw [enumD_length] at hi
    obtain ⟨v, d, h1, _⟩ := r.at hi
    exact ⟨vs, v, e.seq h, h1⟩
  stop := fun i H e hi => by
    rw [enumD_length] at hi
    exact ⟨vs, e.seq h, by rw [r.length]; exact hi⟩
  yld := fun i F1 H x H' e1 e2 hi y => by
    rw [enumD_length] at hi
    obtain ⟨T, x', rfl, hT, rfl, y⟩ := y
    obtain ⟨v, d, h1, h2, h3⟩ := r.at hi
    have e4 := y vs ((e1.trans e2).seq h)
    obtain rfl : v = x' := Option.some.inj (h1.symm.trans e4)
    have g := Grow.laid (o := .tup [.int (i : Nat), v]) e2 hT
    refine ⟨_, _, g, enumD_get ds 0 i d h2, .tup (.of upd_same) (.cons ?_ (.cons ((h3.mono e1).mono g.sub) .nil))⟩
    rw [Int.zero_add]
    exact .int _
theorem walks_enumT {K : KW} {F : Hp} {a : Addr} {vs : List V} {ds : List PyData} (hl : ds.length ≤ sizeLine) (h : SqT K F a vs) (r : RpAll K F vs ds) : Walks K (IteT K a ds.length) F (enumD 0 ds) where
  len := by rw [enumD_length]; exact hl
  go := fun i H e hi => by
    rw [enumD_length] at hi
    obtain ⟨v, d, h1, _⟩ := r.at hi
    exact ⟨vs, v, sqT_mono e h, r.length, h1⟩
  stop := fun i H e hi => by
    rw [enumD_length] at hi
    exact ⟨vs, sqT_mono e h, r.length, hi⟩
  yld := fun i F1 H x H' e1 e2 hi y => by
    rw [enumD_length] at hi
    obtain ⟨T, x', rfl, hT, rfl, y⟩ := y
    obtain ⟨v, d, h1, h2, h3⟩ := r.at hi
    have e4 := y vs (sqT_mono (e1.trans e2) h)
    obtain rfl : v = x' := Option.some.inj (h1.symm.trans e4)
    have g := Grow.laid (o := .tup [.int (i : Nat), v]) e2 hT
    refine ⟨_, _, g, enumD_get ds 0 i d h2, .tup (.of upd_same) (.cons ?_ (.cons ((h3.mono e1).mono g.sub) .nil))⟩
    rw [Int.zero_add]
    exact .int _
/-- enumerate's walk also needs the list's bound: it stands in memory -/
def iEnumD (K : KW) (ta : TA) : TI := fun σ H R => ta σ H fun vs H1 => ∃ F ds, Same F H1 ∧ (RpAll K F vs [.list ds] ∨ RpAll K F vs [.tuple ds]) ∧ ∀ J, Walks K J F (enumD 0 ds) → R J H1
theorem pi_enumD {tpos : Pos} {elts : List Expr} {kk : Nat} {e : Expr} {ta : TA} {p pos : Pos} (hg : Gl X "enumerate") (hm : X.mg "enumerate" = none) (ha : PA X [e] ta) (hs : starEach [e] X.env = [(false, eval e X.env)] := by rfl) :
    PI X (.Tuple elts kk tpos) (.Call (.Name "enumerate" p) [e] [] pos) (iEnumD X.KW ta) := by
  refine ⟨fun pins s σ H R I h => ?_⟩
  refine Call_ (ld_blt I hg hm boot_enumerate (PyProof.Rows.callWith_type1 (thn (ha.run pos pins s σ H _ I h) fun us s1 ⟨vs, H1, I1, r1, q1⟩ => ?_) hs rfl))
  obtain ⟨F, ds, e, rr, q⟩ := q1
  rcases rr with rr | rr
  · cases rr with
    | cons r2 r3 =>
    cases r3
    cases r2 with
    | lst hs ra =>
    cases r1 with
    | cons r rr =>
      cases rr
      cases r
      obtain ⟨its, rv, p', hz⟩ := I1.list (e.seq hs)
      refine call_enumerate_list p'.isList fun h' he hit hsz hk => wpAny_pyIter_enum he ?_
      have I2 : L2.Inv X pins σ H1 { s1 with heap := h' } := I1.kept (t' := s1.toks) hk
      refine ⟨s1.heap.objs.size + 1, [s1.heap.objs.size + 1, s1.heap.objs.size], _, _, H1, rfl, I2, turn_enum _ (s1.heap.objs.size + 1) s1.heap.objs.size, ⟨⟨.none, he⟩, hit, Nat.succ_ne_self _⟩, fun b hb => ?_, q _ (walks_enum (by rw [← ra.length]; exact hz) hs ra)⟩
      have e' : b = s1.heap.objs.size + 1 ∨ b = s1.heap.objs.size := by simpa using hb
      have hle : s1.heap.objs.size ≤ b := by
        rcases e' with z | z
        · rw [z]; exact Nat.le_add_right _ _
        · rw [z]; exact Nat.le_refl _
      exact I1.fpOk hle (I1.hok.fresh hle)
  · cases rr with
    | cons r2 r3 =>
    cases r3
    cases r2 with
    | @tup a _ _ hs ra =>
    cases r1 with
    | cons r rr =>
      cases rr
      cases r
      obtain ⟨its, rv, p', hz⟩ := I1.tuple (sqT_mono e hs)
      have ha : a < s1.heap.objs.size := by
        obtain ⟨_, q, _⟩ := p'
        exact Heap.lt_size q
      refine call_enumerate_tuple p' fun h' he hit hsz hk => wpAny_pyIter_enum he ?_
      have I2 : L2.Inv X pins σ H1 { s1 with heap := h' } := I1.kept (t' := s1.toks) hk
      refine ⟨s1.heap.objs.size + 1, [s1.heap.objs.size + 1, s1.heap.objs.size], _, _, H1, rfl, I2, turn_enumT _ (s1.heap.objs.size + 1) s1.heap.objs.size ds.length (Nat.ne_of_lt ha) (Nat.ne_of_lt (Nat.lt_succ_of_lt ha)), ⟨⟨.none, he⟩, hit, Nat.succ_ne_self _, Nat.zero_le _⟩, fun b hb => ?_, q _ (walks_enumT (by rw [← ra.length]; exact hz) hs ra)⟩
      have e' : b = s1.heap.objs.size + 1 ∨ b = s1.heap.objs.size := by simpa using hb
      have hle : s1.heap.objs.size ≤ b := by
        rcases e' with z | z
        · rw [z]; exact Nat.le_add_right _ _
        · rw [z]; exact Nat.le_refl _
      exact I1.fpOk hle (I1.hok.fresh hle)
theorem di_enum {tpos : Pos} {elts : List Expr} {kk : Nat} {a : Expr} {f : Mo (List PyData)} {p : Pos} (hm : X.mg "enumerate" = none) (ha : DAs X W [a] f) (hg : Gl X "enumerate" := by rfl) (hs : starEach [a] X.env = [(false, eval a X.env)] := by rfl) : DI X W (.Tuple elts kk tpos) (.Call (.Name "enumerate" p) [a] [] pos) (mEnum f) := by
  obtain ⟨⟨t, pa, q⟩, lb⟩ := ha
  refine ⟨_, pi_enumD hg hm pa hs, fun σ H F δ fp R s h => q σ H F δ fp _ s ((RPost.bind h).impE fun ds δ1 F1 H1 fp1 eq e1 s1 h1 vs rv => ?_)⟩
  obtain ⟨z, ez, h4⟩ := RPost.of h1
  unfold enumOf at ez
  split at ez
  · cases ez
    exact ⟨F1, _, s1.inn, .inl rv, h4 F1 H1 fp1 (Ext.refl s1.inn) s1⟩
  · cases ez
    exact ⟨F1, _, s1.inn, .inr rv, h4 F1 H1 fp1 (Ext.refl s1.inn) s1⟩
  · cases ez
end
end DL
namespace DL
open PySem PySem.Spec PyProof.Rows L2
section
variable {K : KW} {F H : Hp}
theorem EnvRep.store {x : Val} {v : V} {q : List Addr} (hx : VRep K F H x v q) : ∀ {δ : Env} {σ : L2.St} {fp : List Addr} (i : Nat), EnvRep K F H δ σ fp → ∃ fp1 r, EnvRep K F H (δ.set i (some x)) (σ.set i (some v)) fp1 ∧ List.Perm (fp1 ++ r) (q ++ fp)
  | _, _, _, i, .nil => ⟨[], q, by simpa using EnvRep.nil, by simp⟩
  | _, _, _, 0, .un (fp := fp) a => ⟨q ++ fp, [], .co hx a, by simp⟩
  | _, _, _, 0, .co (p := p) (fp := fp) a b => ⟨q ++ fp, p, .co hx b, by rw [List.append_assoc]; exact List.Perm.append_left q List.perm_append_comm⟩
  | _, _, _, i + 1, .un a => by
    obtain ⟨fp1, r, h1, h2⟩ := EnvRep.store hx i a
    exact ⟨fp1, r, by simpa using EnvRep.un h1, h2⟩
  | _, _, _, i + 1, .co (p := p) (fp := fp) a b => by
    obtain ⟨fp1, r, h1, h2⟩ := EnvRep.store hx i b
    refine ⟨p ++ fp1, r, by simpa using EnvRep.co a h1, ?_⟩
    rw [List.append_assoc]
    refine (List.Perm.append_left p h2).trans ?_
    rw [← List.append_assoc, ← List.append_assoc]
    exact List.Perm.append_right fp List.perm_append_comm
theorem EnvRep.clear : ∀ {δ : Env} {σ : L2.St} {fp : List Addr} (i : Nat), EnvRep K F H δ σ fp → ∃ fp1 r, List.Perm (fp1 ++ r) fp ∧ (∀ o, EnvRep K F H (δ.set i none) (σ.set i o) fp1) ∧ EnvRep K F H (δ.set i none) σ fp1
  | _, _, _, i, .nil => ⟨[], [], by simp, fun o => by simpa using EnvRep.nil, by simpa using EnvRep.nil⟩
  | _, _, _, 0, .un (fp := fp) a => ⟨fp, [], by simp, fun o => .un a, .un a⟩
  | _, _, _, 0, .co (p := p) (fp := fp) a b => ⟨fp, p, List.perm_append_comm, fun o => .un b, .un b⟩
  | _, _, _, i + 1, .un a => by
    obtain ⟨fp1, r, h1, h2, h3⟩ := EnvRep.clear i a
    exact ⟨fp1, r, h1, fun o => by simpa using EnvRep.un (h2 o), by simpa using EnvRep.un h3⟩
  | _, _, _, i + 1, .co (p := p) (fp := fp) a b => by
    obtain ⟨fp1, r, h1, h2, h3⟩ := EnvRep.clear i b
    refine ⟨p ++ fp1, r, ?_, fun o => by simpa using EnvRep.co a (h2 o), by simpa using EnvRep.co a h3⟩
    rw [List.append_assoc]
    exact List.Perm.append_left p h1
theorem St3.sub {δ δ' : Env} {σ σ' : L2.St} {fp fp1 r : List Addr} (s : St3 K F H δ σ fp) (h : EnvRep K F H δ' σ' fp1) (p : List.Perm (fp1 ++ r) fp) : St3 K F H δ' σ' fp1 ∧ ∀ a ∈ fp1, a ∈ fp :=
  ⟨⟨h, s.inn, fun a ha => s.nof a (p.subset (by simp [ha])), ((p.nodup_iff).mpr s.nd |> fun z => (List.nodup_append.mp z).1)⟩, fun a ha => p.subset (by simp [ha])⟩
theorem St3.store {δ : Env} {σ : L2.St} {fp q : List Addr} {x : Val} {v : V} (i : Nat) (s : St3 K F H δ σ fp) (hx : VRep K F H x v q) (nd : (fp ++ q).Nodup) (nf : ∀ a ∈ q, F a = none) : ∃ fp1, St3 K F H (δ.set i (some x)) (σ.set i (some v)) fp1 ∧ ∀ a ∈ fp1, a ∈ fp ++ q := by
  obtain ⟨fp1, r, h1, h2⟩ := EnvRep.store hx i s.rep
  have h3 : List.Perm (fp1 ++ r) (fp ++ q) := h2.trans List.perm_append_comm
  refine ⟨fp1, ⟨h1, s.inn, fun a ha => ?_, (List.nodup_append.mp ((h3.nodup_iff).mpr nd)).1⟩, fun a ha => h3.subset (by simp [ha])⟩
  rcases List.mem_append.mp (h3.subset (show a ∈ fp1 ++ r by simp [ha])) with z | z
  · exact s.nof a z
  · exact nf a z
theorem St3.storeD {δ : Env} {σ : L2.St} {fp : List Addr} {x : PyData} {v : V} (i : Nat) (s : St3 K F H δ σ fp) (hx : Rp K F v x) : ∃ fp1, St3 K F H (δ.set i (some (.d x))) (σ.set i (some v)) fp1 ∧ ∀ a ∈ fp1, a ∈ fp := by
  obtain ⟨fp1, h1, h2⟩ := s.store i (VRep.d hx) (by simpa using s.nd) (fun a h => nomatch h)
  exact ⟨fp1, h1, fun a ha => by simpa using h2 a ha⟩
def wipeE (δ : Env) : List Nat → Env
  | [] => δ
  | v :: vs => (wipeE δ vs).set v none
theorem St3.wipe {δ : Env} {σ : L2.St} {fp : List Addr} (s : St3 K F H δ σ fp) : ∀ vs : List Nat, ∃ fp1, St3 K F H (wipeE δ vs) σ fp1 ∧ ∀ a ∈ fp1, a ∈ fp
  | [] => ⟨fp, s, fun _ h => h⟩
  | v :: vs => by
    obtain ⟨fp1, h1, h2⟩ := s.wipe vs
    obtain ⟨fp2, r, h3, _, h5⟩ := EnvRep.clear v h1.rep
    obtain ⟨h6, h7⟩ := h1.sub h5 h3
    exact ⟨fp2, h6, fun a ha => h2 a (h7 a ha)⟩
theorem EnvRep.cong : ∀ {δ : Env} {σ σ' : L2.St} {fp : List Addr}, EnvRep K F H δ σ fp → σ'.length = σ.length → (∀ (i : Nat) (x : Val), δ[i]? = some (some x) → σ'[i]? = σ[i]?) → EnvRep K F H δ σ' fp
  | _, _, [], _, .nil, _, _ => .nil
  | _, _, _ :: _, _, .nil, h, _ => by simp at h
  | _, _, [], _, .un a, h, _ => by simp at h
  | _, _, o :: σ', _, .un a, h, k => .un (a.cong (by simpa using h) fun i x e => by simpa using k (i + 1) x (by simpa using e))
  | _, _, [], _, .co a b, h, _ => by simp at h
  | _, _, o :: σ', _, .co a b, h, k => by
    have e := k 0 _ rfl
    simp at e
    subst e
    exact .co a (b.cong (by simpa using h) fun i x e => by simpa using k (i + 1) x (by simpa using e))
theorem wipeE_none {δ : Env} {i : Nat} {x : Val} : ∀ {vs : List Nat}, (wipeE δ vs)[i]? = some (some x) → i ∉ vs
  | [], _ => by simp
  | v :: vs, h => by
    unfold wipeE at h
    by_cases e : v = i
    · subst e
      rw [List.getElem?_set] at h
      simp at h
    · rw [List.getElem?_set_ne e] at h
      have := wipeE_none h
      simp only [List.mem_cons, not_or]
      exact ⟨fun z => e z.symm, this⟩
theorem EnvRep.length : ∀ {δ : Env} {σ : L2.St} {fp : List Addr}, EnvRep K F H δ σ fp → δ.length = σ.length
  | _, _, _, .nil => rfl
  | _, _, _, .un a => congrArg (· + 1) a.length
  | _, _, _, .co _ a => congrArg (· + 1) a.length
/-- slots off is are as they were -/
def Off (is : List Nat) (σ σ' : L2.St) : Prop := σ'.length = σ.length ∧ ∀ j, j ∉ is → σ'[j]? = σ[j]?
theorem Off.refl (is : List Nat) (σ : L2.St) : Off is σ σ := ⟨rfl, fun _ _ => rfl⟩
theorem Off.trans {is : List Nat} {σ σ1 σ2 : L2.St} (a : Off is σ σ1) (b : Off is σ1 σ2) : Off is σ σ2 := ⟨b.1.trans a.1, fun j h => (b.2 j h).trans (a.2 j h)⟩
theorem Off.mono {is js : List Nat} {σ σ' : L2.St} (a : Off is σ σ') (h : ∀ i ∈ is, i ∈ js) : Off js σ σ' := ⟨a.1, fun j n => a.2 j fun z => n (h j z)⟩
theorem Off.set (i : Nat) (σ : L2.St) (o : Option V) : Off [i] σ (σ.set i o) := ⟨List.length_set, fun j h => List.getElem?_set_ne (fun z => h (by simp [z]))⟩
theorem wipe_off (σ : L2.St) : ∀ vs : List Nat, Off vs σ (wipe σ vs)
  | [] => Off.refl _ _
  | v :: vs => ((wipe_off σ vs).mono fun i h => by simp [h]).trans ((Off.set v _ none).mono fun i h => by simp at h; simp [h])
theorem Off.wipe_eq {is : List Nat} {σ σ' : L2.St} (a : Off is σ σ') : wipe σ' is = wipe σ is := by
  apply List.ext_getElem?
  intro j
  by_cases h : j ∈ is
  · have k : ∀ (τ : L2.St) (vs : List Nat), j ∈ vs → (wipe τ vs)[j]? = if j < τ.length then some none else none := by
      intro τ vs
      induction vs with
      | nil => intro h; cases h
      | cons v vs ih =>
        intro h
        unfold wipe
        rw [List.getElem?_set, wipe_length]
        by_cases e : v = j
        · subst e; rw [if_pos rfl]
        · rw [if_neg e]
          rcases List.mem_cons.mp h with z | z
          · exact absurd z.symm e
          · exact ih z
    rw [k _ _ h, k _ _ h, a.1]
  · rw [wipe_out h, wipe_out h, a.2 j h]
end
section
variable {X : Cx} {W : WX} {pos : Pos}
/-! ### targets -/
abbrev Tau := PyData → Env → Option Env
def DG (X : Cx) (tg : Expr) (is : List Nat) (τ : Tau) : Prop := ∃ g, PG X tg g ∧ ∀ x d σ H F δ fp Q, St3 X.KW F H δ σ fp → Rp X.KW F x d → (∃ δ', τ d δ = some δ' ∧ ∀ σ' fp', St3 X.KW F H δ' σ' fp' → (∀ a ∈ fp', a ∈ fp) → Off is σ σ' → Q σ' H) → g x σ H Q
def DGs (X : Cx) (tg : List Expr) (is : List Nat) (τ : List PyData → Env → Option Env) : Prop := ∃ g, PGs X tg g ∧ ∀ xs ds σ H F δ fp Q, St3 X.KW F H δ σ fp → RpAll X.KW F xs ds → (∃ δ', τ ds δ = some δ' ∧ ∀ σ' fp', St3 X.KW F H δ' σ' fp' → (∀ a ∈ fp', a ∈ fp) → Off is σ σ' → Q σ' H) → g xs σ H Q
def tauN (i : Nat) : Tau := fun d δ => some (δ.set i (some (.d d)))
theorem dg_name {tg : Expr} (i : Nat) (h : PG X tg (gName i)) : DG X tg [i] (tauN i) := by
  refine ⟨_, h, fun x d σ H F δ fp Q s r ⟨δ', e, k⟩ => ?_⟩
  cases e
  obtain ⟨fp1, h1, h2⟩ := s.storeD i r
  exact k _ fp1 h1 h2 (Off.set i σ _)
def tausNil : List PyData → Env → Option Env := fun ds δ => match ds with
  | [] => some δ
  | _ => none
def tausCons (τ : Tau) (τs : List PyData → Env → Option Env) : List PyData → Env → Option Env := fun ds δ => match ds with
  | d :: r => (τ d δ).bind fun δ' => τs r δ'
  | [] => none
theorem dgs_nil : DGs X [] [] tausNil := by
  refine ⟨_, pgs_nil, fun xs ds σ H F δ fp Q s r ⟨δ', e, k⟩ => ?_⟩
  cases r with
  | nil => cases e; exact ⟨rfl, k σ fp s (fun _ h => h) (Off.refl _ _)⟩
  | cons a b => cases e
theorem dgs_cons {e : Expr} {es : List Expr} {is js : List Nat} {τ : Tau} {τs : List PyData → Env → Option Env} (h : DG X e is τ) (h2 : DGs X es js τs) (hs : (assignEach (e :: es) X.env).map (·.2) = assign e X.env :: (assignEach es X.env).map (·.2) := by rfl) : DGs X (e :: es) (is ++ js) (tausCons τ τs) := by
  obtain ⟨g, p, q⟩ := h
  obtain ⟨gs, ps, qs⟩ := h2
  refine ⟨_, pgs_cons p ps hs, fun xs ds σ H F δ fp Q s r ⟨δ', e, k⟩ => ?_⟩
  cases r with
  | nil => cases e
  | cons a b =>
    obtain ⟨δ1, e1, e2⟩ := Option.bind_eq_some_iff.mp e
    refine ⟨_, _, rfl, q _ _ σ H F δ fp _ s a ⟨δ1, e1, fun σ1 fp1 s1 hs o1 => qs _ _ σ1 H F δ1 fp1 _ s1 b ⟨δ', e2, fun σ2 fp2 s2 hs2 o2 => k σ2 fp2 s2 (fun a ha => hs a (hs2 a ha)) ((o1.mono fun i h => by simp [h]).trans (o2.mono fun i h => by simp [h]))⟩⟩⟩
def tauT (n : Nat) (τs : List PyData → Env → Option Env) : Tau := fun d δ => match d with
  | .tuple ds => if ds.length = n then τs ds δ else none
  | _ => none
theorem dg_tup {es : List Expr} {k : Nat} {tpos : Pos} {is : List Nat} {τs : List PyData → Env → Option Env} (hc : X.calm = true) (h : DGs X es is τs) (hn : (assignEach es X.env).length = es.length := by rfl) (hst : (assignEach es X.env).findIdx? (·.1) = none := by rfl) : DG X (.Tuple es k tpos) is (tauT es.length τs) := by
  obtain ⟨g, p, q⟩ := h
  refine ⟨_, pg_tup (n := es.length) hc p hn hst, fun x d σ H F δ fp Q s r ⟨δ', e, kk⟩ => ?_⟩
  cases r with
  | @tup a vs ds hs ra =>
    have e' : (if ds.length = es.length then τs ds δ else none) = some δ' := e
    by_cases hl : ds.length = es.length
    · rw [if_pos hl] at e'
      exact ⟨_, _, rfl, sqT_mono s.inn hs, by rw [ra.length]; exact hl, q _ _ σ H F δ fp Q s ra ⟨δ', e', kk⟩⟩
    · rw [if_neg hl] at e'
      cases e'
  | _ => cases e
/-! ### comprehensions -/
def noex {α : Type} (r : Res α) : Res α := match r with
  | .ex _ _ _ => .st
  | r => r
@[simp] theorem noex_ok {α : Type} (a : α) (δ : Env) : noex (Res.ok a δ) = .ok a δ := rfl
@[simp] theorem noex_st {α : Type} : noex (Res.st : Res α) = .st := rfl
abbrev W0 : WX := fun _ _ _ _ => False
def tDE (X : Cx) (W : WX) (f : Mo PyData) : TE := fun σ H Q => ∃ F δ fp, St3 X.KW F H δ σ fp ∧ RPost X W σ F H fp (f δ) (fun d _ F' H' _ => ∀ v, Rp X.KW F' v d → Q v H')
def tDT (X : Cx) (W : WX) (f : Mo Bool) : TT := fun σ H Q => ∃ F δ fp, St3 X.KW F H δ σ fp ∧ RPost X W σ F H fp (f δ) (fun b _ _ H' _ => Q b H')
def tDG (X : Cx) (is : List Nat) (τ : Tau) : TG := fun x σ H Q => ∃ d F δ fp, St3 X.KW F H δ σ fp ∧ Rp X.KW F x d ∧ ∃ δ', τ d δ = some δ' ∧ ∀ σ' fp', St3 X.KW F H δ' σ' fp' → (∀ a ∈ fp', a ∈ fp) → Off is σ σ' → Q σ' H
theorem DE.pe {e : Expr} {f : Mo PyData} (h : DE X W e f) : PE X e (tDE X W f) := by
  obtain ⟨t, p, q⟩ := h
  exact ⟨fun pins s σ H Q I ⟨F, δ, fp, st, r⟩ => p.run pins s σ H Q I (q σ H F δ fp Q st r)⟩
theorem DT.pt {e : Expr} {f : Mo Bool} (h : DT X W e f) : PT X e (tDT X W f) := by
  obtain ⟨t, p, q⟩ := h
  exact ⟨fun pins s σ H Q I ⟨F, δ, fp, st, r⟩ => p.run pins s σ H Q I (q σ H F δ fp Q st r)⟩
theorem DG.pg {e : Expr} {is : List Nat} {τ : Tau} (h : DG X e is τ) : PG X e (tDG X is τ) := by
  obtain ⟨g, p, q⟩ := h
  refine ⟨fun pins s σ H x v Q I rx ⟨d, F, δ, fp, st, r, h⟩ => ?_⟩
  exact p.run pins s σ H x v Q I rx (q x d σ H F δ fp Q st r h)
def lcGo (own : List Nat) (τ : Tau) (ft : Mo Bool) (fe : Mo PyData) : List PyData → Mo (List PyData)
  | [], δ => .ok [] δ
  | d :: ds, δ => (Res.of (τ d δ) δ).bind fun δ1 _ => (noex (ft δ1)).bind fun b δ2 => if b = true then (noex (fe δ2)).bind fun y δ3 => (lcGo own τ ft fe ds (wipeE δ3 own)).bind fun ys δ4 => .ok (y :: ys) δ4
        else lcGo own τ ft fe ds (wipeE δ2 own)
/-- behind a comprehension its own slots are what they were, where that was data -/
def backE (δ δ' : Env) : List Nat → Env
  | [] => δ'
  | i :: is => match δ[i]? with
    | some (some (.d x)) => (backE δ δ' is).set i (some (.d x))
    | _ => backE δ δ' is
def mLc (own : List Nat) (τ : Tau) (fi : Mo (List PyData)) (ft : Mo Bool) (fe : Mo PyData) : Mo Val := bnd fi fun ds δ => (lcGo own τ ft fe ds (wipeE δ own)).bind fun ys δ' => .ok (.lst ys) (backE δ δ' own)
theorem set_same' {α : Type} : ∀ {l : List α} {i : Nat} {v : α}, l[i]? = some v → l.set i v = l
  | [], _, _, h => by simp at h
  | a :: l, 0, v, h => by simp at h; simp [h]
  | a :: l, i + 1, v, h => by simpa using set_same' (l := l) (i := i) (by simpa using h)
theorem St3.backE {K : KW} {F F0 H H0 : Hp} {δ δ' : Env} {σ : L2.St} {fp fp0 : List Addr} (s0 : St3 K F0 H0 δ σ fp0) (s : St3 K F H δ' σ fp) (e : Same F0 F) : ∀ is : List Nat, ∃ fp1, St3 K F H (DL.backE δ δ' is) σ fp1 ∧ ∀ a ∈ fp1, a ∈ fp
  | [] => ⟨fp, s, fun _ h => h⟩
  | i :: is => by
    obtain ⟨fp1, s1, h1⟩ := St3.backE s0 s e is
    unfold DL.backE
    split
    · rename_i x hx
      obtain ⟨v, q, ev, r⟩ := s0.rep.at hx
      cases r with
      | d r =>
        obtain ⟨fp2, s2, h2⟩ := s1.storeD i (r.mono e)
        rw [set_same' ev] at s2
        exact ⟨fp2, s2, fun a ha => h1 a (h2 a ha)⟩
    · exact ⟨fp1, s1, h1⟩
/-- the state between two turns: D holds acc; the rest of the turns is wanted -/
structure LcInv (X : Cx) (W : WX) (own : List Nat) (δ0 : Env) (σ : L2.St) (D : Addr) (g : Mo (List PyData)) (Q : VK) (F0 : Hp) (i : Nat) (F H : Hp) (fp : List Addr) (δ : Env) (acc : List V) (accD : List PyData) : Prop where
  st : St3 X.KW F H δ σ fp
  dl : H D = some (.lst acc)
  df : F D = none
  dn : D ∉ fp
  ra : RpAll X.KW F acc accD
  ln : acc.length ≤ i
  sub : Same F0 F
  wp : ∀ (j : Nat) (x : Val), δ[j]? = some (some x) → j ∉ own
  po : VPost X W σ F H (fp ++ [D]) ((g δ).bind fun ys δ' => .ok (.lst (accD ++ ys)) (backE δ0 δ' own)) Q
theorem Ext.more {F H F' H' : Hp} {fp fp' gp : List Addr} (e : Ext F H fp F' H' fp') : Ext F H (fp ++ gp) F' H' (fp' ++ gp) :=
  ⟨fun a o h n => e.keep a o h fun z => n (by simp [z]), e.sub, e.inn, fun a o h n => (e.new a o h n).imp (fun z => by simp [z]) id, fun a h => by
    rcases List.mem_append.mp h with h | h
    · exact (e.fpn a h).imp (fun z => by simp [z]) id
    · exact .inl (by simp [h])⟩
theorem Ext.less {F H F' H' : Hp} {fp fp' gp : List Addr} (e : Ext F H fp F' H' fp') (h : ∀ a ∈ gp, a ∈ fp') : Ext F H fp F' H' gp := ⟨e.keep, e.sub, e.inn, e.new, fun a z => e.fpn a (h a z)⟩
theorem Ext.frz_none {F H F' H' : Hp} {fp fp' : List Addr} {D : Addr} {o : HO} (e : Ext F H fp F' H' fp') (h : H D = some o) (hf : F D = none) (n : D ∉ fp) : F' D = none := by
  cases q : F' D with
  | none => rfl
  | some u =>
    rcases e.new D u q hf with z | z
    · exact absurd z n
    · rw [h] at z; cases z
theorem Ext.not_mem {F H F' H' : Hp} {fp fp' : List Addr} {D : Addr} {o : HO} (e : Ext F H fp F' H' fp') (h : H D = some o) (n : D ∉ fp) : D ∉ fp' := fun z => by
  rcases e.fpn D z with z | z
  · exact n z
  · rw [h] at z; cases z
theorem St3.upd_out {K : KW} {F H : Hp} {δ : Env} {σ : L2.St} {fp : List Addr} {D : Addr} {o : HO} (s : St3 K F H δ σ fp) (hf : F D = none) (n : D ∉ fp) : St3 K F (upd H D o) δ σ fp :=
  ⟨s.rep.lift (Same.refl _) fun a u ha e => (by rw [upd_ne (fun (z : a = D) => n (by rw [← z]; exact ha))]; exact e), fun a u e => (by rw [upd_ne (fun z => by rw [z, hf] at e; cases e)]; exact s.inn a u e), s.nof, s.nd⟩
theorem Ext.upd_in {F H : Hp} {fp : List Addr} {D : Addr} {o : HO} (hi : Same F H) (hf : F D = none) : Ext F H (fp ++ [D]) F (upd H D o) (fp ++ [D]) :=
  ⟨fun a u e n => (by rw [upd_ne (fun z => n (by simp [z]))]; exact e), Same.refl _, fun a u e => (by rw [upd_ne (fun z => by rw [z, hf] at e; cases e)]; exact hi a u e), fun a u e n => (by rw [n] at e; cases e), fun a h => .inl h⟩
theorem noex_bind {α : Type} {σ : L2.St} {F H : Hp} {fp : List Addr} {r : Res α} {k : α → Env → Res Val} {Q : VK} (h : VPost X W σ F H fp ((noex r).bind k) Q) : ∃ a δ', r = .ok a δ' ∧ VPost X W σ F H fp (k a δ') Q := by
  cases r with
  | st => exact False.elim h
  | ok a δ' => exact ⟨a, δ', rfl, h⟩
  | ex c x δ' => exact False.elim h
theorem Res.bind_assoc {α β γ : Type} (r : Res α) (k : α → Env → Res β) (l : β → Env → Res γ) : (r.bind k).bind l = r.bind fun a δ => (k a δ).bind l := by cases r <;> rfl
theorem lcGo_cons (own : List Nat) (τ : Tau) (ft : Mo Bool) (fe : Mo PyData) (d : PyData) (ds : List PyData) (δ : Env) : lcGo own τ ft fe (d :: ds) δ = (Res.of (τ d δ) δ).bind fun δ1 _ => (noex (ft δ1)).bind fun b δ2 => if b = true then (noex (fe δ2)).bind fun y δ3 => (lcGo own τ ft fe ds (wipeE δ3 own)).bind fun ys δ4 => .ok (y :: ys) δ4
        else lcGo own τ ft fe ds (wipeE δ2 own) := rfl
theorem St3.back {K : KW} {F H : Hp} {δ : Env} {σ σ' : L2.St} {fp : List Addr} {own : List Nat} (s : St3 K F H δ σ' fp) (o : Off own σ σ') : ∃ fp', St3 K F H (wipeE δ own) σ fp' ∧ ∀ a ∈ fp', a ∈ fp := by
  obtain ⟨fp', s1, h1⟩ := s.wipe own
  exact ⟨fp', ⟨s1.rep.cong o.1.symm fun i x e => (o.2 i (wipeE_none e)).symm, s1.inn, s1.nof, s1.nd⟩, h1⟩
theorem t_lc {own : List Nat} {τ : Tau} {fi : Mo (List PyData)} {ft : Mo Bool} {fe : Mo PyData} {wi : TI} {is : List Nat} (hio : ∀ i ∈ is, i ∈ own)
    (qi : ∀ σ H F δ fp (R : It → Hp → Prop), St3 X.KW F H δ σ fp → RPost X W σ F H fp (fi δ) (fun ds _ F' H' _ => ∀ J, Walks X.KW J F' ds → R J H') → wi σ H R)
    {σ : L2.St} {H F : Hp} {δ : Env} {fp : List Addr} {Q : VK} (s : St3 X.KW F H δ σ fp) (h : VPost X W σ F H fp (mLc own τ fi ft fe δ) Q) :
    tLc wi (tDG X is τ) (tDT X W0 ft) (tDE X W0 fe) own σ H Q := by
  refine qi σ H F δ fp _ s ((VPost.bind h).imp fun ds δ1 F1 H1 fp1 e1 s1 h1 J wk => ?_)
  intro D hD
  obtain ⟨gm, ndm, nfm⟩ := own_new (o := .lst []) s1 hD
  have hFD : F1 D = none := nfm D (by simp)
  have hDn : D ∉ fp1 := fun z => s1.rep.live D z hD
  obtain ⟨fpw, sw, hw⟩ := (s1.grow gm).wipe own
  refine ⟨fun i m H => m = ds.length - i ∧ ∃ F2 fp2 δ2 acc accD, LcInv X W own δ1 σ D (lcGo own τ ft fe (ds.drop i)) Q F1 i F2 H fp2 δ2 acc accD, ⟨ds.length, by simp, F1, fpw, wipeE δ1 own, [], [], ⟨sw, upd_same, hFD, fun z => hDn (hw D z), .nil, Nat.zero_le _, Same.refl _, fun j x e => wipeE_none e, ?_⟩⟩, fun i m H2 ⟨em, F2, fp2, δ2, acc, accD, V⟩ => ?_⟩
  · have e3 : Ext F1 H1 fp1 F1 (upd H1 D (.lst [])) (fpw ++ [D]) := (Ext.made s1.inn hD).less fun a ha => by
      rcases List.mem_append.mp ha with z | z
      · simp [hw a z]
      · simp at z; simp [z]
    exact VPost.from h1 e3
  · by_cases hi : i < ds.length
    · refine .inr ⟨wk.go i H2 (V.sub.trans V.st.inn) hi, fun H' => ∃ F2 fp2 δ2 acc accD, LcInv X W own δ1 σ D (lcGo own τ ft fe (ds.drop (i + 1))) Q F1 (i + 1) F2 H' fp2 δ2 acc accD, fun H' hN => ⟨ds.length - (i + 1), by omega, rfl, hN⟩, fun x H3 hy => ?_⟩
      obtain ⟨F3, d, g3, hd, rd⟩ := wk.yld i F2 H2 x H3 V.sub V.st.inn hi hy
      have s3 := V.st.grow g3
      have hdrop : ds.drop i = d :: ds.drop (i + 1) := by
        rw [List.drop_eq_getElem_cons hi]
        congr 1
        rw [List.getElem?_eq_getElem hi] at hd
        exact Option.some.inj hd
      have po := V.po
      rw [hdrop, lcGo_cons, Res.bind_assoc] at po
      cases eτ : τ d δ2 with
      | none => rw [eτ] at po; exact False.elim po
      | some δ3 =>
        rw [eτ, Res.of_some, Res.bind_ok, Res.bind_assoc] at po
        obtain ⟨b, δ4, eb, po⟩ := noex_bind po
        have sW : St3 X.KW F3 H3 δ2 (wipe σ own) fp2 :=
          ⟨s3.rep.cong (wipe_off σ own).1 fun j x e => (wipe_off σ own).2 j (V.wp j x e), s3.inn, s3.nof, s3.nd⟩
        refine ⟨d, F3, δ2, fp2, sW, rd, δ3, eτ, fun σ4 fp4 s4 hs4 o4 => ⟨?_, F3, δ3, fp4, s4, ?_⟩⟩
        · rw [(o4.mono hio).wipe_eq]
          exact (wipe_off σ own).wipe_eq
        · rw [eb]
          intro F5 H5 fp5 e5 s5
          have oo : Off own σ σ4 := (wipe_off σ own).trans (o4.mono hio)
          have hD3 : H3 D = some (.lst acc) := g3.same _ _ V.dl
          have hF3 : F3 D = none := (g3.ext (fp := fp2)).frz_none V.dl V.df V.dn
          have hn4 : D ∉ fp4 := fun z => V.dn (hs4 D z)
          have hD5 : H5 D = some (.lst acc) := e5.keep _ _ hD3 hn4
          have hF5 : F5 D = none := e5.frz_none hD3 hF3 hn4
          have hn5 : D ∉ fp5 := e5.not_mem hD3 hn4
          have e35 : Ext F2 H2 (fp2 ++ [D]) F5 H5 (fp5 ++ [D]) := (((g3.ext (fp := fp2)).less (gp := fp4) hs4).trans e5).more
          cases b with
          | false =>
            refine iteF ?_
            obtain ⟨fp6, s6, h6⟩ := s5.back oo
            refine ⟨F5, fp6, wipeE δ4 own, acc, accD, ⟨s6, hD5, hF5, fun z => hn5 (h6 D z), V.ra.mono (g3.sub.trans e5.sub), by have := V.ln; omega, V.sub.trans (g3.sub.trans e5.sub), fun j x e => wipeE_none e, ?_⟩⟩
            refine VPost.from po (e35.less fun a ha => ?_)
            rcases List.mem_append.mp ha with z | z
            · simp [h6 a z]
            · simp at z; simp [z]
          | true =>
            refine iteT ⟨F5, δ4, fp5, s5, ?_⟩
            rw [if_pos rfl, Res.bind_assoc] at po
            obtain ⟨y, δ6, ey, po⟩ := noex_bind po
            rw [ey]
            intro F6 H6 fp6 e6 s6 v rv
            have hD6 : H6 D = some (.lst acc) := e6.keep _ _ hD5 hn5
            have hF6 : F6 D = none := e6.frz_none hD5 hF5 hn5
            have hn6 : D ∉ fp6 := e6.not_mem hD5 hn5
            refine ⟨acc, hD6, by have := V.ln; have := wk.len; omega, ?_⟩
            have s7 := s6.upd_out (o := .lst (acc ++ [v])) hF6 hn6
            obtain ⟨fp8, s8, h8⟩ := s7.back oo
            have ra6 : RpAll X.KW F6 acc accD := V.ra.mono (g3.sub.trans (e5.sub.trans e6.sub))
            refine ⟨F6, fp8, wipeE δ6 own, acc ++ [v], accD ++ [y], ⟨s8, upd_same, hF6, fun z => hn6 (h8 D z), ra6.append (.cons rv .nil), by rw [List.length_append]; have := V.ln; simp; omega, V.sub.trans (g3.sub.trans (e5.sub.trans e6.sub)), fun j x e => wipeE_none e, ?_⟩⟩
            have e36 : Ext F2 H2 (fp2 ++ [D]) F6 (upd H6 D (.lst (acc ++ [v]))) (fp6 ++ [D]) := (e35.trans e6.more).trans (Ext.upd_in s6.inn hF6)
            have po2 := VPost.from po (e36.less (gp := fp8 ++ [D]) fun a ha => by
              rcases List.mem_append.mp ha with z | z
              · simp [h8 a z]
              · simp at z; simp [z])
            rw [Res.bind_assoc] at po2
            simpa only [List.append_assoc, List.cons_append, List.nil_append, Res.bind_ok] using po2
    · refine .inl ⟨wk.stop i H2 (V.sub.trans V.st.inn) (by omega), ?_⟩
      have po := V.po
      rw [List.drop_eq_nil_of_le (by omega)] at po
      have po : VPost X W σ F2 H2 (fp2 ++ [D]) (.ok (.lst (accD ++ [])) (backE δ1 δ2 own)) Q := po
      rw [List.append_nil] at po
      obtain ⟨fpz, sz, hz⟩ := St3.backE s1 V.st V.sub own
      have xz : Ext F2 H2 (fp2 ++ [D]) F2 H2 (fpz ++ [D]) := (Ext.refl V.st.inn).less fun a ha => by
        rcases List.mem_append.mp ha with z | z
        · simp [hz a z]
        · simp at z; simp [z]
      refine po F2 H2 fpz (.ref D) [D] xz sz (.lst V.dl V.ra) ?_ (fun a ha => by simp at ha; rw [ha]; exact V.df)
      rw [List.nodup_append]
      exact ⟨sz.nd, by simp, fun a ha b hb z => by simp at hb; subst hb; subst z; exact V.dn (hz _ ha)⟩
def mYes : Mo Bool := fun δ => .ok true δ
def DTs (X : Cx) (W : WX) (ifs : List Expr) (f : Mo Bool) : Prop := PTs X ifs (tDT X W f)
theorem dts_nil : DTs X W [] mYes := ⟨fun pins s σ H Q I ⟨F, δ, fp, st, r⟩ => pts_nil.run pins s σ H Q I (r F H fp (Ext.refl st.inn) st)⟩
theorem dts_one {c : Expr} {f : Mo Bool} (h : DT X W c f) : DTs X W [c] f := pts_one h.pt
theorem dv_lc {elt tg iter : Expr} {ifs : List Expr} {scope : Scope} {own : List (Str × Nat)} {is : List Nat} {τ : Tau} {fi : Mo (List PyData)} {ft : Mo Bool} {fe : Mo PyData} (hc : X.calm = true) (hN : X.N.Nodup) (hi : DI X W tg iter fi) (ok : BlkOk X.N X.env.scope scope own) (hio : ∀ i ∈ is, i ∈ own.map (·.2))
    (hg : ∀ (s : Shared) (H : Hp) (C : Addr) (cl : List (Str × Addr)) (fp : List Addr), DG (X.blk s H scope (compEnvC scope cl C X.env) fp) tg is τ) (ht : ∀ (s : Shared) (H : Hp) (C : Addr) (cl : List (Str × Addr)) (fp : List Addr), DTs (X.blk s H scope (compEnvC scope cl C X.env) fp) W0 ifs ft)
    (he : ∀ (s : Shared) (H : Hp) (C : Addr) (cl : List (Str × Addr)) (fp : List Addr), DE (X.blk s H scope (compEnvC scope cl C X.env) fp) W0 elt fe) (hs : ∀ x, foldedSetIterable iter X.env x = pure x := by intro _; rfl) :
    DV X W (.ListComp elt [⟨tg, iter, ifs, 0⟩] scope pos) (mLc (own.map (·.2)) τ fi ft fe) := by
  obtain ⟨wi, pi, qi⟩ := hi
  refine ⟨_, pe_lc (g := tDG X is τ) (tt := tDT X W0 ft) (te := tDE X W0 fe) hc hN pi ok (fun s H C cl fp => (hg s H C cl fp).pg) (fun s H C cl fp => ht s H C cl fp) (fun s H C cl fp => (he s H C cl fp).pe) hs, fun σ H F δ fp Q s h => t_lc hio qi s h⟩
end
end DL
namespace DL
open PySem PySem.Spec PyProof.Rows L2
section
variable {X : Cx} {W : WX} {kp : List Nat} {pos : Pos}
def sNx : Mo Fl := fun δ => .ok .nx δ
def sSeq (f g : Mo Fl) : Mo Fl := fun δ => match f δ with
  | .ok .nx δ' => g δ'
  | r => r
@[simp] theorem sSeq_nx {f g : Mo Fl} {δ δ' : Env} (h : f δ = .ok .nx δ') : sSeq f g δ = g δ' := by unfold sSeq; rw [h]
theorem ds_nil : DSs X W kp [] sNx := ⟨_, pss_nil, fun D σ H F δ fp s h => h.nx (Ext.refl s.inn) s (Kept.refl _ _)⟩
theorem SPost.seq {D : Ends} {σ : L2.St} {F H : Hp} {fp : List Addr} {f g : Mo Fl} {δ : Env} {u : TS} (h : SPost X W kp D σ F H fp (sSeq f g δ))
    (q : ∀ D σ H F δ fp, St3 X.KW F H δ σ fp → SPost X W kp D σ F H fp (g δ) → u D σ H) : SPost X W kp { D with nx := u D } σ F H fp (f δ) := by
  unfold sSeq at h
  cases e : f δ with
  | st => rw [e] at h; exact h
  | ex c x δ' => rw [e] at h; exact h
  | ok a δ' =>
    rw [e] at h
    cases a with
    | nx => exact fun F' H' fp' σ' e' s k => q D σ' H' F' δ' fp' s (SPost.from h e' k)
    | bk => exact h
    | ct => exact h
    | ret x => exact h
theorem ds_cons {st : Stmt} {sts : List Stmt} {f g : Mo Fl} (h1 : DS X W kp st f) (h2 : DSs X W kp sts g) : DSs X W kp (st :: sts) (sSeq f g) := by
  obtain ⟨t, p, q⟩ := h1
  obtain ⟨u, p2, q2⟩ := h2
  exact ⟨_, pss_cons p p2, fun D σ H F δ fp s h => q _ σ H F δ fp s (h.seq q2)⟩
theorem ds_one {st : Stmt} {f : Mo Fl} (h1 : DS X W kp st f) : DSs X W kp [st] f := by
  obtain ⟨t, p, q⟩ := h1
  exact ⟨_, pss_one p, q⟩
theorem ds_pass : DS X W kp (.Pass pos) sNx := ⟨_, ps_pass, fun D σ H F δ fp s h => h.nx (Ext.refl s.inn) s (Kept.refl _ _)⟩
def sBk : Mo Fl := fun δ => .ok .bk δ
def sCt : Mo Fl := fun δ => .ok .ct δ
theorem ds_break : DS X W kp (.Break pos) sBk := ⟨_, ps_break, fun D σ H F δ fp s h => h F H fp σ (Ext.refl s.inn) s (Kept.refl _ _)⟩
theorem ds_continue : DS X W kp (.Continue pos) sCt := ⟨_, ps_continue, fun D σ H F δ fp s h => h F H fp σ (Ext.refl s.inn) s (Kept.refl _ _)⟩
def sNever : Mo Fl := fun _ => .st
theorem ds_never {st : Stmt} : DS X W kp st sNever := ⟨_, ps_never, fun D σ H F δ fp s h => h.elim⟩
def sExpr (f : Mo PyData) : Mo Fl := bnd f fun _ δ => .ok .nx δ
theorem ds_expr {e : Expr} {f : Mo PyData} (h : DE X W e f) (hs : swapsWith e none pos.line X.env = pure false := by rfl) : DS X W kp (.Expr e pos) (sExpr f) := by
  obtain ⟨t, p, q⟩ := h
  refine ⟨_, ps_expr p hs, fun D σ H F δ fp s h => q σ H F δ fp _ s ((SPost.bind h).imp fun d δ1 F1 H1 fp1 e1 s1 h1 v rv => h1.nx (Ext.refl s1.inn) s1 (Kept.refl _ _))⟩
def sRet (f : Mo PyData) : Mo Fl := bnd f fun d δ => .ok (.ret (.d d)) δ
theorem ds_ret {e : Expr} {f : Mo PyData} (h : DE X W e f) : DS X W kp (.Return (some e) pos) (sRet f) := by
  obtain ⟨t, p, q⟩ := h
  refine ⟨_, ps_ret p, fun D σ H F δ fp s h => q σ H F δ fp _ s ((SPost.bind h).imp fun d δ1 F1 H1 fp1 e1 s1 h1 v rv => ?_)⟩
  exact h1 F1 H1 fp1 σ v [] (by rw [List.append_nil]; exact Ext.refl s1.inn) s1 (Kept.refl _ _) (.d rv) (by rw [List.append_nil]; exact s1.nd) (fun a h => nomatch h)
def sRetV (f : Mo Val) : Mo Fl := bnd f fun d δ => .ok (.ret d) δ
theorem ds_retV {e : Expr} {f : Mo Val} (h : DV X W e f) : DS X W kp (.Return (some e) pos) (sRetV f) := by
  obtain ⟨t, p, q⟩ := h
  refine ⟨_, ps_ret p, fun D σ H F δ fp s h => q σ H F δ fp _ s ?_⟩
  unfold sRetV bnd at h
  cases e : f δ with
  | st => rw [e] at h; exact h
  | ex c x δ' => rw [e] at h; exact fun F' H' fp' dd e s z => h F' H' fp' σ dd e s (Kept.refl _ _) z
  | ok x δ' => rw [e] at h; exact fun F' H' fp' v q e1 s1 r nd nf => h F' H' fp' σ v q e1 s1 (Kept.refl _ _) r nd nf
def sRetN : Mo Fl := fun δ => .ok (.ret (.d .none)) δ
theorem ds_retN : DS X W kp (.Return none pos) sRetN :=
  ⟨_, ps_retN, fun D σ H F δ fp s h => h F H fp σ .non [] (by rw [List.append_nil]; exact Ext.refl s.inn) s (Kept.refl _ _) (.d .non) (by rw [List.append_nil]; exact s.nd) (fun a h => nomatch h)⟩
def sIf (c : Mo Bool) (f g : Mo Fl) : Mo Fl := bnd c fun b δ => if b = true then f δ else g δ
theorem ds_if {c : Expr} {a b : List Stmt} {fc : Mo Bool} {f g : Mo Fl} (hc : DT X W c fc) (ha : DSs X W kp a f) (hb : DSs X W kp b g) : DS X W kp (.If c a b pos) (sIf fc f g) := by
  obtain ⟨tc, pc, qc⟩ := hc
  obtain ⟨ta, pa, qa⟩ := ha
  obtain ⟨tb, pb, qb⟩ := hb
  refine ⟨_, ps_if pc pa pb, fun D σ H F δ fp s h => qc σ H F δ fp _ s ((SPost.bind h).imp fun d δ1 F1 H1 fp1 e1 s1 h1 => ?_)⟩
  cases d with
  | true => exact iteT (qa D σ H1 F1 δ1 fp1 s1 h1)
  | false => exact iteF (qb D σ H1 F1 δ1 fp1 s1 h1)
/-! ### stores -/
def sSet (τ : Tau) (f : Mo PyData) : Mo Fl := bnd f fun d δ => (Res.of (τ d δ) δ).bind fun δ' _ => .ok .nx δ'
theorem off_kept {is kp : List Nat} {σ σ' : L2.St} (h : is.all (fun i => !kp.contains i) = true) (o : Off is σ σ') : Kept kp σ σ' := fun i hi => o.2 i fun z => by
  have := List.all_eq_true.mp h i z
  simp [hi] at this
theorem ds_set {tg e : Expr} {f : Mo PyData} {is : List Nat} {τ : Tau} (he : DE X W e f) (hg : DG X tg is τ) (hk : is.all (fun i => !kp.contains i) = true := by rfl) (hs : swapsWithSole [tg] e pos.line X.env = pure false := by rfl) (hw : swappedStores [tg] e X.env = pure none := by rfl) (h0 : (assignEach [tg] X.env).map (·.2) = [assign tg X.env] := by rfl) :
    DS X W kp (.Assign [tg] e pos) (sSet τ f) := by
  obtain ⟨t, p, q⟩ := he
  obtain ⟨g, pg, qg⟩ := hg
  refine ⟨_, ps_asg p pg hs hw h0, fun D σ H F δ fp s h => q σ H F δ fp _ s ((SPost.bind h).imp fun d δ1 F1 H1 fp1 e1 s1 h1 v rv => ?_)⟩
  refine qg v d σ H1 F1 δ1 fp1 _ s1 rv ?_
  have h1 : SPost X W kp D σ F1 H1 fp1 ((Res.of (τ d δ1) δ1).bind fun δ' _ => .ok .nx δ') := h1
  cases e : τ d δ1 with
  | none => rw [e] at h1; exact False.elim h1
  | some δ2 =>
    rw [e] at h1
    exact ⟨δ2, rfl, fun σ' fp' s2 hs2 o => SPost.nx h1 ((Ext.refl s1.inn).less hs2) s2 (off_kept hk o)⟩
def sSetN (i : Nat) (f : Mo PyData) : Mo Fl := bnd f fun d δ => .ok .nx (δ.set i (some (.d d)))
theorem ds_setN {i : Nat} {x : Str} {e : Expr} {f : Mo PyData} {pos' : Pos} (hN : X.N.Nodup) (hi : X.N[i]? = some x) (hx : Loc X.env.scope x) (he : DE X W e f) (hk : (!kp.contains i) = true := by rfl) (hs : swapsWith e (some (.Name x pos')) pos.line X.env = pure false := by rfl) (hf : X.fn x = true ∨ X.env.scope.names.lookup x = some .local := by first | exact .inl rfl | exact .inr rfl | assumption) :
    DS X W kp (.Assign [.Name x pos'] e pos) (sSetN i f) := by
  obtain ⟨t, p, q⟩ := he
  refine ⟨_, ps_set hN hi hx p hs hf, fun D σ H F δ fp s h => q σ H F δ fp _ s ((SPost.bind h).imp fun d δ1 F1 H1 fp1 e1 s1 h1 v rv => ?_)⟩
  obtain ⟨fp2, s2, h2⟩ := s1.storeD i rv
  exact SPost.nx h1 ((Ext.refl s1.inn).less h2) s2 (fun j hj => (Off.set i σ (some v)).2 j fun z => by simp at z; subst z; simp [hj] at hk)
/-- x = a thing of its own -/
def sSetV (i : Nat) (f : Mo Val) : Mo Fl := bnd f fun x δ => .ok .nx (δ.set i (some x))
theorem t_setV {f : Mo Val} {te : TE} {i : Nat} (q : ∀ σ H F δ fp Q, St3 X.KW F H δ σ fp → VPost X W σ F H fp (f δ) Q → te σ H Q) (hk : (!kp.contains i) = true)
    {D : Ends} {σ : L2.St} {F H : Hp} {δ : Env} {fp : List Addr} (s : St3 X.KW F H δ σ fp) (h : SPost X W kp D σ F H fp (sSetV i f δ)) : tAsg te (gName i) D σ H := by
  refine q σ H F δ fp _ s ?_
  unfold sSetV bnd at h
  cases e : f δ with
  | st => rw [e] at h; exact h
  | ex c x δ' => rw [e] at h; exact fun F' H' fp' dd e s z => h F' H' fp' σ dd e s (Kept.refl _ _) z
  | ok x δ' =>
    rw [e] at h
    intro F' H' fp' v q e1 s1 r nd nf
    obtain ⟨fp2, s2, h2⟩ := s1.store i r nd nf
    exact SPost.nx h (e1.less h2) s2 (fun j hj => (Off.set i σ (some v)).2 j fun z => by simp at z; subst z; simp [hj] at hk)
theorem ds_setV {i : Nat} {x : Str} {e : Expr} {f : Mo Val} {pos' : Pos} (hN : X.N.Nodup) (hi : X.N[i]? = some x) (hx : Loc X.env.scope x) (he : DV X W e f) (hk : (!kp.contains i) = true := by rfl) (hs : swapsWith e (some (.Name x pos')) pos.line X.env = pure false := by rfl) (hf : X.fn x = true ∨ X.env.scope.names.lookup x = some .local := by first | exact .inl rfl | exact .inr rfl | assumption) :
    DS X W kp (.Assign [.Name x pos'] e pos) (sSetV i f) := by
  obtain ⟨t, p, q⟩ := he
  exact ⟨_, ps_set hN hi hx p hs hf, fun D σ H F δ fp s h => t_setV q hk s h⟩
/-- x = [..] on one line -/
theorem ds_setLc {i : Nat} {y : Str} {py spos : Pos} {elt tg iter : Expr} {ifs : List Expr} {scope : Scope} {own : List (Str × Nat)} {is : List Nat} {τ : Tau} {fi : Mo (List PyData)} {ft : Mo Bool} {fe : Mo PyData} (hc : X.calm = true) (hN : X.N.Nodup) (hy : X.N[i]? = some y) (hyl : X.env.scope.names.lookup y = some .local)
    (hsw : swapsWith (.ListComp elt [⟨tg, iter, ifs, 0⟩] scope pos) (some (.Name y py)) spos.line X.env = pure true) (hi : DI X W tg iter fi) (ok : BlkOk X.N X.env.scope scope own) (hio : ∀ i ∈ is, i ∈ own.map (·.2))
    (hg : ∀ (s : Shared) (H : Hp) (C : Addr) (cl : List (Str × Addr)) (fp : List Addr), DG (X.blk s H scope (compEnvC scope cl C X.env) fp) tg is τ) (ht : ∀ (s : Shared) (H : Hp) (C : Addr) (cl : List (Str × Addr)) (fp : List Addr), DTs (X.blk s H scope (compEnvC scope cl C X.env) fp) W0 ifs ft)
    (he : ∀ (s : Shared) (H : Hp) (C : Addr) (cl : List (Str × Addr)) (fp : List Addr), DE (X.blk s H scope (compEnvC scope cl C X.env) fp) W0 elt fe) (hk : (!kp.contains i) = true := by rfl) (hs : ∀ x, foldedSetIterable iter X.env x = pure x := by intro _; rfl) :
    DS X W kp (.Assign [.Name y py] (.ListComp elt [⟨tg, iter, ifs, 0⟩] scope pos) spos) (sSetV i (mLc (own.map (·.2)) τ fi ft fe)) := by
  obtain ⟨wi, pi, qi⟩ := hi
  exact ⟨_, ps_setLc (g := tDG X is τ) (tt := tDT X W0 ft) (te := tDE X W0 fe) hc hN hy hyl hsw pi ok (fun s H C cl fp => (hg s H C cl fp).pg) (fun s H C cl fp => ht s H C cl fp) (fun s H C cl fp => (he s H C cl fp).pe) hs, fun D σ H F δ fp s h => t_setV (fun σ H F δ fp Q s h => t_lc hio qi s h) hk s h⟩
/-- the same, frozen at once -/
def sSetF (i : Nat) (f : Mo Val) : Mo Fl := bnd f fun x δ => (Res.of x.vw δ).bind fun d δ => .ok .nx (δ.set i (some (.d d)))
theorem t_setF {f : Mo Val} {te : TE} {i : Nat} (q : ∀ σ H F δ fp Q, St3 X.KW F H δ σ fp → VPost X W σ F H fp (f δ) Q → te σ H Q) (hk : (!kp.contains i) = true)
    {D : Ends} {σ : L2.St} {F H : Hp} {δ : Env} {fp : List Addr} (s : St3 X.KW F H δ σ fp) (h : SPost X W kp D σ F H fp (sSetF i f δ)) : tAsg te (gName i) D σ H := by
  refine q σ H F δ fp _ s ?_
  unfold sSetF bnd at h
  cases e : f δ with
  | st => rw [e] at h; exact h
  | ex c x δ' => rw [e] at h; exact fun F' H' fp' dd e s z => h F' H' fp' σ dd e s (Kept.refl _ _) z
  | ok x δ' =>
    rw [e] at h
    cases ev : x.vw with
    | none => simp only [Res.bind_ok, ev, Res.of_none, Res.bind_st] at h; exact False.elim h
    | some d =>
      simp only [Res.bind_ok, ev, Res.of_some] at h
      intro F' H' fp' v q e1 s1 r nd nf
      obtain ⟨F2, _, e2, s2, r2⟩ := frz_post e1 s1 r nd nf ev
      obtain ⟨fp3, s3, h3⟩ := s2.storeD i r2
      exact SPost.nx h (e2.less h3) s3 (fun j hj => (Off.set i σ (some v)).2 j fun z => by simp at z; subst z; simp [hj] at hk)
theorem ds_setLcF {i : Nat} {y : Str} {py spos : Pos} {elt tg iter : Expr} {ifs : List Expr} {scope : Scope} {own : List (Str × Nat)} {is : List Nat} {τ : Tau} {fi : Mo (List PyData)} {ft : Mo Bool} {fe : Mo PyData} (hc : X.calm = true) (hN : X.N.Nodup) (hy : X.N[i]? = some y) (hyl : X.env.scope.names.lookup y = some .local)
    (hsw : swapsWith (.ListComp elt [⟨tg, iter, ifs, 0⟩] scope pos) (some (.Name y py)) spos.line X.env = pure true) (hi : DI X W tg iter fi) (ok : BlkOk X.N X.env.scope scope own) (hio : ∀ i ∈ is, i ∈ own.map (·.2))
    (hg : ∀ (s : Shared) (H : Hp) (C : Addr) (cl : List (Str × Addr)) (fp : List Addr), DG (X.blk s H scope (compEnvC scope cl C X.env) fp) tg is τ) (ht : ∀ (s : Shared) (H : Hp) (C : Addr) (cl : List (Str × Addr)) (fp : List Addr), DTs (X.blk s H scope (compEnvC scope cl C X.env) fp) W0 ifs ft)
    (he : ∀ (s : Shared) (H : Hp) (C : Addr) (cl : List (Str × Addr)) (fp : List Addr), DE (X.blk s H scope (compEnvC scope cl C X.env) fp) W0 elt fe) (hk : (!kp.contains i) = true := by rfl) (hs : ∀ x, foldedSetIterable iter X.env x = pure x := by intro _; rfl) :
    DS X W kp (.Assign [.Name y py] (.ListComp elt [⟨tg, iter, ifs, 0⟩] scope pos) spos) (sSetF i (mLc (own.map (·.2)) τ fi ft fe)) := by
  obtain ⟨wi, pi, qi⟩ := hi
  exact ⟨_, ps_setLc (g := tDG X is τ) (tt := tDT X W0 ft) (te := tDE X W0 fe) hc hN hy hyl hsw pi ok (fun s H C cl fp => (hg s H C cl fp).pg) (fun s H C cl fp => ht s H C cl fp) (fun s H C cl fp => (he s H C cl fp).pe) hs, fun D σ H F δ fp s h => t_setF (fun σ H F δ fp Q s h => t_lc hio qi s h) hk s h⟩
/-- a, b = x, y -/
def sPar (i j : Nat) (f : Mo (List PyData)) : Mo Fl := bnd f fun ds δ => match ds with
  | [d, e] => .ok .nx ((δ.set i (some (.d d))).set j (some (.d e)))
  | _ => .st
theorem ds_par {i j : Nat} {x y : Str} {a b : Expr} {f : Mo (List PyData)} {px py pt : Pos} {kt k2 pt2} (hc : X.calm = true) (hN : X.N.Nodup) (hi : X.N[i]? = some x) (hj : X.N[j]? = some y) (hij : i ≠ j)
    (hx : X.env.scope.names.lookup x = some .local) (hy : X.env.scope.names.lookup y = some .local) (ha : DAs X W [a, b] f)
    (hw : swappedStores [.Tuple [.Name x px, .Name y py] kt pt] (.Tuple [a, b] k2 pt2) X.env = pure (some [x, y])) (hk : (!kp.contains i && !kp.contains j) = true := by rfl)
    (hs : swapsWithSole [.Tuple [.Name x px, .Name y py] kt pt] (.Tuple [a, b] k2 pt2) pos.line X.env = pure false := by rfl) :
    DS X W kp (.Assign [.Tuple [.Name x px, .Name y py] kt pt] (.Tuple [a, b] k2 pt2) pos) (sPar i j f) := by
  obtain ⟨⟨t, p, q⟩, lb⟩ := ha
  refine ⟨_, ps_par hc hN hi hj hij hx hy p hw hs, fun D σ H F δ fp s h => q σ H F δ fp _ s ((SPost.bind h).impE fun ds δ1 F1 H1 fp1 eq e1 s1 h1 vs rv => ?_)⟩
  have hl := lb _ _ _ eq
  cases rv with
  | nil => cases hl
  | cons a b =>
    cases b with
    | nil => cases hl
    | cons b c =>
      cases c with
      | cons _ _ => simp at hl
      | nil =>
        obtain ⟨fp2, s2, h2⟩ := s1.storeD i a
        obtain ⟨fp3, s3, h3⟩ := s2.storeD j b
        have hk' := (Bool.and_eq_true_iff.mp hk)
        exact ⟨_, _, rfl, SPost.nx h1 ((Ext.refl s1.inn).less fun a ha => h2 a (h3 a ha)) s3 fun m hm => by
          rw [List.getElem?_set_ne (fun z => by subst z; simp [hm] at hk'), List.getElem?_set_ne (fun z => by subst z; simp [hm] at hk')]⟩
end
end DL
namespace DL
open PySem PySem.Spec PyProof.Rows L2
section
variable {X : Cx} {W : WX} {kp : List Nat} {pos : Pos}
/-- a turn of a loop: what follows it -/
def sTurn (r : Res Fl) (k : Mo Fl) : Res Fl := match r with
  | .ok .nx δ => k δ
  | .ok .ct δ => k δ
  | .ok .bk δ => .ok .nx δ
  | r => r
@[simp] theorem sTurn_nx (δ : Env) (k : Mo Fl) : sTurn (.ok .nx δ) k = k δ := rfl
@[simp] theorem sTurn_ct (δ : Env) (k : Mo Fl) : sTurn (.ok .ct δ) k = k δ := rfl
@[simp] theorem sTurn_bk (δ : Env) (k : Mo Fl) : sTurn (.ok .bk δ) k = .ok .nx δ := rfl
@[simp] theorem sTurn_ret (x : Val) (δ : Env) (k : Mo Fl) : sTurn (.ok (.ret x) δ) k = .ok (.ret x) δ := rfl
def sWhileN (c : Mo Bool) (b : Mo Fl) : Nat → Mo Fl
  | 0 => fun _ => .st
  | n + 1 => fun δ => (c δ).bind fun t δ1 => if t = true then sTurn (b δ1) (sWhileN c b n) else .ok .nx δ1
def sWhile (fuel : Env → Nat) (c : Mo Bool) (b : Mo Fl) : Mo Fl := fun δ => sWhileN c b (fuel δ) δ
theorem SPost.turn {D : Ends} {σ : L2.St} {F H : Hp} {fp : List Addr} {r : Res Fl} {k : Mo Fl} {N : L2.St → Hp → Prop} (h : SPost X W kp D σ F H fp (sTurn r k))
    (q : ∀ F' H' fp' σ' δ', Ext F H fp F' H' fp' → St3 X.KW F' H' δ' σ' fp' → Kept kp σ σ' → SPost X W kp D σ' F' H' fp' (k δ') → N σ' H') : SPost X W kp { D with nx := N, ct := N, bk := D.nx } σ F H fp r := by
  cases r with
  | st => exact h
  | ex c x δ' => exact h
  | ok a δ' =>
    cases a with
    | nx => exact fun F' H' fp' σ' e s k => q F' H' fp' σ' δ' e s k (SPost.from h e k)
    | ct => exact fun F' H' fp' σ' e s k => q F' H' fp' σ' δ' e s k (SPost.from h e k)
    | bk => exact h
    | ret x => exact h
theorem ds_while {c : Expr} {body : List Stmt} {fc : Mo Bool} {fb : Mo Fl} (fuel : Env → Nat) (hp : PassesOwn (model X.prog X.w) X.A X.env X.xe) (hc : DT X W c fc) (hb : DSs X W kp body fb) : DS X W kp (.While c body [] pos) (sWhile fuel fc fb) := by
  obtain ⟨tc, pc, qc⟩ := hc
  obtain ⟨tb, pb, qb⟩ := hb
  refine ⟨_, ps_while hp pc pb, fun D σ H F δ fp s h => ?_⟩
  refine ⟨fun m σ' H' => ∃ F fp δ, St3 X.KW F H' δ σ' fp ∧ SPost X W kp D σ' F H' fp (sWhileN fc fb m δ), ⟨fuel δ, F, fp, δ, s, h⟩, fun m σ' H' ⟨F, fp, δ, s, h⟩ => ?_⟩
  cases m with
  | zero => exact False.elim h
  | succ m =>
    refine qc σ' H' F δ fp _ s ((SPost.bind h).imp fun t δ1 F1 H1 fp1 e1 s1 h1 => ?_)
    cases t with
    | false => exact iteF (h1.nx (Ext.refl s1.inn) s1 (Kept.refl _ _))
    | true =>
      refine iteT ⟨fun σ' H' => ∃ F fp δ, St3 X.KW F H' δ σ' fp ∧ SPost X W kp D σ' F H' fp (sWhileN fc fb m δ), fun σ2 H2 z => ⟨m, Nat.lt_succ_self m, z⟩, ?_⟩
      exact qb _ σ' H1 F1 δ1 fp1 s1 (SPost.turn h1 fun F' H' fp' σ' δ' e s k z => ⟨F', fp', δ', s, z⟩)
def sForGo (τ : Tau) (b : Mo Fl) : List PyData → Mo Fl
  | [], δ => .ok .nx δ
  | d :: ds, δ => (Res.of (τ d δ) δ).bind fun δ1 _ => sTurn (b δ1) (sForGo τ b ds)
def sFor (τ : Tau) (fi : Mo (List PyData)) (b : Mo Fl) : Mo Fl := bnd fi fun ds => sForGo τ b ds
theorem sForGo_cons (τ : Tau) (b : Mo Fl) (d : PyData) (ds : List PyData) (δ : Env) : sForGo τ b (d :: ds) δ = (Res.of (τ d δ) δ).bind fun δ1 _ => sTurn (b δ1) (sForGo τ b ds) := rfl
theorem ds_for {tg iter : Expr} {body : List Stmt} {is : List Nat} {τ : Tau} {fi : Mo (List PyData)} {fb : Mo Fl} (hp : PassesOwn (model X.prog X.w) X.A X.env X.xe) (hc : X.calm = true) (hi : DI X W tg iter fi) (hg : DG X tg is τ) (hb : DSs X W kp body fb) (hk : is.all (fun i => !kp.contains i) = true := by rfl) (hs : ∀ x, foldedSetIterable iter X.env x = pure x := by intro _; rfl) :
    DS X W kp (.For tg iter body [] pos) (sFor τ fi fb) := by
  obtain ⟨wi, pi, qi⟩ := hi
  obtain ⟨g, pg, qg⟩ := hg
  obtain ⟨tb, pb, qb⟩ := hb
  refine ⟨_, ps_for hp hc pi pg pb hs, fun D σ H F δ fp s h => qi σ H F δ fp _ s ((SPost.bind h).imp fun ds δ1 F1 H1 fp1 e1 s1 h1 J wk => ?_)⟩
  refine ⟨fun i m σ' H' => m = ds.length - i ∧ ∃ F fp δ, St3 X.KW F H' δ σ' fp ∧ Same F1 F ∧ SPost X W kp D σ' F H' fp (sForGo τ fb (ds.drop i) δ), ⟨ds.length, by simp, F1, fp1, δ1, s1, Same.refl _, h1⟩, fun i m σ2 H2 ⟨em, F2, fp2, δ2, s2, su, h2⟩ => ?_⟩
  by_cases hi : i < ds.length
  · refine .inr ⟨wk.go i H2 (su.trans s2.inn) hi, fun σ' H' => ∃ F fp δ, St3 X.KW F H' δ σ' fp ∧ Same F1 F ∧ SPost X W kp D σ' F H' fp (sForGo τ fb (ds.drop (i + 1)) δ), fun σ' H' z => ⟨ds.length - (i + 1), by omega, rfl, z⟩, fun x H3 hy => ?_⟩
    obtain ⟨F3, d, g3, hd, rd⟩ := wk.yld i F2 H2 x H3 su s2.inn hi hy
    have s3 := s2.grow g3
    have hdrop : ds.drop i = d :: ds.drop (i + 1) := by
      rw [List.drop_eq_getElem_cons hi]
      congr 1
      rw [List.getElem?_eq_getElem hi] at hd
      exact Option.some.inj hd
    rw [hdrop, sForGo_cons] at h2
    cases eτ : τ d δ2 with
    | none => rw [eτ] at h2; exact False.elim h2
    | some δ3 =>
      rw [eτ, Res.of_some, Res.bind_ok] at h2
      refine qg x d σ2 H3 F3 δ2 fp2 _ s3 rd ⟨δ3, eτ, fun σ4 fp4 s4 hs4 o4 => ?_⟩
      have h4 := SPost.from h2 ((g3.ext (fp := fp2)).less hs4) (off_kept hk o4)
      exact qb _ σ4 H3 F3 δ3 fp4 s4 (SPost.turn h4 fun F' H' fp' σ' δ' e s k z => ⟨F', fp', δ', s, su.trans (g3.sub.trans e.sub), z⟩)
  · refine .inl ⟨wk.stop i H2 (su.trans s2.inn) (by omega), ?_⟩
    rw [List.drop_eq_nil_of_le (by omega)] at h2
    exact h2 F2 H2 fp2 σ2 (Ext.refl s2.inn) s2 (Kept.refl _ _)
/-! ### x op= e -/
def sAug (o : Op2) (i : Nat) (f : Mo PyData) : Mo Fl := fun δ => (mVar i δ).bind fun x δ => (f δ).bind fun y δ1 => (Res.of (o x y) δ1).bind fun z δ2 => .ok .nx (δ2.set i (some (.d z)))
theorem ds_aug {i : Nat} {x : Str} {e : Expr} {f : Mo PyData} {op : Operator} {o : Op2} {pos' : Pos} (hN : X.N.Nodup) (hi : X.N[i]? = some x) (hx : Loc X.env.scope x) (he : DE X W e f) (ho : PIp X op (rV X.KW o)) (hk : (!kp.contains i) = true := by rfl) (hf : X.fn x = true ∨ X.env.scope.names.lookup x = some .local := by first | exact .inl rfl | exact .inr rfl | assumption) :
    DS X W kp (.AugAssign (.Name x pos') op e pos) (sAug o i f) := by
  obtain ⟨t, p, q⟩ := he
  refine ⟨_, ps_aug hN hi hx p ho hf, fun D σ H F δ fp s h => ?_⟩
  unfold sAug mVar at h
  split at h
  · rename_i x' hx'
    obtain ⟨v, qx, ev, r⟩ := s.rep.at hx'
    cases r with
    | d r =>
      rw [Res.bind_ok] at h
      refine ⟨v, ev, q σ H F δ fp _ s ((SPost.bind h).imp fun y δ1 F1 H1 fp1 e1 s1 h1 w rw_ => ?_)⟩
      cases eo : o x' y with
      | none => rw [eo] at h1; exact False.elim h1
      | some z =>
        rw [eo, Res.of_some, Res.bind_ok] at h1
        refine ⟨F1, x', y, z, s1.inn, .dat (r.mono e1.sub), .dat rw_, eo, fun F' H' v' g r' => ?_⟩
        obtain ⟨fp3, s3, h3⟩ := (s1.grow g).storeD i r'
        exact SPost.nx h1 ((g.ext (fp := fp1)).less h3) s3 (fun j hj => (Off.set i σ (some v')).2 j fun z => by simp at z; subst z; simp [hj] at hk)
  · exact False.elim h
def oIAdd : Op2 := fun x y => match x, y with
  | .int i, .int j => some (.int (i + j))
  | .str a, .str b => if a.length + b.length ≤ sizeLine then some (.str (a ++ b)) else none
  | _, _ => none
theorem ok_iadd : PIp X .Add (rV X.KW oIAdd) := by
  intro pins s σ H x y v u Q I rx ry ⟨F, dx, dy, z, e, vx, vy, ho, q⟩
  unfold oIAdd at ho
  split at ho
  · cases ho
    obtain rfl := vx.int
    obtain rfl := vy.int
    exact ip_add pins s σ H _ _ v u Q I rx ry ⟨_, _, rfl, rfl, q F H _ (Grow.refl e) (.int _)⟩
  · split at ho
    · rename_i hz
      cases ho
      obtain ⟨rfl, _⟩ := vx.str
      obtain ⟨rfl, _⟩ := vy.str
      exact iop_add_str pins s σ H _ _ v u Q I rx ry ⟨_, _, rfl, rfl, hz, q F H _ (Grow.refl e) (.str _ (by rw [Str.length_append]; exact hz))⟩
    · cases ho
  · cases ho
end
end DL
namespace DL
open PySem PySem.Spec PyProof.Rows L2
/-! ### defs where nothing is being shown (no guard of repr stands) -/
structure FnG (P : Program) (w : World) (K : PySem.W.Frag) (mg : Str → Option Value) (base : Heap) (k : Nat) (f : Addr) (fd : FuncData) (ps : List Str) (sp : Sp) : Prop where
  len : ∀ vs H Q E, sp vs H Q E → vs.length = ps.length
  run : ∀ (A : Around) (outer : List PySem.Env) (s : Shared) (H : Hp) (args : Args) (us : List Value) (vs : List V) (Q : VK) (E : XK), A.guards = some [] → Room k A → Env0 P w K mg base A outer s H → BindsTo s fd args (ps.zip us) → Vals vs us → sp vs H Q E →
    codeAny (model P w) A (.call (.ref f) args) (CR (L2.CX P w) outer P w H s Q E) s
theorem FnG.mono {P : Program} {w : World} {K : PySem.W.Frag} {mg : Str → Option Value} {base : Heap} {j k : Nat} {f : Addr} {fd : FuncData} {ps : List Str} {sp : Sp} (F : FnG P w K mg base j f fd ps sp) (h : j ≤ k) : FnG P w K mg base k f fd ps sp :=
  ⟨F.len, fun A outer s H args us vs Q E g hr => F.run A outer s H args us vs Q E g (hr.mono h)⟩
abbrev cxG (P : Program) (w : World) (K : PySem.W.Frag) (mg : Str → Option Value) (base : Heap) (N : List Str) (qual : Str) (scope : Scope) (f : Addr) (cd : Value) (A : Around) (outer : List PySem.Env) (s : Shared) (H : Hp) (E : XK) : Cx := cxOf (L2.CX P w) P w K mg base N qual scope f cd A outer s H E
section
variable {P : Program} {w : World} {K : PySem.W.Frag} {mg : Str → Option Value} {base : Heap}
theorem funG {x qual : Str} {params : Arguments} {dbody : List Stmt} {scope : Scope} {dvs : List V} {kws : List (Str × V)} {f : Addr} {fd : FuncData} {N ps : List Str} {k : Nat} {sp : Sp} (F : FunD K x qual params dbody scope dvs kws f fd) (S : FnScope N ps scope) (len : ∀ vs H Q E, sp vs H Q E → vs.length = ps.length)
    (hbody : ∀ (cdv : Value) (A : Around) (outer : List PySem.Env) (s : Shared) (H : Hp) (vs : List V) (Q : VK) (E : XK), (A.deeper (envOfC qual scope s.heap.objs.size f cdv)).guards = some [] → Room k (A.deeper (envOfC qual scope s.heap.objs.size f cdv)) → sp vs H Q E →
      ∃ t, PSs (cxG P w K mg base N qual scope f cdv A outer s H E) dbody t ∧ t { nx := fun _ H' => Q .non H', rt := Q } (start N vs) H) : FnG P w K mg base (k + 1) f fd ps sp := by
  obtain ⟨oc, od, dV, kV, doc, pm, an, cdv, ct, osl, rfl, lk, hcd, _, _⟩ := F.ex
  refine ⟨len, fun A outer s H args us vs Q E hg hr e0 hb r hsp => ?_⟩
  have keep0 : ∀ b o, base.get? b = some o → s.heap.get? b = some o := fun b o e => (e0.bs b o e).1
  have inK : K.In s.heap := e0.mod.kin.keeps keep0
  have hpar : ∀ y ∈ ps.zip us, scope.names.lookup y.1 = some .local ∨ (scope.names.lookup y.1 = some .cell ∧ ((cellsFrom (s.heap.objs.size + 1) scope.names []).lookup y.1).isSome = true) := by
    rintro ⟨n, v⟩ hy
    exact (S.par n (List.of_mem_zip hy).1).imp id fun q => ⟨q, PySem.W.cellsFrom_some _ _ _ (.inl q)⟩
  refine codeAny_call_function hr.depth (inK _ _ lk) rfl S.co S.gen rfl (PySem.W.codeRec_of inK hcd) (hb _ _ _ _ ?_)
  refine wpAny_newFunctionEnv_cells S.kind hpar fun env he s1 x => ?_
  subst he
  refine ⟨(e0.mod.nolimit.keeps keep0).keeps x.toInCall.keep, codeAny_func ?_⟩
  obtain ⟨t, ht, hq⟩ := hbody cdv A outer s H vs Q E hg (hr.deeper _) hsp
  have I : L2.Inv (cxG P w K mg base N qual scope f cdv A outer s H E) [] (start N vs) H s1 := inv_start S hr.hd e0 (len _ _ _ _ hsp) r x
  refine wpAny_mono (ht.run [] s1 (start N vs) H _ I hq) (fun fl s' hs => ?_) fun e s' hs => hs
  cases fl with
  | ret u =>
    obtain ⟨v, σ', H', J, rv, q⟩ := hs
    exact ⟨v, H', J.os, J.bare, J.base, J.hok, rv, q⟩
  | next =>
    obtain ⟨σ', H', J, q⟩ := hs
    exact ⟨.non, H', J.os, J.bare, J.base, J.hok, rfl, q⟩
  | brk =>
    obtain ⟨_, _, _, q⟩ := hs
    exact False.elim q
  | cont =>
    obtain ⟨_, _, _, q⟩ := hs
    exact False.elim q
end
section
variable {X : Cx} {k : Nat} {f : Addr} {fd : FuncData} {ps : List Str} {sp : Sp} {E : L2.St → XK} {x : Str} {p pos : Pos} {e : Expr} {es : List Expr} {t : TA}
theorem run_G {pins : List (Addr × Obj)} {σ : L2.St} {H : Hp} {s : Shared} {Q : VK} {us : List Value} {vs : List V} (F : FnG X.prog X.w X.K X.mg X.base k f fd ps sp) (hg : X.A.guards = some []) (hr : Room k X.A) (hb : Binds X.KW fd ps []) (hx : PassesAt (L2.CX X.prog X.w) X σ (E σ))
    (I : L2.Inv X pins σ H s) (r : Vals vs us) (h : sp vs H Q (E σ)) : wpAny (model X.prog X.w) X.A (call (.ref f) us) (EP X pins σ Q) X.xe s := by
  have hl : (us ++ []).length = ps.length := by rw [List.append_nil, ← r.length]; exact F.len _ _ _ _ h
  have hb' := hb s us I.kIn hl
  rw [List.append_nil] at hb'
  refine wpAny_call (codeAny_mono (F.run X.A X.stack s H ⟨us, []⟩ us vs Q (E σ) hg hr I.env0 hb' r h) fun r s' hq => ?_)
  cases r with
  | error e => exact hx pins H s e s' I hq
  | ok fl =>
    cases fl with
    | ret u => exact I.after hq
    | next => exact False.elim hq
    | brk => exact False.elim hq
    | cont => exact False.elim hq
theorem pe_callG (F : FnG X.prog X.w X.K X.mg X.base k f fd ps sp) (hgd : X.A.guards = some []) (hr : Room k X.A) (hg : Gl X x) (hm : X.mg x = some (.ref f)) (hk : PySem.W.keepIn X.KW (.ref f) = true) (hb : Binds X.KW fd ps []) (hx : ∀ σ, PassesAt (L2.CX X.prog X.w) X σ (E σ))
    (ha : PA X (e :: es) t) (hdb : (x == ("__debug__" : Str)) = false := by decide) (he : starEach (e :: es) X.env = (false, eval e X.env) :: starEach es X.env := by rfl) (hpl : (backTo pos (starEach es X.env)).any (·.1) = false := by rfl) :
    PE X (.Call (.Name x p) (e :: es) [] pos) (tCallS sp E t) := by
  refine ⟨fun pins s σ H Q I h => wpAny_Call_Name_kw (ld_glob I hg hm ?_ hdb)⟩
  refine PySem.W.callWith_K (h₀ := X.base) I.ok.mod.kin hk (thn (ha.run pos pins s σ H _ I h) fun us s1 ⟨vs, H1, I1, r, q⟩ => ⟨I1.kIn, run_G F hgd hr hb (hx σ) I1 r q⟩) he hpl
end
/-! ### a def as a function of data and owned things -/
inductive FRes where
  | st
  | ok (r : Val) (back : List Val)
  | ex (c : Addr) (x : List (Str × PyData)) (back : List Val)
abbrev FnD := List Val → FRes
def FPost (K : KW) (vs : List V) (F H : Hp) (fp : List Addr) (r : FRes) (Q : VK) (E : XK) : Prop :=
  match r with
  | .st => False
  | .ok r back => ∀ F' H' fp' v q, Ext F H fp F' H' (fp' ++ q) → St3 K F' H' (back.map some) (vs.map some) fp' → VRep K F' H' r v q → (fp' ++ q).Nodup → (∀ a ∈ q, F' a = none) → Q v H'
  | .ex c x back => ∀ F' H' fp' dd, Ext F H fp F' H' fp' → St3 K F' H' (back.map some) (vs.map some) fp' → ExR K F' H' x dd → E (.ref c) dd H'
/-- the promise: the def does what fn says -/
def spD (K : KW) (n : Nat) (fn : FnD) : Sp := fun vs H Q E => vs.length = n ∧ ∃ F args fp, St3 K F H (args.map some) (vs.map some) fp ∧ FPost K vs F H fp (fn args) Q E
/-- the def's own slots: the parameters, then the rest -/
def env0 (args : List Val) (m : Nat) : Env := args.map some ++ List.replicate m none
def isD : Val → Bool
  | .d _ => true
  | _ => false
/-- what the parameters hold at the end: data ones what they held, owned ones what stands in their slots -/
def backs : List Val → Env → Option (List Val)
  | [], _ => some []
  | .d x :: r, _ :: δ => (backs r δ).map (.d x :: ·)
  | _ :: r, some y :: δ => (backs r δ).map (y :: ·)
  | _, _ => none
/-- owned arguments come only where the def keeps its parameter -/
def ownOk (kp : List Nat) : Nat → List Val → Bool
  | _, [] => true
  | i, .d _ :: r => ownOk kp (i + 1) r
  | i, _ :: r => kp.contains i && ownOk kp (i + 1) r
/-- a def's function out of its body's -/
def fnOfB (kp : List Nat) (n m : Nat) (body : Mo Fl) : FnD := fun args => if ownOk kp 0 args && args.length == n then
    match body (env0 args m) with
    | .ok (.ret x) δ => match backs args δ with
      | some b => .ok x b
      | none => .st
    | .ok .nx δ => match backs args δ with
      | some b => .ok (.d .none) b
      | none => .st
    | .ex c x δ => match backs args δ with
      | some b => .ex c x b
      | none => .st
    | _ => .st
  else .st
section
variable {K : KW} {F H F' H' : Hp}
theorem EnvRep.more : ∀ {δ : Env} {σ : L2.St} {fp : List Addr} (m : Nat), EnvRep K F H δ σ fp → EnvRep K F H (δ ++ List.replicate m none) (σ ++ List.replicate m none) fp
  | _, _, _, 0, .nil => .nil
  | _, _, _, m + 1, .nil => .un (EnvRep.more (δ := []) (σ := []) m .nil)
  | _, _, _, m, .un a => .un (a.more m)
  | _, _, _, m, .co a b => .co a (b.more m)
theorem backs_rep {kp : List Nat} : ∀ {args : List Val} {vs : List V} {δ : Env} {σ' : L2.St} {fp0 fp : List Addr} {b : List Val} (i : Nat), EnvRep K F H (args.map some) (vs.map some) fp0 → EnvRep K F' H' δ σ' fp → backs args δ = some b →
    Same F F' → ownOk kp i args = true → (∀ j, i + j ∈ kp → j < vs.length → σ'[j]? = (vs.map some)[j]?) → ∃ fp1 r, EnvRep K F' H' (b.map some) (vs.map some) fp1 ∧ List.Perm (fp1 ++ r) fp
  | [], [], δ, σ', _, fp, b, i, _, h2, h3, _, _, _ => by cases h3; exact ⟨[], fp, .nil, by simp⟩
  | .d x :: args, v :: vs, δ, σ', fp0, fp, b, i, h1, h2, h3, e, ho, hk => by
    cases h1 with
    | co hv hr =>
      cases hv with
      | d rx =>
        cases h2 with
        | nil => cases h3
        | un h2 =>
          obtain ⟨b', hb, rfl⟩ := Option.map_eq_some_iff.mp (show (backs args _).map (.d x :: ·) = some b from h3)
          obtain ⟨fp1, r, h4, h5⟩ := backs_rep (i + 1) hr h2 hb e ho fun j hj hlt => by have := hk (j + 1) (by rw [← Nat.add_assoc, Nat.add_right_comm]; exact hj) (by simpa using hlt); simpa using this
          exact ⟨_, r, .co (.d (rx.mono e)) h4, by simpa using h5⟩
        | co hy h2 =>
          rename_i p fpr
          obtain ⟨b', hb, rfl⟩ := Option.map_eq_some_iff.mp (show (backs args _).map (.d x :: ·) = some b from h3)
          obtain ⟨fp1, r, h4, h5⟩ := backs_rep (i + 1) hr h2 hb e ho fun j hj hlt => by have := hk (j + 1) (by rw [← Nat.add_assoc, Nat.add_right_comm]; exact hj) (by simpa using hlt); simpa using this
          refine ⟨_, r ++ p, .co (.d (rx.mono e)) h4, ?_⟩
          rw [List.nil_append, ← List.append_assoc]
          exact (List.Perm.append_right p h5).trans List.perm_append_comm
  | .lst x :: args, v :: vs, δ, σ', fp0, fp, b, i, h1, h2, h3, e, ho, hk => by
    cases h1 with
    | co hv hr =>
      obtain ⟨hin, ho⟩ := Bool.and_eq_true_iff.mp (show (kp.contains i && ownOk kp (i + 1) args) = true from ho)
      have hin : i ∈ kp := by simpa using hin
      cases h2 with
      | nil => cases h3
      | un h2 => cases h3
      | co hy h2 =>
        obtain ⟨b', hb, rfl⟩ := Option.map_eq_some_iff.mp (show (backs args _).map (_ :: ·) = some b from h3)
        obtain ⟨fp1, r, h4, h5⟩ := backs_rep (i + 1) hr h2 hb e ho fun j hj hlt => by have := hk (j + 1) (by rw [← Nat.add_assoc, Nat.add_right_comm]; exact hj) (by simpa using hlt); simpa using this
        have hv0 := hk 0 (by simpa using hin) (by simp)
        simp at hv0
        subst hv0
        exact ⟨_, r, .co hy h4, by rw [List.append_assoc]; exact List.Perm.append_left _ h5⟩
  | .dct x :: args, v :: vs, δ, σ', fp0, fp, b, i, h1, h2, h3, e, ho, hk => by
    cases h1 with
    | co hv hr =>
      obtain ⟨hin, ho⟩ := Bool.and_eq_true_iff.mp (show (kp.contains i && ownOk kp (i + 1) args) = true from ho)
      have hin : i ∈ kp := by simpa using hin
      cases h2 with
      | nil => cases h3
      | un h2 => cases h3
      | co hy h2 =>
        obtain ⟨b', hb, rfl⟩ := Option.map_eq_some_iff.mp (show (backs args _).map (_ :: ·) = some b from h3)
        obtain ⟨fp1, r, h4, h5⟩ := backs_rep (i + 1) hr h2 hb e ho fun j hj hlt => by have := hk (j + 1) (by rw [← Nat.add_assoc, Nat.add_right_comm]; exact hj) (by simpa using hlt); simpa using this
        have hv0 := hk 0 (by simpa using hin) (by simp)
        simp at hv0
        subst hv0
        exact ⟨_, r, .co hy h4, by rw [List.append_assoc]; exact List.Perm.append_left _ h5⟩
  | .obj c x :: args, v :: vs, δ, σ', fp0, fp, b, i, h1, h2, h3, e, ho, hk => by
    cases h1 with
    | co hv hr =>
      obtain ⟨hin, ho⟩ := Bool.and_eq_true_iff.mp (show (kp.contains i && ownOk kp (i + 1) args) = true from ho)
      have hin : i ∈ kp := by simpa using hin
      cases h2 with
      | nil => cases h3
      | un h2 => cases h3
      | co hy h2 =>
        obtain ⟨b', hb, rfl⟩ := Option.map_eq_some_iff.mp (show (backs args _).map (_ :: ·) = some b from h3)
        obtain ⟨fp1, r, h4, h5⟩ := backs_rep (i + 1) hr h2 hb e ho fun j hj hlt => by have := hk (j + 1) (by rw [← Nat.add_assoc, Nat.add_right_comm]; exact hj) (by simpa using hlt); simpa using this
        have hv0 := hk 0 (by simpa using hin) (by simp)
        simp at hv0
        subst hv0
        exact ⟨_, r, .co hy h4, by rw [List.append_assoc]; exact List.Perm.append_left _ h5⟩
  | [], _ :: _, _, _, _, _, _, _, h1, _, _, _, _, _ => by cases h1
  | _ :: _, [], _, _, _, _, _, _, h1, _, _, _, _, _ => by cases h1
end
section
variable {P : Program} {w : World} {K : PySem.W.Frag} {mg : Str → Option Value} {base : Heap}
/-- THE RULE: a def does what its body's function says -/
theorem fn_okD {x qual : Str} {params : Arguments} {dbody : List Stmt} {scope : Scope} {dvs : List V} {kws : List (Str × V)} {f : Addr} {fd : FuncData} {N ps : List Str} {k m : Nat} {kp : List Nat} {body : Mo Fl} (F : FunD K x qual params dbody scope dvs kws f fd) (S : FnScope N ps scope) (hm : N.length = ps.length + m)
    (hbody : ∀ (cdv : Value) (A : Around) (outer : List PySem.Env) (s : Shared) (H : Hp) (E : XK), (A.deeper (envOfC qual scope s.heap.objs.size f cdv)).guards = some [] → Room k (A.deeper (envOfC qual scope s.heap.objs.size f cdv)) →
      Takes (cxG P w K mg base N qual scope f cdv A outer s H E) (fun c d _ H' => E c d H') → DSs (cxG P w K mg base N qual scope f cdv A outer s H E) (fun c d _ H' => E c d H') kp dbody body) :
    FnG P w K mg base (k + 1) f fd ps (spD ⟨K, w⟩ ps.length (fnOfB kp ps.length m body)) := by
  refine funG F S (fun vs H Q E h => h.1) fun cdv A outer s H vs Q E hg hr h => ?_
  obtain ⟨hl, F0, args, fp, st3, post⟩ := h
  obtain ⟨t, p, q⟩ := hbody cdv A outer s H E hg hr (takes_of rfl rfl rfl rfl)
  refine ⟨t, p, q _ _ H F0 (env0 args m) fp ⟨?_, st3.inn, st3.nof, st3.nd⟩ ?_⟩
  · have := st3.rep.more m
    unfold L2.start
    rw [hm, hl, Nat.add_sub_cancel_left]
    exact this
  · unfold fnOfB at post
    cases ho : (ownOk kp 0 args && args.length == ps.length) with
    | false => rw [ho] at post; exact False.elim post
    | true =>
    rw [ho, if_pos rfl] at post
    have ho := (Bool.and_eq_true_iff.mp ho).1
    have kk : ∀ {σ' : L2.St}, Kept kp (start N vs) σ' → ∀ j, 0 + j ∈ kp → j < vs.length → σ'[j]? = (vs.map some)[j]? := fun k j hj hlt => by
      rw [k j (by simpa using hj)]
      unfold L2.start
      rw [List.getElem?_append_left (by simpa using hlt)]
    have fin : ∀ {δ : Env} {b : List Val} {F' H' : Hp} {fp' : List Addr} {σ' : L2.St}, backs args δ = some b → Ext F0 H fp F' H' fp' → St3 (⟨K, w⟩ : KW) F' H' δ σ' fp' → Kept kp (start N vs) σ' → ∃ fp1 r, St3 (⟨K, w⟩ : KW) F' H' (b.map some) (vs.map some) fp1 ∧ List.Perm (fp1 ++ r) fp' := by
      intro δ b F' H' fp' σ' hb e1 s1 k1
      obtain ⟨fp1, r, h1, h2⟩ := backs_rep 0 st3.rep s1.rep hb e1.sub ho (kk k1)
      exact ⟨fp1, r, (s1.sub h1 h2).1, h2⟩
    cases eb : body (env0 args m) with
    | st => rw [eb] at post; exact False.elim post
    | ex c x δ =>
      rw [eb] at post
      cases hb : backs args δ with
      | none => simp only [hb] at post; exact False.elim post
      | some b =>
        simp only [hb] at post
        intro F' H' fp' σ' dd e1 s1 k1 z
        obtain ⟨fp1, r, s2, pm⟩ := fin hb e1 s1 k1
        exact post F' H' fp1 dd (e1.less fun a ha => pm.subset (by simp [ha])) s2 z
    | ok fl δ =>
      rw [eb] at post
      cases fl with
      | bk => exact False.elim post
      | ct => exact False.elim post
      | nx =>
        cases hb : backs args δ with
        | none => simp only [hb] at post; exact False.elim post
        | some b =>
          simp only [hb] at post
          intro F' H' fp' σ' e1 s1 k1
          obtain ⟨fp1, r, s2, pm⟩ := fin hb e1 s1 k1
          exact post F' H' fp1 .non [] (by rw [List.append_nil]; exact e1.less fun a ha => pm.subset (by simp [ha])) s2 (.d .non) (by rw [List.append_nil]; exact s2.nd) (fun a h => nomatch h)
      | ret x =>
        cases hb : backs args δ with
        | none => simp only [hb] at post; exact False.elim post
        | some b =>
          simp only [hb] at post
          intro F' H' fp' σ' v q e1 s1 k1 rv nd nf
          obtain ⟨fp1, r, s2, pm⟩ := fin hb (e1.less fun a ha => by simp [ha]) s1 k1
          have sub : ∀ a ∈ fp1, a ∈ fp' := fun a ha => pm.subset (by simp [ha])
          refine post F' H' fp1 v q (e1.less fun a ha => (List.mem_append.mp ha).elim (fun z => by simp [sub a z]) fun z => by simp [z]) s2 rv ?_ nf
          obtain ⟨n1, n2, n3⟩ := List.nodup_append.mp nd
          exact List.nodup_append.mpr ⟨s2.nd, n2, fun a ha b hb => n3 a (sub a ha) b hb⟩
end
end DL
namespace DL
open PySem PySem.Spec PyProof.Rows L2
inductive Arg where
  | dat (d : PyData)
  | own (i : Nat)
inductive ArgsV (K : KW) (F : Hp) (σ : L2.St) : List V → List Arg → Prop
  | nil : ArgsV K F σ [] []
  | dat {v : V} {d : PyData} {vs : List V} {as : List Arg} : Rp K F v d → ArgsV K F σ vs as → ArgsV K F σ (v :: vs) (.dat d :: as)
  | own {v : V} {i : Nat} {vs : List V} {as : List Arg} : σ[i]? = some (some v) → ArgsV K F σ vs as → ArgsV K F σ (v :: vs) (.own i :: as)
def takeArgs : Env → List Arg → Option (List Val × Env)
  | δ, [] => some ([], δ)
  | δ, .dat d :: r => (takeArgs δ r).map fun p => (.d d :: p.1, p.2)
  | δ, .own i :: r => match δ[i]? with
    | some (some x) => (takeArgs (δ.set i none) r).map fun p => (x :: p.1, p.2)
    | _ => none
def giveBack : Env → List Arg → List Val → Env
  | δ, .dat _ :: r, _ :: b => giveBack δ r b
  | δ, .own i :: r, y :: b => giveBack (δ.set i (some y)) r b
  | δ, _, _ => δ
section
variable {K : KW} {F H : Hp} {σ : L2.St}
theorem ArgsV.length : ∀ {vs : List V} {as : List Arg}, ArgsV K F σ vs as → vs.length = as.length
  | _, _, .nil => rfl
  | _, _, .dat _ r => congrArg (· + 1) r.length
  | _, _, .own _ r => congrArg (· + 1) r.length
theorem ArgsV.mono {F' : Hp} (e : Same F F') : ∀ {vs : List V} {as : List Arg}, ArgsV K F σ vs as → ArgsV K F' σ vs as
  | _, _, .nil => .nil
  | _, _, .dat a r => .dat (a.mono e) (r.mono e)
  | _, _, .own a r => .own a (r.mono e)
theorem EnvRep.take {x : Val} : ∀ {δ : Env} {σ : L2.St} {fp : List Addr} {i : Nat}, EnvRep K F H δ σ fp → δ[i]? = some (some x) → ∃ v q fp1, σ[i]? = some (some v) ∧ VRep K F H x v q ∧ EnvRep K F H (δ.set i none) σ fp1 ∧ List.Perm fp (q ++ fp1)
  | _, _, _, _, .nil, h => by simp at h
  | _, _, _, 0, .un _, h => by simp at h
  | _, _, _, 0, .co a b, h => by simp at h; subst h; exact ⟨_, _, _, rfl, a, .un b, List.Perm.refl _⟩
  | _, _, _, i + 1, .un a, h => by
    obtain ⟨v, q, fp1, h1, h2, h3, h4⟩ := a.take (i := i) (by simpa using h)
    exact ⟨v, q, fp1, by simpa using h1, h2, by simpa using EnvRep.un h3, h4⟩
  | _, _, _, i + 1, .co (p := p) a b, h => by
    obtain ⟨v, q, fp1, h1, h2, h3, h4⟩ := b.take (i := i) (by simpa using h)
    refine ⟨v, q, p ++ fp1, by simpa using h1, h2, by simpa using EnvRep.co a h3, ?_⟩
    refine (List.Perm.append_left p h4).trans ?_
    rw [← List.append_assoc, ← List.append_assoc]
    exact List.Perm.append_right fp1 List.perm_append_comm
theorem set_same {α : Type} : ∀ {l : List α} {i : Nat} {v : α}, l[i]? = some v → l.set i v = l
  | [], _, _, h => by simp at h
  | a :: l, 0, v, h => by simp at h; simp [h]
  | a :: l, i + 1, v, h => by simpa using set_same (l := l) (i := i) (by simpa using h)
theorem EnvRep.put {x : Val} {v : V} {q : List Addr} {δ : Env} {fp : List Addr} {i : Nat} (h : EnvRep K F H δ σ fp) (hs : σ[i]? = some (some v)) (hx : VRep K F H x v q) : ∃ fp1 r, EnvRep K F H (δ.set i (some x)) σ fp1 ∧ List.Perm (fp1 ++ r) (q ++ fp) := by
  obtain ⟨fp1, r, h1, h2⟩ := EnvRep.store hx i h
  rw [set_same hs] at h1
  exact ⟨fp1, r, h1, h2⟩
theorem take_rep : ∀ {as : List Arg} {vs : List V} {δ δ1 : Env} {fp : List Addr} {vals : List Val}, EnvRep K F H δ σ fp → ArgsV K F σ vs as → takeArgs δ as = some (vals, δ1) →
    ∃ fpA fpR, EnvRep K F H (vals.map some) (vs.map some) fpA ∧ EnvRep K F H δ1 σ fpR ∧ List.Perm fp (fpA ++ fpR)
  | [], _, δ, δ1, fp, vals, h, .nil, e => by cases e; exact ⟨[], fp, .nil, h, List.Perm.refl _⟩
  | .dat d :: as, _, δ, δ1, fp, vals, h, .dat ra r, e => by
    obtain ⟨p, e1, e2⟩ := Option.map_eq_some_iff.mp (show (takeArgs δ as).map _ = _ from e)
    cases e2
    obtain ⟨fpA, fpR, h1, h2, h3⟩ := take_rep h r e1
    exact ⟨_, fpR, .co (.d ra) h1, h2, by simpa using h3⟩
  | .own i :: as, v :: vs, δ, δ1, fp, vals, h, .own hv r, e => by
    have e : (match δ[i]? with | some (some x) => (takeArgs (δ.set i none) as).map fun p => (x :: p.1, p.2) | _ => none) = some (vals, δ1) := e
    split at e
    · rename_i x hx
      obtain ⟨p, e1, e2⟩ := Option.map_eq_some_iff.mp e
      cases e2
      obtain ⟨v', q, fp1, h1, h2, h3, h4⟩ := h.take hx
      rw [hv] at h1
      cases h1
      obtain ⟨fpA, fpR, h5, h6, h7⟩ := take_rep h3 r e1
      refine ⟨q ++ fpA, fpR, .co h2 h5, h6, h4.trans ?_⟩
      rw [List.append_assoc]
      exact List.Perm.append_left q h7
    · cases e
theorem give_rep : ∀ {as : List Arg} {vs : List V} {δ1 : Env} {fpA fpR : List Addr} {back : List Val}, EnvRep K F H δ1 σ fpR → ArgsV K F σ vs as → EnvRep K F H (back.map some) (vs.map some) fpA →
    ∃ fp r, EnvRep K F H (giveBack δ1 as back) σ fp ∧ List.Perm (fp ++ r) (fpA ++ fpR)
  | [], _, δ1, fpA, fpR, back, h, .nil, hb => by
    refine ⟨fpR, fpA, ?_, List.perm_append_comm⟩
    cases back <;> exact h
  | .dat d :: as, _ :: vs, δ1, fpA, fpR, back, h, .dat _ r, hb => by
    cases back with
    | nil => cases hb
    | cons y back =>
      cases hb with
      | co hy hb =>
        rename_i p fpA'
        obtain ⟨fp, r, h1, h2⟩ := give_rep h r hb
        refine ⟨fp, r ++ p, h1, ?_⟩
        rw [← List.append_assoc, List.append_assoc p]
        exact (List.Perm.append_right p h2).trans List.perm_append_comm
  | .own i :: as, v :: vs, δ1, fpA, fpR, back, h, .own hv r, hb => by
    cases back with
    | nil => cases hb
    | cons y back =>
      cases hb with
      | co hy hb =>
        rename_i p fpA'
        obtain ⟨fp1, r1, h1, h2⟩ := h.put hv hy
        obtain ⟨fp, r2, h3, h4⟩ := give_rep h1 r hb
        refine ⟨fp, r2 ++ r1, h3, ?_⟩
        rw [← List.append_assoc, List.append_assoc p]
        refine (List.Perm.append_right r1 h4).trans ?_
        rw [List.append_assoc]
        refine (List.Perm.append_left fpA' h2).trans ?_
        rw [← List.append_assoc, ← List.append_assoc]
        exact List.Perm.append_right fpR List.perm_append_comm
end
section
variable {X : Cx} {W : WX} {pos : Pos}
def DArgs (X : Cx) (W : WX) (es : List Expr) (f : Mo (List Arg)) : Prop := ∃ t, PA X es t ∧ ∀ σ H F δ fp (Q : List V → Hp → Prop), St3 X.KW F H δ σ fp → RPost X W σ F H fp (f δ) (fun as _ F' H' _ => ∀ vs, ArgsV X.KW F' σ vs as → Q vs H') → t σ H Q
structure DAr (X : Cx) (W : WX) (es : List Expr) (f : Mo (List Arg)) : Prop where
  da : DArgs X W es f
  len : ∀ δ as δ', f δ = .ok as δ' → as.length = es.length
def aNil : Mo (List Arg) := fun δ => .ok [] δ
def aDat (f : Mo PyData) (g : Mo (List Arg)) : Mo (List Arg) := bnd f fun d => bnd g fun ds δ => .ok (.dat d :: ds) δ
def aOwn (i : Nat) (g : Mo (List Arg)) : Mo (List Arg) := fun δ => match δ[i]? with
  | some (some _) => (g δ).bind fun ds δ => .ok (.own i :: ds) δ
  | _ => .st
theorem ar_nil : DAr X W [] aNil := ⟨⟨_, pa_nil, fun σ H F δ fp Q s h => h F H fp (Ext.refl s.inn) s [] .nil⟩, fun δ as δ' h => by cases h; rfl⟩
theorem ar_dat {e : Expr} {es : List Expr} {f : Mo PyData} {g : Mo (List Arg)} (ha : DE X W e f) (hb : DAr X W es g) (hs : starEach (e :: es) X.env = (false, eval e X.env) :: starEach es X.env := by rfl) : DAr X W (e :: es) (aDat f g) := by
  obtain ⟨⟨tb, pb, qb⟩, lb⟩ := hb
  obtain ⟨ta, pa, qa⟩ := ha
  refine ⟨⟨_, pa_cons pa pb hs, fun σ H F δ fp Q s h => ?_⟩, fun δ as δ' h => ?_⟩
  · refine qa σ H F δ fp _ s ((RPost.bind h).imp fun x δ1 F1 H1 fp1 e1 s1 h1 v rv => ?_)
    refine qb σ H1 F1 δ1 fp1 _ s1 ((RPost.bind h1).imp fun ys δ2 F2 H2 fp2 e2 s2 h2 ws rw => ?_)
    exact h2 F2 H2 fp2 (Ext.refl s2.inn) s2 (v :: ws) (.dat (rv.mono e2.sub) rw)
  · obtain ⟨d, δ1, _, h⟩ := Res.bind_okE h
    obtain ⟨es', δ2, h1, h⟩ := Res.bind_okE h
    cases h
    rw [List.length_cons, lb _ _ _ h1, List.length_cons]
theorem ar_own {e : Expr} {es : List Expr} {i : Nat} {g : Mo (List Arg)} (ha : PE X e (tVar i)) (hb : DAr X W es g) (hs : starEach (e :: es) X.env = (false, eval e X.env) :: starEach es X.env := by rfl) : DAr X W (e :: es) (aOwn i g) := by
  obtain ⟨⟨tb, pb, qb⟩, lb⟩ := hb
  refine ⟨⟨_, pa_cons ha pb hs, fun σ H F δ fp Q s h => ?_⟩, fun δ as δ' h => ?_⟩
  · unfold aOwn at h
    split at h
    · rename_i x hx
      obtain ⟨v, q, ev, r⟩ := s.rep.at hx
      refine ⟨v, ev, qb σ H F δ fp _ s ((RPost.bind h).imp fun ys δ2 F2 H2 fp2 e2 s2 h2 ws rw => ?_)⟩
      exact h2 F2 H2 fp2 (Ext.refl s2.inn) s2 (v :: ws) (.own ev rw)
    · exact False.elim h
  · unfold aOwn at h
    split at h
    · obtain ⟨es', δ2, h1, h⟩ := Res.bind_okE h
      cases h
      rw [List.length_cons, lb _ _ _ h1, List.length_cons]
    · cases h
def mCall2 (fn : FnD) (as : List Arg) : Mo Val := fun δ => match takeArgs δ as with
  | none => .st
  | some p => match fn p.1 with
    | .st => .st
    | .ok r back => .ok r (giveBack p.2 as back)
    | .ex c x back => .ex c x (giveBack p.2 as back)
def mCallD (fn : FnD) (fa : Mo (List Arg)) : Mo Val := bnd fa fun as => mCall2 fn as
theorem Ext.wide {F H F' H' : Hp} {fp fpA g : List Addr} (e : Ext F H fpA F' H' g) (h : ∀ a ∈ fpA, a ∈ fp) : Ext F H fp F' H' g :=
  ⟨fun a o q n => e.keep a o q fun z => n (h a z), e.sub, e.inn, fun a o q n => (e.new a o q n).imp (h a) id, fun a q => (e.fpn a q).imp (h a) id⟩
/-- the promise is met at the arguments, and what follows is had -/
theorem t_callD {σ : L2.St} {F H : Hp} {δ : Env} {fp : List Addr} {fn : FnD} {as : List Arg} {vs : List V} {Q : VK} {n : Nat} (s : St3 X.KW F H δ σ fp) (h : VPost X W σ F H fp (mCall2 fn as δ) Q) (av : ArgsV X.KW F σ vs as) (hn : as.length = n) : spD X.KW n fn vs H Q (WE W σ) := by
  refine ⟨av.length.trans hn, ?_⟩
  unfold mCall2 at h
  cases et : takeArgs δ as with
  | none => rw [et] at h; exact False.elim h
  | some p =>
    obtain ⟨vals, δ1⟩ := p
    rw [et] at h
    simp only at h
    obtain ⟨fpA, fpR, h1, h2, h3⟩ := take_rep s.rep av et
    have nd := (h3.nodup_iff).mp s.nd
    obtain ⟨ndA, ndR, ndX⟩ := List.nodup_append.mp nd
    have subA : ∀ a ∈ fpA, a ∈ fp := fun a ha => h3.symm.subset (by simp [ha])
    have subR : ∀ a ∈ fpR, a ∈ fp := fun a ha => h3.symm.subset (by simp [ha])
    refine ⟨F, vals, fpA, ⟨h1, s.inn, fun a ha => s.nof a (subA a ha), ndA⟩, ?_⟩
    have after : ∀ {back : List Val} {F' H' : Hp} {fpA' q : List Addr}, Ext F H fpA F' H' (fpA' ++ q) → St3 X.KW F' H' (back.map some) (vs.map some) fpA' → (fpA' ++ q).Nodup → (∀ a ∈ q, F' a = none) →
        ∃ fp', Ext F H fp F' H' (fp' ++ q) ∧ St3 X.KW F' H' (giveBack δ1 as back) σ fp' ∧ (fp' ++ q).Nodup := by
      intro back F' H' fpA' q e sb ndq nfq
      have liveR : ∀ a ∈ fpR, H a ≠ none := h2.live
      have outA : ∀ a ∈ fpR, a ∉ fpA := fun a ha hb => ndX a hb a ha rfl
      have hR : EnvRep X.KW F' H' δ1 σ fpR := h2.lift e.sub fun a o ha q => e.keep a o q (outA a ha)
      obtain ⟨fp', r, h4, h5⟩ := give_rep hR (av.mono e.sub) sb.rep
      have sub' : ∀ a ∈ fp', a ∈ fpA' ∨ a ∈ fpR := fun a ha => List.mem_append.mp (h5.subset (by simp [ha]))
      have apart : ∀ a ∈ fpA' ++ q, a ∉ fpR := fun a ha hb => by
        rcases e.fpn a ha with z | z
        · exact outA a hb z
        · exact liveR a hb z
      have ndAR : (fpA' ++ fpR).Nodup := by
        rw [List.nodup_append]
        exact ⟨sb.nd, ndR, fun a ha b hb z => apart a (by simp [ha]) (z ▸ hb)⟩
      have nd' : fp'.Nodup := (List.nodup_append.mp ((h5.nodup_iff).mpr ndAR)).1
      obtain ⟨_, ndq2, ndq3⟩ := List.nodup_append.mp ndq
      refine ⟨fp', ⟨fun a o q n => e.keep a o q fun z => n (subA a z), e.sub, e.inn, fun a o q n => (e.new a o q n).imp (subA a) id, fun a ha => ?_⟩, ⟨h4, e.inn, fun a ha => ?_, nd'⟩, ?_⟩
      · rcases List.mem_append.mp ha with ha | ha
        · rcases sub' a ha with z | z
          · exact (e.fpn a (by simp [z])).imp (subA a) id
          · exact .inl (subR a z)
        · exact (e.fpn a (by simp [ha])).imp (subA a) id
      · rcases sub' a ha with z | z
        · exact sb.nof a z
        · cases qf : F' a with
          | none => rfl
          | some o =>
            rcases e.new a o qf (s.nof a (subR a z)) with y | y
            · exact absurd y (outA a z)
            · exact absurd y (liveR a z)
      · rw [List.nodup_append]
        refine ⟨nd', ndq2, fun a ha b hb z => ?_⟩
        rcases sub' a ha with y | y
        · exact ndq3 a y b hb z
        · exact apart b (by simp [hb]) (z ▸ y)
    cases ef : fn vals with
    | st => rw [ef] at h; exact False.elim h
    | ok r back =>
      rw [ef] at h
      intro F' H' fpA' v q e sb rv ndq nfq
      obtain ⟨fp', e2, s2, nd2⟩ := after e sb ndq nfq
      exact h F' H' fp' v q e2 s2 rv nd2 nfq
    | ex c x back =>
      rw [ef] at h
      intro F' H' fpA' dd e sb z
      obtain ⟨fp', e2, s2, nd2⟩ := after (q := []) (by rw [List.append_nil]; exact e) sb (by rw [List.append_nil]; exact sb.nd) (fun a h => nomatch h)
      exact h F' H' fp' dd (by rw [List.append_nil] at e2; exact e2) s2 z
theorem dv_call {x : Str} {p : Pos} {e : Expr} {es : List Expr} {fn : FnD} {fa : Mo (List Arg)} {k : Nat} {f : Addr} {fd : FuncData} {ps : List Str} {n : Nat} (Fo : FnG X.prog X.w X.K X.mg X.base k f fd ps (spD X.KW n fn)) (hgd : X.A.guards = some []) (hr : Room k X.A) (hm : X.mg x = some (.ref f)) (hk : PySem.W.keepIn X.KW (.ref f) = true)
    (hb : Binds X.KW fd ps []) (tk : Takes X W) (ha : DAr X W (e :: es) fa) (hn : (e :: es).length = n := by rfl) (hg : Gl X x := by rfl) (hdb : (x == ("__debug__" : Str)) = false := by decide)
    (he : starEach (e :: es) X.env = (false, eval e X.env) :: starEach es X.env := by rfl) (hpl : (backTo pos (starEach es X.env)).any (·.1) = false := by rfl) : DV X W (.Call (.Name x p) (e :: es) [] pos) (mCallD fn fa) := by
  obtain ⟨⟨t, pt, q⟩, la⟩ := ha
  refine ⟨_, pe_callG (E := WE W) Fo hgd hr hg hm hk hb (fun σ => passAt tk σ) pt hdb he hpl, fun σ H F δ fp Q s h => q σ H F δ fp _ s ((VPost.bind h).impE fun as δ1 F1 H1 fp1 eq e1 s1 h1 vs av => t_callD s1 h1 av ((la _ _ _ eq).trans hn))⟩
end
end DL
namespace DL
open PySem PySem.Spec PyProof.Rows L2
section
variable {K : KW} {F H : Hp} {σ : L2.St} {δ : Env} {fp : List Addr} {i : Nat}
theorem set_set2 {α : Type} (l : List α) (i : Nat) (a b : α) : (l.set i a).set i b = l.set i b := by simp
/-- the list at a name is changed -/
theorem St3.modL {xs : List PyData} (s : St3 K F H δ σ fp) (h : δ[i]? = some (some (.lst xs))) : ∃ a vs, σ[i]? = some (some (.ref a)) ∧ H a = some (.lst vs) ∧ RpAll K F vs xs ∧
    ∀ ws ys, RpAll K F ws ys → ∃ fp', St3 K F (upd H a (.lst ws)) (δ.set i (some (.lst ys))) σ fp' ∧ Ext F H fp F (upd H a (.lst ws)) fp' := by
  obtain ⟨v, q, fp1, h1, h2, h3, h4⟩ := s.rep.take h
  cases h2 with
  | lst ha ra =>
    rename_i a vs
    have nd := (h4.nodup_iff).mp s.nd
    obtain ⟨_, nd1, ndx⟩ := List.nodup_append.mp nd
    have hfa : F a = none := s.nof a (h4.symm.subset (by simp))
    have hna : a ∉ fp1 := fun z => ndx a (by simp) a z rfl
    refine ⟨a, vs, h1, ha, ra, fun ws ys r => ?_⟩
    have hl : EnvRep K F (upd H a (.lst ws)) (δ.set i none) σ fp1 := h3.lift (Same.refl _) fun b o hb e => by rw [upd_ne (fun (z : b = a) => hna (z ▸ hb))]; exact e
    obtain ⟨fp2, r2, h5, h6⟩ := hl.put h1 (VRep.lst (K := K) (F := F) upd_same r)
    rw [set_set2] at h5
    have sub : ∀ b ∈ fp2, b ∈ fp := fun b hb => h4.symm.subset (h6.subset (show b ∈ fp2 ++ r2 by simp [hb]))
    have inn : Same F (upd H a (.lst ws)) := fun b o e => by rw [upd_ne (fun z => by rw [z, hfa] at e; cases e)]; exact s.inn b o e
    refine ⟨fp2, ⟨h5, inn, fun b hb => s.nof b (sub b hb), (List.nodup_append.mp ((h6.nodup_iff).mpr nd)).1⟩, ⟨fun b o e n => ?_, Same.refl _, inn, fun b o e n => (by rw [n] at e; cases e), fun b hb => .inl (sub b hb)⟩⟩
    rw [upd_ne (fun z => n (h4.symm.subset (by simp [z])))]; exact e
/-- the dict at a name is changed -/
theorem St3.modD {xs : List (PyData × PyData)} (s : St3 K F H δ σ fp) (h : δ[i]? = some (some (.dct xs))) : ∃ a, σ[i]? = some (some (.ref a)) ∧ F a = none ∧ ((∃ ks, H a = some (.dK ks) ∧ RpKV K F ks xs) ∨ ∃ ks, H a = some (dnO K.w a ks) ∧ ks ≠ [] ∧ RpKN K F ks xs) ∧
    ∀ o ys, VRep K F (upd H a o) (.dct ys) (.ref a) [a] → ∃ fp', St3 K F (upd H a o) (δ.set i (some (.dct ys))) σ fp' ∧ Ext F H fp F (upd H a o) fp' := by
  obtain ⟨v, q, fp1, h1, h2, h3, h4⟩ := s.rep.take h
  have main : ∀ a, v = .ref a → q = [a] → F a = none ∧ ∀ o ys, VRep K F (upd H a o) (.dct ys) (.ref a) [a] → ∃ fp', St3 K F (upd H a o) (δ.set i (some (.dct ys))) σ fp' ∧ Ext F H fp F (upd H a o) fp' := by
    rintro a rfl rfl
    have nd := (h4.nodup_iff).mp s.nd
    obtain ⟨_, nd1, ndx⟩ := List.nodup_append.mp nd
    have hfa : F a = none := s.nof a (h4.symm.subset (by simp))
    have hna : a ∉ fp1 := fun z => ndx a (by simp) a z rfl
    refine ⟨hfa, fun o ys r => ?_⟩
    have hl : EnvRep K F (upd H a o) (δ.set i none) σ fp1 := h3.lift (Same.refl _) fun b u hb e => by rw [upd_ne (fun (z : b = a) => hna (z ▸ hb))]; exact e
    obtain ⟨fp2, r2, h5, h6⟩ := hl.put h1 r
    rw [set_set2] at h5
    have sub : ∀ b ∈ fp2, b ∈ fp := fun b hb => h4.symm.subset (h6.subset (show b ∈ fp2 ++ r2 by simp [hb]))
    have inn : Same F (upd H a o) := fun b u e => by rw [upd_ne (fun z => by rw [z, hfa] at e; cases e)]; exact s.inn b u e
    refine ⟨fp2, ⟨h5, inn, fun b hb => s.nof b (sub b hb), (List.nodup_append.mp ((h6.nodup_iff).mpr nd)).1⟩, ⟨fun b u e n => ?_, Same.refl _, inn, fun b u e n => (by rw [n] at e; cases e), fun b hb => .inl (sub b hb)⟩⟩
    rw [upd_ne (fun z => n (h4.symm.subset (by simp [z])))]; exact e
  cases h2 with
  | dct ha ra => exact ⟨_, h1, (main _ rfl rfl).1, .inl ⟨_, ha, ra⟩, (main _ rfl rfl).2⟩
  | dcn ha n ra => exact ⟨_, h1, (main _ rfl rfl).1, .inr ⟨_, ha, n, ra⟩, (main _ rfl rfl).2⟩
end
section
variable {X : Cx} {W : WX} {kp : List Nat} {pos : Pos}
def getL (i : Nat) : Mo (List PyData) := fun δ => match δ[i]? with
  | some (some (.lst xs)) => .ok xs δ
  | _ => .st
theorem getL_ok {i : Nat} {δ : Env} {xs : List PyData} (h : δ[i]? = some (some (.lst xs))) : getL i δ = .ok xs δ := by unfold getL; rw [h]
theorem RPost.getL {σ : L2.St} {F H : Hp} {fp : List Addr} {i : Nat} {δ : Env} {R : List PyData → Env → Hp → Hp → List Addr → Prop} (h : RPost X W σ F H fp (DL.getL i δ) R) :
    ∃ xs, δ[i]? = some (some (.lst xs)) ∧ ∀ F' H' fp', Ext F H fp F' H' fp' → St3 X.KW F' H' δ σ fp' → R xs δ F' H' fp' := by
  unfold DL.getL at h
  split at h
  · rename_i xs e
    exact ⟨xs, e, h⟩
  · exact False.elim h
/-- xs.append(e), xs a name's own list -/
def mAppend (i : Nat) (f : Mo PyData) : Mo PyData := bnd (getL i) fun _ => bnd f fun d => bnd (getL i) fun xs δ => if xs.length < sizeLine then .ok .none (δ.set i (some (.lst (xs ++ [d])))) else .st
theorem de_append {o e : Expr} {i : Nat} {f : Mo PyData} {apos : Pos} (ho : PE X o (tVar i)) (ha : DE X W e f) (hbase : attributeBase o "append" X.env (eval o X.env) = eval o X.env := by rfl)
    (hfew : ((backTo pos (starEach (e :: []) X.env)).all (fun x => !x.1) && (backToKw pos (keywordEach [] X.env)).all (fun x => x.1.isSome)
      && decide ((e :: ([] : List Expr)).length + ([] : List Keyword).length + (if ([] : List Keyword).isEmpty then 0 else 1) < 30)) = true := by rfl)
    (hline : (apos.endLine == pos.line) = true := by rfl) (hs : starEach (e :: []) X.env = (false, eval e X.env) :: starEach [] X.env := by rfl) (hplain : (backTo pos (starEach [] X.env)).any (·.1) = false := by rfl) :
    DE X W (.Call (.Attribute o "append" apos) [e] [] pos) (mAppend i f) := by
  obtain ⟨t, p, q⟩ := ha
  refine ⟨_, pe_bm PySem.F.plainAttrs_list PySem.F.slot_list_append PySem.F.type_list_append mt_append ho (pa_cons p pa_nil hs) hbase hfew hline hs hplain, fun σ H F δ fp Q s h => ?_⟩
  obtain ⟨xs, ex, h⟩ := RPost.getL (RPost.bind h)
  obtain ⟨a, vs, e1, e2, e3, _⟩ := s.modL ex
  refine ⟨.ref a, e1, .inl ⟨rfl, vs, .of e2⟩, ?_⟩
  refine q σ H F δ fp _ s ((RPost.bind (h F H fp (Ext.refl s.inn) s)).imp fun d δ1 F1 H1 fp1 x1 s1 h1 v rv => ?_)
  obtain ⟨xs, ex, h1⟩ := RPost.getL (RPost.bind h1)
  have h1 := h1 F1 H1 fp1 (Ext.refl s1.inn) s1
  obtain ⟨a', vs, e1', e2, e3, k⟩ := s1.modL ex
  rw [e1] at e1'
  cases e1'
  dsimp only at h1
  by_cases hz : xs.length < sizeLine
  · rw [if_pos hz] at h1
    obtain ⟨fp2, s2, x2⟩ := k (vs ++ [v]) (xs ++ [d]) (e3.append (.cons rv .nil))
    exact ⟨a, vs, v, rfl, rfl, e2, by rw [e3.length]; exact hz, h1 F1 _ fp2 x2 s2 .non .non⟩
  · rw [if_neg hz] at h1
    exact False.elim h1
/-- xs.pop() -/
def mPop (i : Nat) : Mo PyData := bnd (getL i) fun xs δ => match xs.getLast? with
  | some d => .ok d (δ.set i (some (.lst xs.dropLast)))
  | none => .st
theorem RpAll.dropLast {K : KW} {F : Hp} : ∀ {vs : List V} {ds : List PyData}, RpAll K F vs ds → RpAll K F vs.dropLast ds.dropLast
  | _, _, .nil => .nil
  | _, _, .cons a .nil => .nil
  | _, _, .cons a (.cons b c) => .cons a (RpAll.dropLast (.cons b c))
theorem de_pop {o : Expr} {i : Nat} {apos : Pos} (ho : PE X o (tVar i)) (hbase : attributeBase o "pop" X.env (eval o X.env) = eval o X.env := by rfl) (hline : (apos.endLine == pos.line) = true := by rfl) :
    DE X W (.Call (.Attribute o "pop" apos) [] [] pos) (mPop i) := by
  refine ⟨_, pe_bm0 PySem.F.plainAttrs_list PySem.F.slot_list_pop PySem.F.type_list_pop mt_pop ho hbase hline, fun σ H F δ fp Q s h => ?_⟩
  obtain ⟨xs, ex, h⟩ := RPost.getL (RPost.bind h)
  have h := h F H fp (Ext.refl s.inn) s
  obtain ⟨a, vs, e1, e2, e3, k⟩ := s.modL ex
  refine ⟨.ref a, e1, .inl ⟨rfl, vs, .of e2⟩, ?_⟩
  dsimp only at h
  cases el : xs.getLast? with
  | none => rw [el] at h; exact False.elim h
  | some d =>
    rw [el] at h
    rw [List.getLast?_eq_getElem?] at el
    have hlt : xs.length - 1 < xs.length := (List.getElem?_eq_some_iff.mp el).1
    obtain ⟨v, d', hv, hd, r⟩ := e3.at hlt
    rw [el] at hd
    cases hd
    obtain ⟨fp2, s2, x2⟩ := k vs.dropLast xs.dropLast e3.dropLast
    exact ⟨a, vs, v, rfl, rfl, e2, by rw [e3.length]; exact hv, h F _ fp2 x2 s2 v r⟩
/-- xs[k] = e, xs a name's own list -/
def sSetItem (i : Nat) (fi fv : Mo PyData) : Mo Fl := bnd fv fun d => bnd (getL i) fun _ => bnd (bnd fi asI) fun k => bnd (getL i) fun xs δ => match ixN xs.length k with
  | some j => .ok .nx (δ.set i (some (.lst (xs.set j d))))
  | none => .st
theorem ds_setItem {o ix value : Expr} {i : Nat} {fi fv : Mo PyData} {pos' : Pos} (ho : PE X o (tVar i)) (hi : DE X W ix fi) (hv : DE X W value fv)
    (h1 : (assignEach [.Subscript o ix pos'] X.env).map (·.2) = [assign (.Subscript o ix pos') X.env] := by rfl) (hb : ∀ v, assign (.Subscript o ix pos') X.env v = (do let ov ← holding [v] (eval o X.env); let iv ← holding [v, ov] (eval ix X.env); standAt pos'; holding [v, ov, iv] (setItem ov iv v); release [v, ov, iv] []) := by intro _; rfl)
    (hs : swapsWithSole [.Subscript o ix pos'] value pos.line X.env = pure false := by rfl) (hw : swappedStores [.Subscript o ix pos'] value X.env = pure none := by rfl) :
    DS X W kp (.Assign [.Subscript o ix pos'] value pos) (sSetItem i fi fv) := by
  obtain ⟨tv, pv, qv⟩ := hv
  obtain ⟨ti, pi, qi⟩ := hi
  refine ⟨_, ps_asg pv (pg_sub ho pi set_list hb) hs hw h1, fun D σ H F δ fp s h => ?_⟩
  refine qv σ H F δ fp _ s ((SPost.bind h).imp fun d δ1 F1 H1 fp1 x1 s1 h1 v rv => ?_)
  have h1 := SPost.bind h1
  obtain ⟨xs, ex, h1⟩ := RPost.getL h1
  have h1 := h1 F1 H1 fp1 (Ext.refl s1.inn) s1
  obtain ⟨a, vs, e1, e2, e3, _⟩ := s1.modL ex
  refine ⟨.ref a, e1, ?_⟩
  have h2 : RPost X W σ F1 H1 fp1 (fi δ1) fun k δ2 F2 H2 fp2 => RPost X W σ F2 H2 fp2 (asI k δ2) fun k δ3 F3 H3 fp3 => SPost X W kp D σ F3 H3 fp3 (bnd (getL i) (fun xs δ => match ixN xs.length k with | some j => .ok .nx (δ.set i (some (.lst (xs.set j d)))) | none => .st) δ3) :=
    RPost.bind (SPost.bind h1)
  refine qi σ H1 F1 δ1 fp1 _ s1 (h2.imp fun kd δ2 F2 H2 fp2 x2 s2 h3 w rw_ => ?_)
  obtain ⟨k, rfl, h3⟩ := RPost.asI h3
  have h3 := SPost.bind (h3 F2 H2 fp2 (Ext.refl s2.inn) s2)
  obtain ⟨xs, ex, h3⟩ := RPost.getL h3
  have h3 := h3 F2 H2 fp2 (Ext.refl s2.inn) s2
  obtain ⟨a', vs, e1', e2, e3, km⟩ := s2.modL ex
  rw [e1] at e1'
  cases e1'
  cases rw_
  dsimp only at h3
  cases hj : ixN xs.length k with
  | none => rw [hj] at h3; exact False.elim h3
  | some j =>
    rw [hj] at h3
    obtain ⟨fp3, s3, x3⟩ := km (vs.set j v) (xs.set j d) (e3.set (rv.mono x2.sub) j)
    exact ⟨a, vs, k, j, rfl, rfl, e2, by rw [e3.length]; exact hj, SPost.nx h3 x3 s3 (Kept.refl _ _)⟩
end
end DL
namespace DL
open PySem PySem.Spec PyProof.Rows L2
/-- the module's name x is a def that does what fn says -/
def CallD (P : Program) (w : World) (K : PySem.W.Frag) (mg : Str → Option Value) (base : Heap) (k : Nat) (x : Str) (ps : List Str) (fn : FnD) : Prop :=
  ∃ f fd, mg x = some (.ref f) ∧ FnG P w K mg base k f fd ps (spD ⟨K, w⟩ ps.length fn) ∧ PySem.W.keepIn K (.ref f) = true ∧ Binds K fd ps [] ∧ (∀ (s : Shared) (us : List Value), us.length = ps.length → BindsTo s fd ⟨us, []⟩ (ps.zip us)) ∧
    ∃ oc od osl, K.lookup f = some ⟨oc, od, .func fd, osl⟩
theorem dv_callC {X : Cx} {W : WX} {pos : Pos} {x : Str} {p : Pos} {e : Expr} {es : List Expr} {fn : FnD} {fa : Mo (List Arg)} {k : Nat} {ps : List Str} (C : CallD X.prog X.w X.K X.mg X.base k x ps fn) (hgd : X.A.guards = some []) (hr : Room k X.A) (tk : Takes X W) (ha : DAr X W (e :: es) fa)
    (hn : (e :: es).length = ps.length := by rfl) (hg : Gl X x := by rfl) (hdb : (x == ("__debug__" : Str)) = false := by decide)
    (he : starEach (e :: es) X.env = (false, eval e X.env) :: starEach es X.env := by rfl) (hpl : (backTo pos (starEach es X.env)).any (·.1) = false := by rfl) : DV X W (.Call (.Name x p) (e :: es) [] pos) (mCallD fn fa) := by
  obtain ⟨f, fd, hm, F, hk, hb, _⟩ := C
  exact dv_call F hgd hr hm hk hb tk ha hn hg hdb he hpl
theorem callD_mk {P : Program} {w : World} {K : PySem.W.Frag} {mg : Str → Option Value} {base : Heap} {x qual : Str} {params : Arguments} {dbody : List Stmt} {scope : Scope} {kws : List (Str × V)} {f : Addr} {fd : FuncData} {N ps : List Str} {k m : Nat} {kp : List Nat} {body : Mo Fl}
    (F : FunD K x qual params dbody scope [] kws f fd) (g : mg x = some (.ref f)) (S : FnScope N ps scope) (hm : N.length = ps.length + m)
    (h : ∀ (kV doc pm : Value) (an : Option Addr) (cdv ct : Value) (us : List Value), us.length = ps.length → bindArgs (PySem.W.fnOf x qual params dbody scope .none kV doc pm an cdv ct) ⟨us, []⟩ = pure (ps.zip us))
    (hbody : ∀ (cdv : Value) (A : Around) (outer : List PySem.Env) (s : Shared) (H : Hp) (E : XK), (A.deeper (envOfC qual scope s.heap.objs.size f cdv)).guards = some [] → Room k (A.deeper (envOfC qual scope s.heap.objs.size f cdv)) →
      Takes (cxG P w K mg base N qual scope f cdv A outer s H E) (fun c d _ H' => E c d H') → DSs (cxG P w K mg base N qual scope f cdv A outer s H E) (fun c d _ H' => E c d H') kp dbody body) :
    CallD P w K mg base (k + 1) x ps (fnOfB kp ps.length m body) := ⟨f, fd, g, fn_okD F S hm hbody, F.kp, F.bindsN h, F.bindsA h, let ⟨oc, od, _, _, _, _, _, _, _, osl, _, l, _⟩ := F.ex; ⟨oc, od, osl, l⟩⟩
section
variable {X : Cx} {W : WX} {pos : Pos}
theorem de_gstr {x : Str} {z : Str} (h : ∃ t, X.mg x = some (.str z t)) (hg : Gl X x := by rfl) (hl : z.length ≤ sizeLine := by rw [sizeLine_eq]; decide +kernel) (hd : (x == ("__debug__" : Str)) = false := by decide) : DE X W (.Name x pos) (mC (.str z)) := by
  obtain ⟨t, e⟩ := h
  exact de_c (pe_glob (v := .str z) hg e ⟨t, rfl⟩ hd) fun _ => .str z hl
theorem de_gint {x : Str} {z : Int} (h : ∃ t, X.mg x = some (.int z t)) (hg : Gl X x := by rfl) (hd : (x == ("__debug__" : Str)) = false := by decide) : DE X W (.Name x pos) (mC (.int z)) := by
  obtain ⟨t, e⟩ := h
  exact de_c (pe_glob (v := .int z) hg e ⟨t, rfl⟩ hd) fun _ => .int z
/-- a name's own thing read for good -/
def mFrz (i : Nat) : Mo PyData := fun δ => match δ[i]? with
  | some (some x) => (Res.of x.vw δ).bind fun d δ => .ok d (δ.set i (some (.d d)))
  | _ => .st
theorem de_frzN {e : Expr} (i : Nat) (h : PE X e (tVar i)) : DE X W e (mFrz i) := by
  refine ⟨_, h, fun σ H F δ fp Q s h => ?_⟩
  unfold mFrz at h
  split at h
  · rename_i x hx
    cases ev : x.vw with
    | none => rw [ev] at h; exact False.elim h
    | some d =>
      rw [ev] at h
      obtain ⟨v, q, fp1, h1, h2, h3, h4⟩ := s.rep.take hx
      have nd := (h4.nodup_iff).mp s.nd
      obtain ⟨ndq, nd1, ndx⟩ := List.nodup_append.mp nd
      have s1 : St3 X.KW F H (δ.set i none) σ fp1 := ⟨h3, s.inn, fun a ha => s.nof a (h4.symm.subset (by simp [ha])), nd1⟩
      have e1 : Ext F H fp F H (fp1 ++ q) := (Ext.refl s.inn).less fun a ha => h4.symm.subset (by rcases List.mem_append.mp ha with z | z <;> simp [z])
      obtain ⟨F2, _, e2, s2, r2⟩ := frz_post e1 s1 h2 ((List.perm_append_comm.nodup_iff).mp nd) (fun a ha => s.nof a (h4.symm.subset (by simp [ha]))) ev
      obtain ⟨fp3, s3, h3⟩ := s2.storeD i r2
      rw [set_same h1, set_set2] at s3
      exact ⟨v, h1, h F2 H fp3 (e2.less h3) s3 v r2⟩
  · exact False.elim h
end
/-- turns of a loop that goes up a text -/
def fuelStr (i : Nat) : DL.Env → Nat := fun δ => match δ[i]? with
  | some (some (Val.d (PyData.str z))) => z.length + 1
  | _ => 0
theorem CallD.law {P : Program} {w : World} {K : PySem.W.Frag} {mg : Str → Option Value} {k : Nat} {x : Str} {ps : List Str} {fn : FnD} (h0 : Heap) (C : ∀ base : Heap, CallD P w K mg base k x ps fn) {fa : Addr} (hm : mg x = some (.ref fa)) :
    ∃ fd, (∀ (s : Shared) (us : List Value), us.length = ps.length → BindsTo s fd ⟨us, []⟩ (ps.zip us)) ∧ ∀ base : Heap, FnG P w K mg base k fa fd ps (spD ⟨K, w⟩ ps.length fn) := by
  obtain ⟨f, fd, g, F, _, _, hb, _, _, _, l⟩ := C h0
  rw [hm] at g
  cases g
  refine ⟨fd, hb, fun base => ?_⟩
  obtain ⟨f2, fd2, g2, F2, _, _, _, _, _, _, l2⟩ := C base
  rw [hm] at g2
  cases g2
  rw [l] at l2
  cases l2
  exact F2
/-! ### the law's end -/
theorem ints_rp {K : KW} {F : Hp} : ∀ ns : List Int, RpAll K F (ns.map V.int) (ns.map PyData.int)
  | [] => .nil
  | n :: ns => .cons (.int n) (ints_rp ns)
def scriptV (ns : List Int) : Val := .d (.list (ns.map .int))
theorem law_says {K : KW} {fn : FnD} {H : Hp} {a : Addr} {ns : List Int} (h : ∃ b, fn [scriptV ns] = .ok (.d (.bool true)) b) (hS : SqL K H a (ns.map V.int)) : spD K 1 fn [.ref a] H (fun v _ => v = .bl true) fun _ _ _ => False := by
  obtain ⟨b, e⟩ := h
  refine ⟨rfl, H, [scriptV ns], [], ⟨.co (.d (.lst hS (ints_rp ns))) .nil, Same.refl _, fun _ z => (by cases z), .nil⟩, ?_⟩
  rw [e]
  intro F' H' fp' v q _ _ r _ _
  cases r with
  | d r => cases r; rfl
/-- the call of the law from the claim's place -/
theorem enter_law {P : Program} {w : World} {K : PySem.W.Frag} {mg mb : Str → Option Value} {k : Nat} {fa a : Addr} {fd : FuncData} {x : Str} {sp : Sp} {s₁ : Shared} {vs : List Value} {ns : List Int}
    (KX : K.In s₁.heap) (hns : s₁.heap.Ns mainGlobals mg) (hb : s₁.heap.Ns builtinsNs mb) (hbb : ∀ x : Str, x ≠ "__name__" → mb x = bootBuiltins x) (hlim : s₁.heap.NoLimit) (hg : s₁.gens = #[])
    (ha : s₁.heap.get? a = some { cls := .type "list", data := .seq vs.toArray }) (hi : IntsAre vs ns) (hl : ns.length ≤ sizeLine) (hr : Room k callerA)
    (F : ∀ base : Heap, K.In base → base.Ns mainGlobals mg → FnG P w K mg base k fa fd [x] sp) (hbind : ∀ (s : Shared) (u : Value), BindsTo s fd ⟨[u], []⟩ [(x, u)])
    (hsp : ∀ H : Hp, SqL K H a (ns.map V.int) → sp [.ref a] H (fun v _ => v = .bl true) fun _ _ _ => False) :
    codeAny (model P w) callerA (.call (.ref fa) ⟨[.ref a], []⟩) (fun r s' => r = .ok (.ret (.bool true)) ∧ OldK s₁.heap s'.heap ∧ s'.os = s₁.os ∧ AllBare s'.gens) s₁ := by
  have rv := vals_ints hi
  have lenV := hi.length
  let so : Obj := { cls := .type "list", data := .seq vs.toArray }
  let frz : Hp := fun b => if b = a then some (.frz so (.lst (ns.map V.int))) else none
  obtain ⟨H, hOnly, hS, hAt⟩ : ∃ H : Hp, (∀ b, H b = none ∨ (b = a ∧ H b = some (.frz so (.lst (ns.map V.int))))) ∧ SqL K H a (ns.map V.int) ∧ (H a ≠ none → K.lookup a = none) := by
    cases hk : K.lookup a with
    | some o =>
      have e := (KX a o hk).symm.trans ha
      cases e
      exact ⟨fun _ => none, fun _ => .inl rfl, .inr ⟨_, vs.toArray, _, hk, rfl, rfl, rfl, (by rw [List.size_toArray, lenV]; exact hl), by simpa using rv⟩, fun z => absurd rfl z⟩
    | none =>
      refine ⟨frz, fun b => ?_, .inl (.inr ⟨so, if_pos rfl⟩), fun _ => rfl⟩
      by_cases e : b = a
      · exact .inr ⟨e, if_pos e⟩
      · exact .inl (if_neg e)
  have hok : HOk P w H s₁.heap := fun b u e => by
    rcases hOnly b with z | ⟨rfl, z⟩
    · rw [z] at e; cases e
    · rw [z] at e
      cases e
      exact ⟨ha, (by rw [List.length_map]; exact hl), vs, _, rv, ha⟩
  have free : ∀ {b : Addr} {o : Obj}, s₁.heap.get? b = some o → o ≠ so → H b = none := fun {b o} e n => by
    rcases hOnly b with z | ⟨rfl, z⟩
    · exact z
    · rw [ha] at e; cases e; exact absurd rfl n
  have keepNs : ∀ {b : Addr} {m : Str → Option Value}, s₁.heap.Ns b m → (hidT s₁.heap H).Ns b m := fun {b m} ⟨o, es, ep, e, d, r⟩ =>
    ⟨o, es, ep, hidT_get e (free e fun z => (by subst z; cases d)), d, r⟩
  have keepK : K.In (hidT s₁.heap H) := fun b o e => hidT_get (KX b o e) (by
    cases q : H b with
    | none => rfl
    | some u =>
      rcases hOnly b with z | ⟨rfl, z⟩
      · rw [z] at q; cases q
      · rw [hAt (by rw [z]; exact fun y => nomatch y)] at e; cases e)
  have M : Mod K mg (hidT s₁.heap H) := ⟨keepK, keepNs hns, ⟨mb, keepNs hb, hbb⟩, let ⟨mc, h1, h2⟩ := hlim; ⟨mc, keepNs h1, h2⟩⟩
  have E0' : Env0 P w K mg (hidT s₁.heap H) callerA [] s₁ H := ⟨rfl, M, fun _ _ e => of_hidT e, Nat.le_of_eq (hidT_size _ _), trivial, fun _ z => (by cases z), hok, .of_eq hg⟩
  refine codeAny_mono ((F _ keepK (keepNs hns)).run callerA [] s₁ H ⟨[.ref a], []⟩ [.ref a] [.ref a] _ _ rfl hr E0' (hbind s₁ (.ref a)) (.cons rfl .nil) (hsp H hS)) fun r s' h => ?_
  cases r with
  | error e =>
    obtain ⟨_, _, _, _, _, _, _, _, _, _, _, z⟩ := (show L2.CX P w [] H s₁ _ e s' from h)
    exact z.2.elim
  | ok fl =>
    cases fl with
    | next => exact False.elim h
    | brk => exact False.elim h
    | cont => exact False.elim h
    | ret u =>
      obtain ⟨v, H', os, bare, un, hok', r', q⟩ := h
      obtain rfl : v = .bl true := q
      obtain rfl : u = Value.bool true := r'
      refine ⟨rfl, OldK.of_keep fun b o e => ?_, os, bare⟩
      rcases hOnly b with z | ⟨rfl, z⟩
      · exact un.keep b o e z (fun y => (by cases y)) (fun y => (by cases y))
      · have e2 := (hok' b _ (un.frzs b _ _ z)).1
        rw [ha] at e; cases e
        exact e2
theorem walkG {l : PySem.W.OpenLaw} {n k : Nat} {q : Program} {loose : List Str} {XP : (Str → Option Value) → Heap → Prop} {YP : World → Heap → Prop} {d : DefRec} {x : Str}
    (hn : l.most = some n) (hn2 : n ≤ sizeLine) (hdf : d.params.defaults = []) (hr : Room k callerA)
    (F : ∀ (w : World) (mg : Str → Option Value) (fa : Addr) (h : Heap), YP w h → h.Ns mainGlobals mg → mg d.name = some (.ref fa) →
      ∃ (K : PySem.W.Frag) (fd : FuncData) (fn : FnD), K.In h ∧ (∀ (s : Shared) (u : Value), BindsTo s fd ⟨[u], []⟩ [(x, u)]) ∧
        (∀ ns : List Int, ns.length ≤ n → ∃ b, fn [scriptV ns] = .ok (.d (.bool true)) b) ∧
        ∀ base : Heap, K.In base → base.Ns mainGlobals mg → FnG l.prog w K mg base k fa fd [x] (spD ⟨K, w⟩ 1 fn)) :
    PySem.W.WalkO q loose XP YP l.row.toRowW d [] (fun f vs => PySem.call f vs) := by
  refine Att.attach_call hn hdf fun w s₀ s₁ mg mb fa o pm cd doc a vs ns G Y ho hd hcd hmg hobj hints hlen hg => ?_
  obtain ⟨K, fd, fn, KX, hb, hsp, hF⟩ := F w mg fa _ Y G.T.g hmg
  exact enter_law KX G.T.g G.T.b G.T.builtins G.T.nolimit hg hobj hints (Nat.le_trans hlen hn2) hr hF hb fun H hS => law_says (hsp ns hlen) hS
end DL
namespace DL
open PySem PySem.Spec PyProof.Rows L2
section
variable {X : Cx} {W : WX} {pos : Pos}
/-! ### texts -/
def strsD : List PyData → Option (List Str)
  | [] => some []
  | .str x :: r => (strsD r).map (x :: ·)
  | _ => none
theorem strsD_vals {K : KW} {F : Hp} : ∀ {ds : List PyData} {bs : List Str} {vs : List V}, strsD ds = some bs → RpAll K F vs ds → vs = bs.map V.str
  | [], _, _, h, .nil => by cases h; rfl
  | .str b :: r, _, _, h, .cons a rr => by
    unfold strsD at h
    obtain ⟨bs', h1, rfl⟩ := Option.map_eq_some_iff.mp h
    cases a
    rw [strsD_vals h1 rr]
    rfl
def oJoin : Op2 := fun x y => match x, y with
  | .str a, .list ds => (strsD ds).bind fun ys => if (ys.map (·.length)).sum + ys.length * a.length ≤ 16777216 ∧ (Str.join a ys).length ≤ 16777216 then some (.str (Str.join a ys)) else none
  | .str a, .tuple ds => (strsD ds).bind fun ys => if (ys.map (·.length)).sum + ys.length * a.length ≤ 16777216 ∧ (Str.join a ys).length ≤ 16777216 then some (.str (Str.join a ys)) else none
  | _, _ => none
/-- a method of a text with one argument -/
def rM (K : KW) (o : Op2) : V → List V → Hp → VK → Prop := fun x xs H Q => ∃ y, xs = [y] ∧ rV K o x y H Q
def op2S (o : Op2) (fa fb : Mo PyData) : Mo PyData := bnd fa fun x => match x with
  | .str a => bnd fb fun y δ => Res.of (o (.str a) y) δ
  | _ => fun _ => .st
theorem de_m1 {o : Op2} {id : String} {name : Str} {a e : Expr} {fa fb : Mo PyData} {apos : Pos} (slot : Slot "str" name id) (ty : typeOf (.builtin id) = pure (.type "method_descriptor")) (rule : MtR X id (rM X.KW o)) (ha : DE X W a fa) (hb : DE X W e fb)
    (hs : starEach [e] X.env = [(false, eval e X.env)] := by rfl) (hbase : attributeBase a name X.env (eval a X.env) = eval a X.env := by rfl) (hline : (apos.endLine == pos.line) = true := by rfl) :
    DE X W (.Call (.Attribute a name apos) [e] [] pos) (op2S o fa fb) := by
  obtain ⟨ta, pa, qa⟩ := ha
  obtain ⟨tb, pb, qb⟩ := hb
  refine ⟨_, pe_m1 slot ty rule pa pb hs hbase hline, fun σ H F δ fp Q s h => ?_⟩
  refine qa σ H F δ fp _ s ((RPost.bind h).imp fun x δ1 F1 H1 fp1 e1 s1 h1 v rv => ?_)
  cases rv with
  | str x hx =>
    refine ⟨⟨x, rfl⟩, ?_⟩
    refine qb σ H1 F1 δ1 fp1 _ s1 ((RPost.bind h1).imp fun y δ2 F2 H2 fp2 e2 s2 h2 w rw => ?_)
    obtain ⟨z, ez, h3⟩ := RPost.of h2
    exact ⟨w, rfl, F2, .str x, y, z, s2.inn, .dat (.str x hx), rw.vw, ez, fun F' H' v' g r => h3 F' H' fp2 g.ext (s2.grow g) v' r⟩
  | _ => exact False.elim h1
theorem ok_join : MtR X "str.join" (rM X.KW oJoin) := by
  intro pins s σ H x xs v us Q I rx rs ⟨y, ey, F, dx, dy, z, e, vx, vy, ho, q⟩
  unfold oJoin at ho
  split at ho
  · rename_i a ds
    obtain ⟨ys, hy, ho⟩ := Option.bind_eq_some_iff.mp ho
    split at ho
    · rename_i hz
      cases ho
      obtain ⟨rfl, _⟩ := vx.str
      obtain ⟨p, ws, rfl, hp, ra⟩ := vy.list e
      rw [strsD_vals hy ra] at hp
      exact mt_join pins s σ H _ xs v us Q I rx rs ⟨a, p, ys, rfl, ey, .inl hp, hz.1, by rw [_root_.TL.join_eq]; exact q F H _ (Grow.refl e) (.str _ (by rw [sizeLine_eq]; exact hz.2))⟩
    · cases ho
  · rename_i a ds
    obtain ⟨ys, hy, ho⟩ := Option.bind_eq_some_iff.mp ho
    split at ho
    · rename_i hz
      cases ho
      obtain ⟨rfl, _⟩ := vx.str
      obtain ⟨p, ws, rfl, hp, ra⟩ := vy.tup e
      rw [strsD_vals hy ra] at hp
      exact mt_join pins s σ H _ xs v us Q I rx rs ⟨a, p, ys, rfl, ey, .inr hp, hz.1, by rw [_root_.TL.join_eq]; exact q F H _ (Grow.refl e) (.str _ (by rw [sizeLine_eq]; exact hz.2))⟩
    · cases ho
  · cases ho
theorem de_join {a e : Expr} {fa fb : Mo PyData} {apos : Pos} (ha : DE X W a fa) (hb : DE X W e fb) (hs : starEach [e] X.env = [(false, eval e X.env)] := by rfl) (hbase : attributeBase a "join" X.env (eval a X.env) = eval a X.env := by rfl) (hline : (apos.endLine == pos.line) = true := by rfl) :
    DE X W (.Call (.Attribute a "join" apos) [e] [] pos) (op2S oJoin fa fb) := de_m1 F.slot_str_join F.type_str_join ok_join ha hb hs hbase hline
def oStartswith : Op2 := fun x y => match x, y with
  | .str a, .str b => some (.bool (Txt.startswith a b))
  | _, _ => none
def oEndswith : Op2 := fun x y => match x, y with
  | .str a, .str b => some (.bool (Txt.endswith a b))
  | _, _ => none
theorem ok_startswith : MtR X "str.startswith" (rM X.KW oStartswith) := by
  intro pins s σ H x xs v us Q I rx rs ⟨y, ey, F, dx, dy, z, e, vx, vy, ho, q⟩
  unfold oStartswith at ho
  split at ho
  · cases ho
    obtain ⟨rfl, _⟩ := vx.str
    obtain ⟨rfl, _⟩ := vy.str
    exact mt_startswith pins s σ H _ xs v us Q I rx rs ⟨_, _, rfl, ey, q F H _ (Grow.refl e) (.bl _)⟩
  · cases ho
theorem ok_endswith : MtR X "str.endswith" (rM X.KW oEndswith) := by
  intro pins s σ H x xs v us Q I rx rs ⟨y, ey, F, dx, dy, z, e, vx, vy, ho, q⟩
  unfold oEndswith at ho
  split at ho
  · cases ho
    obtain ⟨rfl, _⟩ := vx.str
    obtain ⟨rfl, _⟩ := vy.str
    exact mt_endswith pins s σ H _ xs v us Q I rx rs ⟨_, _, rfl, ey, q F H _ (Grow.refl e) (.bl _)⟩
  · cases ho
theorem de_startswith {a e : Expr} {fa fb : Mo PyData} {apos : Pos} (ha : DE X W a fa) (hb : DE X W e fb) (hs : starEach [e] X.env = [(false, eval e X.env)] := by rfl) (hbase : attributeBase a "startswith" X.env (eval a X.env) = eval a X.env := by rfl) (hline : (apos.endLine == pos.line) = true := by rfl) :
    DE X W (.Call (.Attribute a "startswith" apos) [e] [] pos) (op2S oStartswith fa fb) := de_m1 F.slot_str_startswith F.type_str_startswith ok_startswith ha hb hs hbase hline
theorem de_endswith {a e : Expr} {fa fb : Mo PyData} {apos : Pos} (ha : DE X W a fa) (hb : DE X W e fb) (hs : starEach [e] X.env = [(false, eval e X.env)] := by rfl) (hbase : attributeBase a "endswith" X.env (eval a X.env) = eval a X.env := by rfl) (hline : (apos.endLine == pos.line) = true := by rfl) :
    DE X W (.Call (.Attribute a "endswith" apos) [e] [] pos) (op2S oEndswith fa fb) := de_m1 F.slot_str_endswith F.type_str_endswith ok_endswith ha hb hs hbase hline
/-- x * n of a text -/
def strRep (x : Str) (n : Nat) : Str := ⟨(List.replicate n x.cps).foldl (· ++ ·) #[]⟩
def oMulS : Op2 := fun x y => match x, y with
  | .int i, .int j => if mulFit i j then some (.int (i * j)) else none
  | .str x, .int n => if n < 1 then (if -(2 ^ 63) ≤ n then some (.str Str.empty) else none) else if n = 1 ∨ x.length = 0 then (if n < 2 ^ 63 then some (.str x) else none) else if n ≤ 16777216 ∧ x.length * n.toNat ≤ 16777216 then some (.str (strRep x n.toNat)) else none
  | _, _ => none
theorem strRep_length (x : Str) : ∀ n : Nat, (strRep x n).length = x.length * n := by
  intro n
  have k : ∀ (n : Nat) (a : Array Nat), ((List.replicate n x.cps).foldl (· ++ ·) a).size = a.size + x.cps.size * n := by
    intro n
    induction n with
    | zero => intro a; simp
    | succ n ih => intro a; rw [List.replicate_succ, List.foldl_cons, ih, Array.size_append, Nat.mul_succ]; omega
  show ((List.replicate n x.cps).foldl (· ++ ·) #[]).size = x.cps.size * n
  rw [k]; simp
theorem ok_mulS : OpR X (binaryOp .Mult) (rV X.KW oMulS) := by
  intro pins s σ H x y v u Q I rx ry ⟨F, dx, dy, z, e, vx, vy, ho, q⟩
  unfold oMulS at ho
  split at ho
  · rename_i i j
    exact ok_mul pins s σ H x y v u Q I rx ry ⟨F, .int i, .int j, z, e, vx, vy, ho, q⟩
  · rename_i x n
    obtain ⟨rfl, hx⟩ := vx.str
    obtain rfl := vy.int
    obtain ⟨t, rfl⟩ := rx
    obtain ⟨t', rfl⟩ := ry
    split at ho
    · rename_i h1
      split at ho
      · rename_i h2
        cases ho
        exact P.mul_str_none h1 (by omega) ⟨.str _, H, I.tok _, ⟨_, rfl⟩, q F H _ (Grow.refl e) (.str _ (Nat.zero_le _))⟩
      · cases ho
    · rename_i h1
      split at ho
      · rename_i h2
        split at ho
        · rename_i h3
          cases ho
          have hb : (n == 1 || x.length == 0) = true := by simpa using h2
          refine P.mul_str (by simp; omega) (fun _ h => by rw [hb] at h; cases h) (fun _ h => by rw [hb] at h; cases h) ?_
          rw [if_neg h1, if_pos hb]
          exact ⟨.str _, H, I, ⟨_, rfl⟩, q F H _ (Grow.refl e) (.str _ hx)⟩
        · cases ho
      · rename_i h2
        split at ho
        · rename_i h3
          cases ho
          have hb : (n == 1 || x.length == 0) = false := by simpa using h2
          have hxl : (x.length : Int) ≤ 16777216 := by rw [sizeLine_eq] at hx; omega
          have hdiv : (16777216 : Int) ≤ (2 ^ 63 - 1) / n := by
            rw [Int.le_ediv_iff_mul_le (by omega)]
            omega
          have hz : x.length * n.toNat ≤ sizeLine := by rw [sizeLine_eq]; exact h3.2
          refine P.mul_str (by simp; omega) (fun _ _ => by omega) (fun _ _ => decide_eq_false (by omega)) ?_
          rw [if_neg h1, if_neg (by rw [hb]; simp)]
          have hr : Rp X.KW F (.str (strRep x n.toNat)) (.str (strRep x n.toNat)) := .str _ (by rw [strRep_length]; exact hz)
          exact ⟨by have := strRep_length x n.toNat; unfold strRep at this; rw [this]; exact hz, .str (strRep x n.toNat), H, I.tok _, ⟨_, rfl⟩, q F H _ (Grow.refl e) hr⟩
        · cases ho
  · cases ho
/-! ### dicts, written -/
theorem de_dict0 : DE X W (.Dict [] [] pos) (mC (.dict [])) :=
  ⟨_, pe_dnewK, fun σ H F δ fp Q s h p hp => h _ _ fp (Grow.laid s.inn hp).ext (s.grow (Grow.laid s.inn hp)) _ (.dct upd_same .nil)⟩
def asKey : PyData → Option Key
  | .int i => some (.inl i)
  | .str x => some (.inr x)
  | _ => none
theorem asKey_ok {K : KW} {F : Hp} {d : PyData} {k : Key} {v : V} (h : asKey d = some k) (r : Rp K F v d) : d = keyD k ∧ v = kV k := by
  cases d <;> cases h <;> cases r <;> exact ⟨rfl, rfl⟩
/-- {k: v} -/
def mDict1 (fk fv : Mo PyData) : Mo PyData := bnd fk fun k => bnd fv fun v δ => (Res.of (asKey k) δ).bind fun _ δ => .ok (.dict [(k, v)]) δ
theorem RPost.bindM {α β : Type} {σ : L2.St} {F H : Hp} {fp gp : List Addr} {r : Res α} {k : α → Env → Res β} {R : β → Env → Hp → Hp → List Addr → Prop} (h : RPost X W σ F H (fp ++ gp) (r.bind k) R) :
    RPost X W σ F H fp r fun a δ1 F1 H1 fp1 => RPost X W σ F1 H1 (fp1 ++ gp) (k a δ1) R := by
  cases r with
  | st => exact h
  | ok a δ' => exact fun F' H' fp' e' s => RPost.from h e'.more
  | ex c x δ' => exact fun F' H' fp' dd e' s z => h F' H' fp' dd (e'.more.less fun a ha => by simp [ha]) s z
theorem de_dict1 {a b : Expr} {fa fb : Mo PyData} (ha : DE X W a fa) (hb : DE X W b fb) : DE X W (.Dict [some a] [b] pos) (mDict1 fa fb) := by
  obtain ⟨ta, pa, qa⟩ := ha
  obtain ⟨tb, pb, qb⟩ := hb
  refine ⟨_, pe_disp (pps_cons pa pb pps_nil) (by rfl) (by rfl) (fun z => by cases z) (by show 1 ≤ 15; decide), fun σ H F δ fp Q s h p hp => ?_⟩
  obtain ⟨g, nd, nf⟩ := own_new (o := .dK []) s hp
  have hF : F p = none := nf p (by simp)
  have hn : p ∉ fp := fun z => s.rep.live p z hp
  have s0 := s.grow g
  have h0 := RPost.from h (Ext.made (o := .dK []) s.inn hp)
  refine qa σ _ F δ fp _ s0 ((RPost.bindM h0).imp fun k δ1 F1 H1 fp1 e1 s1 h1 v rv => ?_)
  refine qb σ H1 F1 δ1 fp1 _ s1 ((RPost.bindM h1).imp fun w δ2 F2 H2 fp2 e2 s2 h2 u ru => ?_)
  dsimp only at h2
  cases hk : asKey k with
  | none => rw [hk] at h2; exact False.elim h2
  | some kk =>
    rw [hk] at h2
    obtain ⟨rfl, rfl⟩ := asKey_ok hk rv
    have hp1 : H1 p = some (.dK []) := e1.keep _ _ upd_same hn
    have hn1 : p ∉ fp1 := e1.not_mem upd_same hn
    have hF1 : F1 p = none := e1.frz_none upd_same hF hn
    have hp2 : H2 p = some (.dK []) := e2.keep _ _ hp1 hn1
    have hn2 : p ∉ fp2 := e2.not_mem hp1 hn1
    have hF2 : F2 p = none := e2.frz_none hp1 hF1 hn1
    refine ⟨hp2, [(kk, u)], rfl, by show 1 ≤ 15; decide, ?_⟩
    have su : Same F2 (upd F2 p (.dK [(kk, u)])) := fun b o q => by rw [upd_ne (fun z => by rw [z, hF2] at q; cases q)]; exact q
    have inn : Same (upd F2 p (.dK [(kk, u)])) (upd H2 p (.dK [(kk, u)])) := fun b o q => by
      by_cases z : b = p
      · subst z; rw [upd_same] at q ⊢; exact q
      · rw [upd_ne z] at q ⊢; exact s2.inn b o q
    have e3 : Ext F2 H2 (fp2 ++ [p]) (upd F2 p (.dK [(kk, u)])) (upd H2 p (.dK [(kk, u)])) fp2 :=
      ⟨fun b o q n => (by rw [upd_ne (fun z => n (by simp [z]))]; exact q), su, inn, fun b o q n => (by
        by_cases z : b = p
        · exact .inl (by simp [z])
        · rw [upd_ne z, n] at q; cases q), fun b hb => .inl (by simp [hb])⟩
    have s3 : St3 X.KW (upd F2 p (.dK [(kk, u)])) (upd H2 p (.dK [(kk, u)])) δ2 σ fp2 :=
      ⟨s2.rep.lift su fun b o hb q => (by rw [upd_ne (fun (z : b = p) => hn2 (z ▸ hb))]; exact q), inn, fun b hb => (by rw [upd_ne (fun (z : b = p) => hn2 (z ▸ hb))]; exact s2.nof b hb), s2.nd⟩
    have em : mergeK [] [(kk, u)] = [(kk, u)] := by rfl
    rw [em]
    exact h2 _ _ fp2 e3 s3 _ (.dct upd_same (.cons (ru.mono su) .nil))
/-! ### repr -/
def flatD : PyData → Bool
  | .none | .bool _ | .int _ | .str _ => true
  | _ => false
def showOk (d : PyData) : Bool := d.showable && decide (d.shown.length ≤ 16777216) && decide (d.depth ≤ 50) && (!d.hasDict || match d with
  | .dict kvs => (kvs.all fun p => flatD p.2) && (kvs.all fun p => plainKey p.1)
  | _ => false)
def cRepr : OpC := fun ds => match ds with
  | [d] => if showOk d then some (.str d.shown) else none
  | _ => none
theorem flat_reads {h : Heap} {u : Value} {d : PyData} {as : List Addr} (hf : flatD d = true) (r : Reads h u d as) : as = [] := by
  cases r <;> first | rfl | cases hf
theorem flatAll_reads {h : Heap} : ∀ {us : List Value} {ds : List PyData} {as : List Addr}, ds.all flatD = true → ReadsAll h us ds as → as = []
  | _, _, _, _, .nil => rfl
  | _, _, _, hf, .cons a b => by
    rw [List.all_cons, Bool.and_eq_true] at hf
    rw [flat_reads hf.1 a, flatAll_reads hf.2 b]
    rfl
theorem Reads.flat_dict {h : Heap} {u : Value} {kvs : List (PyData × PyData)} {as : List Addr} (hf : (kvs.all fun p => flatD p.2) = true) (hk : (kvs.all fun p => flatD p.1) = true) (r : Reads h u (.dict kvs) as) : ∃ a, u = .ref a ∧ as = [a] := by
  cases r with
  | dict h1 h2 h3 h4 h5 =>
    have e1 := flatAll_reads (by rw [List.all_map]; exact hk) h4
    have e2 := flatAll_reads (by rw [List.all_map]; exact hf) h5
    subst e1; subst e2
    exact ⟨_, rfl, rfl⟩
theorem keys_flat {K : KW} {F : Hp} : ∀ {ks : List (Key × V)} {ds : List (PyData × PyData)}, RpKV K F ks ds → (ds.all fun p => flatD p.1) = true
  | _, _, .nil => rfl
  | _, _, .cons (k := k) a b => by
    rw [List.all_cons, keys_flat b]
    cases k <;> rfl
end
end DL
namespace DL
open PySem PySem.Spec PyProof.Rows L2
section
variable {X : Cx} {W : WX} {kp : List Nat} {pos : Pos}
/-! ### code that is never come to -/
def moSt {α : Type} : Mo α := fun _ => .st
theorem de_dead {e : Expr} : DE X W e moSt := ⟨fun _ _ _ => False, ⟨fun _ _ _ _ _ _ h => h.elim⟩, fun _ _ _ _ _ _ _ h => h⟩
theorem dv_dead {e : Expr} : DV X W e moSt := ⟨fun _ _ _ => False, ⟨fun _ _ _ _ _ _ h => h.elim⟩, fun _ _ _ _ _ _ _ h => h⟩
theorem ds_dead {s : Stmt} : DS X W kp s moSt := ⟨fun _ _ _ => False, ⟨fun _ _ _ _ _ _ h => h.elim⟩, fun _ _ _ _ _ _ _ h => h⟩
theorem dss_dead {s : List Stmt} : DSs X W kp s moSt := ⟨fun _ _ _ => False, ⟨fun _ _ _ _ _ _ h => h.elim⟩, fun _ _ _ _ _ _ _ h => h⟩
/-! ### raise X('..') -/
def sRaise (c : Addr) : Mo Fl := fun δ => .ex c [] δ
structure ErrC (K : PySem.W.Frag) (mg : Str → Option Value) (x : Str) (C : Addr) : Prop where
  at_ : mg x = some (.ref C)
  exc : PySem.W.excIn K C He.veBase "ValueError.__new__" = true
  keep : PySem.W.keepIn K (.ref C) = true
  sub : PySem.W.subIn K (.ref C) (.type "BaseException") = some true
  ty : PySem.W.typeIn K (.ref C) = some (.type "type")
theorem ds_raise {x m : Str} {C : Addr} {j : Nat} {p p2 pos' : Pos} (hc : X.calm = true) (tk : Takes X W) (e : ErrC X.K X.mg x C) (hg : Gl X x) (hdb : (x == ("__debug__" : Str)) = false := by decide) :
    DS X W kp (.Raise (some (.Call (.Name x p) [.Constant (.str m) j p2] [] pos')) none pos) (sRaise C) :=
  ⟨_, ps_raise hc tk (pmk_own PySem.F.excBase_ValueError e.exc e.at_ e.keep (raises_own e.sub e.ty) hg hdb), fun D σ H F δ fp s h => h F H fp σ none (Ext.refl s.inn) s (Kept.refl _ _) rfl⟩
end
/-! ### try: .. except X as n: .. except Y as m: .. -/
/-- one clause: class, slot, what its suite does -/
abbrev Cl := Value × Nat × (Addr → Value → Option Addr → TS)
def inSlot (i : Nat) (D : Ends) : Ends where
  nx := fun τ G => D.nx (τ.set i none) G
  rt := D.rt
  bk := fun τ G => D.bk (τ.set i none) G
  ct := fun τ G => D.ct (τ.set i none) G
def wClauses (K : PySem.W.Frag) (Wo : WX) (D : Ends) : List Cl → WX
  | [], C, d, τ, G => Wo C d τ G
  | k :: r, C, d, τ, G => ∃ b, PySem.W.exmOne K C k.1 = some b ∧ (b = true → ∀ q, G q = none → k.2.2 q C d (inSlot k.2.1 D) (τ.set k.2.1 (some (.ref q))) G) ∧ (b = false → wClauses K Wo D r C d τ G)
inductive Clauses (X : Cx) : List ExceptHandler → List Cl → Prop
  | nil : Clauses X [] []
  | cons {x n : Str} {c : Value} {i : Nat} {f : Addr → Value → Option Addr → TS} {b1 : Stmt} {bs : List Stmt} {pa pb : Pos} {hd : List ExceptHandler} {l : List Cl}
      (hi : X.N[i]? = some n) (hl : X.env.kindOf n = some .local) (hc : Names X x c)
      (hs : ∀ (q : Addr) (ob : Obj) (C : Value) (d : Option Addr) (pl : List (Addr × Obj)), Zc C d ob → (∃ us, ob.data = .fields us) → PSs (X.suite q ((q, ob) :: pl)) (b1 :: bs) (f q C d))
      (r : Clauses X hd l) : Clauses X (.ExceptHandler (some (.Name x pa)) (some n) (b1 :: bs) pb :: hd) ((c, i, f) :: l)
section
variable {X : Cx} {body : List Stmt} {hd0 : ExceptHandler} {hds : List ExceptHandler} {l : List Cl} {pos : Pos} {tb : WX → TS} {Wo : WX}
theorem ps_tryC (e1 : X.stack = X.env :: X.outer) (e2 : X.env.frame = some X.env.locals) (nd : X.N.Nodup) (tk : Takes X Wo)
    (hb : ∀ (W : WX) (pl : List (Addr × Obj)) (xe : Value → Shared → Prop), Takes (X.tr pl xe) W → PassesOwn (model X.prog X.w) X.A X.env xe → PSs (X.tr pl xe) body (tb W))
    (hh : Clauses X (hd0 :: hds) l) : PS X (.Try body (hd0 :: hds) [] [] pos) (fun D σ H => tb (wClauses X.K Wo D l) D σ H) := by
  constructor
  intro pins s σ H D I0 h0
  have okX := I0.ok
  have frX : X.A.frames = some (X.env :: X.outer) := okX.frames.trans (by rw [e1])
  let xe0 : Value → Shared → Prop := fun v t1 => wpAny (model X.prog X.w) X.A (noteFrame v X.env) (fun _ t2 => wpAny (model X.prog X.w) X.A (setFlight v none)
    (fun _ t3 => wpAny (model X.prog X.w) X.A (handleBy v X.env (hd0 :: hds)) (SP X pins D) X.xe t3) X.xe t2) X.xe t1
  have catch_ : Takes (X.tr (X.pn ++ pins) xe0) (wClauses X.K Wo D l) := by
    rintro u t ⟨q, B, t0, pins1, τ, G, C, d, rfl, I1, nb, up, sky, nq, eos, bare, wq⟩
    have I2 : L2.Inv X pins τ G t0 := Inv.ofTry I1 okX
    have sky2 : Sky B (X.env :: X.outer) q (Zc C d) X.env.locals t.heap := e1 ▸ sky
    refine Sky.land Zc.steady frX e2 sky2 fun k fl upk => ?_
    have I3 : L2.Inv X pins τ G { t with heap := k } := I2.landed nb fl.1 (up.trans upk) eos bare
    obtain ⟨ob, us, hob, hz, hdt⟩ := fl.there
    have out : q ∉ frs (X.env :: X.outer) := by
      intro m
      obtain ⟨_, o', w1, w2⟩ := fl.2.2.1.mem m
      rw [hob] at w1
      cases w1
      exact w2 _ hdt
    have outL : q ≠ X.env.locals := by
      rintro z
      exact out (List.mem_filterMap.mpr ⟨X.env, List.mem_cons_self, by rw [e2, z]⟩)
    have outF : q ∉ X.fs := by
      intro m
      obtain ⟨ev, m1, m2⟩ := List.mem_filterMap.mp m
      exact out (List.mem_filterMap.mpr ⟨ev, List.mem_cons_of_mem _ m1, m2⟩)
    have J := I3.suite hob hdt nq outL outF
    have run : ∀ {hs' : List ExceptHandler} {l' : List Cl}, Clauses X hs' l' → wClauses X.K Wo D l' C d τ G →
        wpAny (model X.prog X.w) X.A (handleBy (.ref q) X.env hs') (SP X pins D) X.xe { t with heap := k } := by
      intro hs' l' hk
      induction hk with
      | nil =>
        intro wq
        apply wpAny_handleBy_nil
        obtain ⟨_, _, _, ob2, us2, T, _, _, g1, _, g2, g3, _⟩ := id fl
        unfold PySem.passOn
        apply wpAny_bind
        apply wpAny_field g1 g2 g3
        rw [if_neg (by simp : ¬ ((Value.ref T == Value.none) = true))]
        have last : wpAny (model X.prog X.w) X.A (setFlight (.ref q) X.env.frame) (fun _ t4 => wpAny (model X.prog X.w) X.A (throw (.ref q) : Sem Flow) (SP X pins D) X.xe t4) X.xe { t with heap := k } := by
          rw [e2]
          apply HandSPX.setFlight_upZ fl
          intro k4 held up4
          apply wpAny_throw
          apply tk
          exact ⟨q, B, t0, pins, τ, G, C, d, rfl, I2, nb, (up.trans upk).trans up4, .inr (.inr (e1 ▸ held)), nq, eos, bare, wq⟩
        first
          | exact wpAny_bind (wpAny_pure (wpAny_bind last))
          | exact wpAny_bind last
      | @cons x n c i f b1 bs pa pb hd2 l2 hi hl hc hsu r ih =>
        rintro ⟨b, hm, yes, no⟩
        refine wpAny_handleBy_cons (codeAny_handlers_test ?_) nofun
        have look1 : PySem.W.Looks (model X.prog X.w) k (typeOf (.ref q)) C := by
          intro A Q E t5 kk z
          exact wpAny_typeOf_ref (kk _ _ hob) (by rw [hz.1]; exact z)
        have look2 := PySem.W.exm_one (M := model X.prog X.w) I3.kIn look1 hm
        have named : ∀ {Q : Value → Shared → Prop} {E : Value → Shared → Prop}, Q c { t with heap := k } →
            wpAny (model X.prog X.w) (X.A.mark (some (.ref q))) (eval (.Name x pa) X.env) Q E { t with heap := k } := by
          intro Q E z
          obtain ⟨n1, n2, n3 | ⟨n3, n4, n5⟩⟩ := hc
          · exact ld_glob (X := X.suite q ((q, ob) :: (X.pn ++ pins))) J n1 n3 z n2
          · exact ld_blt (X := X.suite q ((q, ob) :: (X.pn ++ pins))) J n1 n3 n4 z n5 n2
        apply named
        apply look2.here
        cases b with
        | false => exact ih (no rfl)
        | true =>
          apply codeAny_handlers_suite_as
          apply HandSPX.lands_againZ fl
          intro k4 fl4 up4
          have I4 : L2.Inv X pins τ G { t with heap := k4 } := I2.landed nb fl4.1 ((up.trans upk).trans up4) eos bare
          obtain ⟨ob4, us4, hob4, hz4, hdt4⟩ := fl4.there
          have J4 := I4.suite hob4 hdt4 nq outL outF
          refine store_ok (X := X.suite q ((q, ob4) :: (X.pn ++ pins))) (v := .ref q) J4 nd hi (.inl hl) rfl (fun t5 J5 => ?_) (.inr hl)
          have leave : ∀ {τ6 : L2.St} {G6 : Hp} {t6 : Shared} {Q : Shared → Prop}, L2.Inv (X.suite q ((q, ob4) :: (X.pn ++ pins))) [] τ6 G6 t6 → (∀ t7, L2.Inv X pins (τ6.set i none) G6 t7 → Q t7) →
              wpAny (model X.prog X.w) X.A (do bindName X.env n .none; unbindBehindTheSuite X.env n pb) (fun _ t7 => Q t7) X.xe t6 := by
            intro τ6 G6 t6 Q J6 hq
            exact gone_ok (J6.unsuite okX) nd hi hl hq
          refine wpAny_mono ((hsu q ob4 C d (X.pn ++ pins) hz4 ⟨_, hdt4⟩).run [] t5 _ G _ J5 (yes rfl q nq)) (fun fl6 t6 z => ?_) fun _ _ z => z.elim
          cases fl6 with
          | ret u =>
            obtain ⟨v6, τ6, G6, J6, r6, q6⟩ := z
            exact leave J6 fun t7 I7 => ⟨_, _, _, I7, r6, q6⟩
          | next =>
            obtain ⟨τ6, G6, J6, q6⟩ := z
            exact leave J6 fun t7 I7 => ⟨_, _, I7, q6⟩
          | brk =>
            obtain ⟨τ6, G6, J6, q6⟩ := z
            exact leave J6 fun t7 I7 => ⟨_, _, I7, q6⟩
          | cont =>
            obtain ⟨τ6, G6, J6, q6⟩ := z
            exact leave J6 fun t7 I7 => ⟨_, _, I7, q6⟩
    exact run hh wq
  refine wpAny_Try_except (wpAny_mono ((hb _ _ _ catch_ PassesOwn.looking).run [] s σ H D (I0.toTry _) h0) (fun fl t z => ?_) fun _ _ z => z)
  cases fl with
  | ret u =>
    obtain ⟨v, τ, G, J, r, q⟩ := z
    exact ⟨v, τ, G, J.ofTry okX, r, q⟩
  | next =>
    obtain ⟨τ, G, J, q⟩ := z
    exact wpAny_execs_nil ⟨τ, G, J.ofTry okX, q⟩
  | brk =>
    obtain ⟨τ, G, J, q⟩ := z
    exact ⟨τ, G, J.ofTry okX, q⟩
  | cont =>
    obtain ⟨τ, G, J, q⟩ := z
    exact ⟨τ, G, J.ofTry okX, q⟩
end
/-! ### .. as a function -/
structure Hdl where
  cls : Addr
  slot : Nat
  run : Mo Fl
def aftH (i : Nat) (r : Res Fl) : Res Fl := match r with
  | .ok fl δ => .ok fl (δ.set i none)
  | _ => .st
def hGo (m : Addr → Addr → Option Bool) : List Hdl → Addr → List (Str × PyData) → Mo Fl
  | [], c, x => fun δ => .ex c x δ
  | k :: r, c, x => fun δ => match m c k.cls with
    | some true => aftH k.slot (k.run (δ.set k.slot none))
    | some false => hGo m r c x δ
    | none => .st
def sTry (m : Addr → Addr → Option Bool) (fb : Mo Fl) (hs : List Hdl) : Mo Fl := fun δ => match fb δ with
  | .ex c x δ' => hGo m hs c x δ'
  | r => r
/-- the clauses of a try, each by its def -/
inductive DHs (X : Cx) (kp : List Nat) : List ExceptHandler → List Hdl → Prop
  | nil : DHs X kp [] []
  | cons {x n : Str} {C : Addr} {i : Nat} {f : Mo Fl} {b1 : Stmt} {bs : List Stmt} {pa pb : Pos} {hd : List ExceptHandler} {l : List Hdl}
      (hi : X.N[i]? = some n) (hl : X.env.kindOf n = some .local) (hk : kp.contains i = false) (hc : Names X x (.ref C))
      (hs : ∀ (q : Addr) (ob : Obj) (pl : List (Addr × Obj)), DSs (X.suite q ((q, ob) :: pl)) (fun _ _ _ _ => False) kp (b1 :: bs) f)
      (r : DHs X kp hd l) : DHs X kp (.ExceptHandler (some (.Name x pa)) (some n) (b1 :: bs) pb :: hd) (⟨C, i, f⟩ :: l)
section
variable {X : Cx} {W : WX} {kp : List Nat} {pos : Pos}
/-- the end of a suite, from what is wished behind the try -/
theorem SPost.aft {D : Ends} {σ : L2.St} {F H : Hp} {fp fp1 : List Addr} {i : Nat} {v : Option V} {r : Res Fl} (hk : kp.contains i = false) (hsub : ∀ a ∈ fp1, a ∈ fp) (h : SPost X W kp D σ F H fp (aftH i r)) :
    SPost X (fun _ _ _ _ => False) kp (inSlot i D) (σ.set i v) F H fp1 r := by
  have hne : ∀ j ∈ kp, j ≠ i := by
    rintro j hj rfl
    rw [List.contains_iff_mem.mpr hj] at hk
    cases hk
  have kept : ∀ {τ : L2.St}, Kept kp (σ.set i v) τ → Kept kp σ (τ.set i none) := by
    intro τ k j hj
    rw [List.getElem?_set_ne (hne j hj).symm, k j hj, List.getElem?_set_ne (hne j hj).symm]
  have keptR : ∀ {τ : L2.St}, Kept kp (σ.set i v) τ → Kept kp σ (τ.set i none) := kept
  cases r with
  | st => exact h.elim
  | ex c x δ' => exact h.elim
  | ok fl δ' =>
    have step : ∀ {F' H' : Hp} {fp' : List Addr} {τ : L2.St}, Ext F H fp1 F' H' fp' → St3 X.KW F' H' δ' τ fp' → ∃ fp2, Ext F H fp F' H' fp2 ∧ St3 X.KW F' H' (δ'.set i none) (τ.set i none) fp2 ∧ ∀ a ∈ fp2, a ∈ fp' := by
      intro F' H' fp' τ e s
      obtain ⟨fp2, r2, p2, c2, _⟩ := s.rep.clear i
      obtain ⟨s2, m2⟩ := s.sub (c2 none) p2
      refine ⟨fp2, ⟨fun a o q n => e.keep a o q fun z => n (hsub a z), e.sub, e.inn, fun a o q n => ?_, fun a z => ?_⟩, s2, m2⟩
      · rcases e.new a o q n with z | z
        · exact .inl (hsub a z)
        · exact .inr z
      · rcases e.fpn a (m2 a z) with z | z
        · exact .inl (hsub a z)
        · exact .inr z
    cases fl with
    | nx =>
      intro F' H' fp' τ e s k
      obtain ⟨fp2, e2, s2, _⟩ := step e s
      exact h F' H' fp2 _ e2 s2 (kept k)
    | bk =>
      intro F' H' fp' τ e s k
      obtain ⟨fp2, e2, s2, _⟩ := step e s
      exact h F' H' fp2 _ e2 s2 (kept k)
    | ct =>
      intro F' H' fp' τ e s k
      obtain ⟨fp2, e2, s2, _⟩ := step e s
      exact h F' H' fp2 _ e2 s2 (kept k)
    | ret x =>
      intro F' H' fp' τ v' q e s k rv ndp nf
      obtain ⟨fp2, r2, p2, c2, _⟩ := s.rep.clear i
      obtain ⟨s2, m2⟩ := s.sub (c2 none) p2
      have nd2 : (fp2 ++ q).Nodup := by
        obtain ⟨n1, n2, n3⟩ := List.nodup_append.mp ndp
        exact List.nodup_append.mpr ⟨s2.nd, n2, fun a ha b hb => n3 a (m2 a ha) b hb⟩
      refine h F' H' fp2 _ v' q ⟨fun a o w n => e.keep a o w fun z => n (hsub a z), e.sub, e.inn, fun a o w n => ?_, fun a z => ?_⟩ s2 (kept k) rv nd2 nf
      · rcases e.new a o w n with z | z
        · exact .inl (hsub a z)
        · exact .inr z
      · have z' : a ∈ fp' ++ q := by
          rcases List.mem_append.mp z with z | z
          · exact List.mem_append_left _ (m2 a z)
          · exact List.mem_append_right _ z
        rcases e.fpn a z' with z | z
        · exact .inl (hsub a z)
        · exact .inr z
theorem ds_try {body : List Stmt} {hd0 : ExceptHandler} {hds : List ExceptHandler} {l : List Hdl} {fb : Mo Fl} (e1 : X.stack = X.env :: X.outer) (e2 : X.env.frame = some X.env.locals) (nd : X.N.Nodup) (tk : Takes X W)
    (hb : ∀ (W' : WX) (pl : List (Addr × Obj)) (xe : Value → Shared → Prop), Takes (X.tr pl xe) W' → PassesOwn (model X.prog X.w) X.A X.env xe → DSs (X.tr pl xe) W' kp body fb)
    (hh : DHs X kp (hd0 :: hds) l) : DS X W kp (.Try body (hd0 :: hds) [] [] pos) (sTry (fun c k => PySem.W.exmOne X.K (.ref c) (.ref k)) fb l) := by
  have conv : ∀ {hs : List ExceptHandler} {l : List Hdl}, DHs X kp hs l → ∃ cl : List Cl, Clauses X hs cl ∧ ∀ (D : Ends) (σ : L2.St) (F H : Hp) (fp : List Addr) (c : Addr) (x : List (Str × PyData)) (δ : Env),
      St3 X.KW F H δ σ fp → SPost X W kp D σ F H fp (hGo (fun c k => PySem.W.exmOne X.K (.ref c) (.ref k)) l c x δ) → ∀ dd, ExR X.KW F H x dd → wClauses X.K W D cl (.ref c) dd σ H := by
    intro hs l k
    induction k with
    | nil => exact ⟨[], .nil, fun D σ F H fp c x δ s h dd z => h F H fp σ dd (Ext.refl s.inn) s (Kept.refl _ _) z⟩
    | @cons x n C i f b1 bs pa pb hd l hi hl hk hc hsu r ih =>
      obtain ⟨cl, h1, h2⟩ := ih
      refine ⟨(.ref C, i, fun q _ _ D σ H => ∃ F δ fp, St3 X.KW F H δ σ fp ∧ SPost X (fun _ _ _ _ => False) kp D σ F H fp (f δ)) :: cl, .cons hi hl hc (fun q ob C' d pl _ _ => ?_) h1, fun D σ F H fp c x δ s h dd z => ?_⟩
      · obtain ⟨t, p, w⟩ := hsu q ob pl
        exact ⟨fun pins s σ H D I ⟨F, δ, fp, s3, post⟩ => p.run pins s σ H D I (w D σ H F δ fp s3 post)⟩
      · simp only [hGo] at h
        cases hm : PySem.W.exmOne X.K (.ref c) (.ref C) with
        | none => rw [hm] at h; exact h.elim
        | some b =>
          rw [hm] at h
          refine ⟨b, hm, fun hb q hq => ?_, fun hb => ?_⟩
          · subst hb
            obtain ⟨fp2, r2, p2, c2, _⟩ := s.rep.clear i
            obtain ⟨s2, m2⟩ := s.sub (c2 (some (.ref q))) p2
            exact ⟨F, δ.set i none, fp2, s2, SPost.aft hk m2 h⟩
          · subst hb
            exact h2 D σ F H fp c x δ s h dd z
  obtain ⟨cl, h1, h2⟩ := conv hh
  refine ⟨_, ps_tryC (tb := fun W' D σ H => ∃ F δ fp, St3 X.KW F H δ σ fp ∧ SPost X W' kp D σ F H fp (fb δ)) e1 e2 nd tk (fun W' pl xe tk' pw => ?_) h1, fun D σ H F δ fp s h => ⟨F, δ, fp, s, ?_⟩⟩
  · obtain ⟨t, p, w⟩ := hb W' pl xe tk' pw
    exact ⟨fun pins s σ H D I ⟨F, δ, fp, s3, post⟩ => p.run pins s σ H D I (w D σ H F δ fp s3 post)⟩
  · unfold sTry at h
    cases hr : fb δ with
    | st => rw [hr] at h; exact h
    | ok fl δ' =>
      rw [hr] at h
      cases fl <;> exact h
    | ex c x δ' =>
      rw [hr] at h
      intro F' H' fp' σ' dd e s' k z
      exact h2 D σ' F' H' fp' c x δ' s' (SPost.from h e k) dd z
end
end DL
namespace DL
open PySem PySem.Spec PyProof.Rows L2
/-- the table of the modules stands where it stands -/
def sysOk (K : PySem.W.Frag) : Bool := match K.lookup sysModules with
  | some ⟨_, _, .dict _ _, _⟩ => true
  | _ => false
theorem sysOk_at {K : PySem.W.Frag} {h : Heap} (x : sysOk K = true) (k : K.In h) : ∃ o es n, h.get? sysModules = some o ∧ o.data = .dict es n := by
  unfold sysOk at x
  split at x
  · rename_i c d es n sl e
    exact ⟨_, es, n, k _ _ e, rfl⟩
  · cases x
abbrev AlE : Type := He.AlD × Bool
def obsE (n : Nat) (fa : List He.Fa) (fn : List He.DefD) (g : Addr → Option Obj) : AlE := (He.obsD fa fn (He.frG g (sysModules :: He.asD g n)), sysOk (He.frG g (sysModules :: He.asD g n)))
def hookE (n : Nat) (fa : List He.Fa) (fn : List He.DefD) : PySem.W.Hook where
  α := AlE
  obs := fun s => obsE n fa fn s.heap.get?
  val := fun _ => (He.valD fn, true)
  says := fun _ h => ∃ K : PySem.W.Frag, K.In h ∧ He.SaysD fa fn K ∧ sysOk K = true
  of := fun _ _ e => ⟨_, He.frG_in, congrArg Prod.fst e, congrArg Prod.snd e⟩
  keeps := fun _ _ _ ⟨K, a, b⟩ k => ⟨K, PySem.W.Frag.In.keeps a k, b⟩
theorem obsE_eq {n : Nat} {fa : List He.Fa} {fn : List He.DefD} {g : Addr → Option Obj} {s : Shared} (h : ∀ a, g a = s.heap.get? a) : obsE n fa fn g = (hookE n fa fn).obs s := by
  have e : g = s.heap.get? := funext h
  subst e
  rfl
section
variable {X : Cx} {pins : List (Addr × Obj)} {σ : L2.St} {H F : Hp} {s : Shared}
theorem not_sys (hk : sysOk X.KW = true) (I : L2.Inv X pins σ H s) {a : Addr} {o : Obj} {vs : Array Value} {n : Nat} (ho : s.heap.get? a = some o) (hd : o.data = .seq vs n) : sysModules ≠ a := by
  rintro rfl
  obtain ⟨o', es, m, h1, h2⟩ := sysOk_at hk I.kIn
  rw [ho] at h1
  cases h1
  rw [hd] at h2
  cases h2
def showOk2 (d : PyData) : Bool := d.showable && decide (d.shown.length ≤ 16777216) && decide (d.depth ≤ 50)
def cRepr2 : OpC := fun ds => match ds with
  | [d] => if showOk2 d then some (.str d.shown) else none
  | _ => none
end
end DL
/-! Tables of sets up to 1228 entries: the facts of HandS.TupSets for the masks up to 2047. -/
namespace DT
open PySem PySem.Spec PyProof.Rows L2
/-- the round from a slot on, with the slots met as bits of a number -/
def orb (m : Nat) : Nat → Nat × Nat → Nat × Nat
  | 0, p => p
  | f + 1, p => orb m f ((p.1 * 5 + 1) % (m + 1), p.2 ||| 1 <<< p.1)
theorem orb_spec (m : Nat) : ∀ (f a s : Nat), (orb m f (lcgN m a, s)).1 = lcgN m (a + f) ∧ ∀ j, (orb m f (lcgN m a, s)).2.testBit j = true → s.testBit j = true ∨ ∃ k, a ≤ k ∧ k < a + f ∧ lcgN m k = j
  | 0, a, s => ⟨rfl, fun j h => .inl h⟩
  | f + 1, a, s => by
    obtain ⟨h1, h2⟩ := orb_spec m f (a + 1) (s ||| 1 <<< lcgN m a)
    have e : a + (f + 1) = a + 1 + f := by omega
    refine ⟨by rw [e]; exact h1, fun j h => ?_⟩
    rcases h2 j h with h | ⟨k, k1, k2, k3⟩
    · rw [Nat.testBit_or, Bool.or_eq_true] at h
      rcases h with h | h
      · exact .inl h
      · refine .inr ⟨a, Nat.le_refl _, by omega, ?_⟩
        rw [Nat.one_shiftLeft, Nat.testBit_two_pow] at h
        exact of_decide_eq_true h
    · exact .inr ⟨k, by omega, by omega, k3⟩
def MaskG (m : Nat) : Prop := m = 7 ∨ m = 31 ∨ m = 127 ∨ m = 511 ∨ m = 2047 ∨ m = 8191
theorem maskG_odd {m : Nat} (h : MaskG m) : m % 2 = 1 := by rcases h with e | e | e | e | e | e <;> subst e <;> rfl
theorem orb_add (m : Nat) : ∀ (f k : Nat) (p : Nat × Nat), orb m (f + k) p = orb m k (orb m f p)
  | 0, k, p => by rw [Nat.zero_add]; rfl
  | f + 1, k, p => by
    rw [show f + 1 + k = (f + k) + 1 by omega]
    show orb m (f + k) _ = orb m k (orb m f _)
    exact orb_add m f k _
theorem orb_8k0 : orb 8191 1024 (0, 0) = (7168, 16253417681745851590714934811372798772429847851384433905606126162615600652179978444267375678125853328272935793500969531499525136399062634449661530928406816623775070125164772864927029005314864944453660922160637913502312799334168331909040169441809093112441781970232601702199155631706826034310874299235238511518506227489185685501111573135950323300165524382008041780265254352406529554883893256893711722748706012396596777134866041487572348104035617818903038727941841271401747412102344150346821751395152354981497523029622805542196877487441227337717591133972489770109285910896349489447609779405241465418856914189274629045411101855168319500086784023960486685051369187743800800745006861276997063316814054468697566057145933824927430569999560208098565490223946029258516087046959074895079891786898670348452673987329309477466823700365698117178723454621584426567667883848869532188710733500024487543645210733058366773485258884767228980041570143322290280957431878244107006336512533342185074839710188994878698360312900407395752070078297383532236481427068502750404961146237742068941431320785503055582079699082718729091071139006425169656852453145298439976257442816987022050200793541041349562939096695404389738927390772991649979734718426099944943232952434225545261810729862227416127340732006256817125917473577262041379018208411766391456932029041206948971888775305386747029613434523189266176742931564692393525195264923589704984340429293508584914124049339375764768003612925544586572907828562469669954327872004895940283796742238559960662950800421710828761736781380433622977366586756514934803223920833025703820315427927919431624064660072356978662241456085546568063271566254493856091206570695896560770275838919118568522799118836123162561169053314306021400941924246176051690096644584847889929066860258143600376708464635809838883981865073626555112973611679429075927206211234936357159031964186205579984149469958675928423168780311712887254109040219375514356313099065090929367165284509033342193843229174927993146322305160333649427578849383803458031223874450482838014960451215402416829613020280381112930711435744642540756180928997489222280937435820827608250520942515489198883786479799080846823554305306792454990660347502840341809111102222267931942626039251967446094007878722232383754698901290384975463200944278769853954025167682908532632420889107781377254094380309471684313691640601401568282818739622858941051392112050618229320954674593751261508561416379028841136621952389210176115441975635) := by decide +kernel
theorem orb_8k1 : orb 8191 1024 (7168, 16253417681745851590714934811372798772429847851384433905606126162615600652179978444267375678125853328272935793500969531499525136399062634449661530928406816623775070125164772864927029005314864944453660922160637913502312799334168331909040169441809093112441781970232601702199155631706826034310874299235238511518506227489185685501111573135950323300165524382008041780265254352406529554883893256893711722748706012396596777134866041487572348104035617818903038727941841271401747412102344150346821751395152354981497523029622805542196877487441227337717591133972489770109285910896349489447609779405241465418856914189274629045411101855168319500086784023960486685051369187743800800745006861276997063316814054468697566057145933824927430569999560208098565490223946029258516087046959074895079891786898670348452673987329309477466823700365698117178723454621584426567667883848869532188710733500024487543645210733058366773485258884767228980041570143322290280957431878244107006336512533342185074839710188994878698360312900407395752070078297383532236481427068502750404961146237742068941431320785503055582079699082718729091071139006425169656852453145298439976257442816987022050200793541041349562939096695404389738927390772991649979734718426099944943232952434225545261810729862227416127340732006256817125917473577262041379018208411766391456932029041206948971888775305386747029613434523189266176742931564692393525195264923589704984340429293508584914124049339375764768003612925544586572907828562469669954327872004895940283796742238559960662950800421710828761736781380433622977366586756514934803223920833025703820315427927919431624064660072356978662241456085546568063271566254493856091206570695896560770275838919118568522799118836123162561169053314306021400941924246176051690096644584847889929066860258143600376708464635809838883981865073626555112973611679429075927206211234936357159031964186205579984149469958675928423168780311712887254109040219375514356313099065090929367165284509033342193843229174927993146322305160333649427578849383803458031223874450482838014960451215402416829613020280381112930711435744642540756180928997489222280937435820827608250520942515489198883786479799080846823554305306792454990660347502840341809111102222267931942626039251967446094007878722232383754698901290384975463200944278769853954025167682908532632420889107781377254094380309471684313691640601401568282818739622858941051392112050618229320954674593751261508561416379028841136621952389210176115441975635) = (6144, 613547923508048236912526357628100730688815611297349041136941614873010785907488161678603730495705436673443732321741990192220722785956194421897749540420298129541070484429220258722735498180646071892181499709554751270147804858339713115202576073834165712189161337225210992621621896357210235689646449974216311687968827631033778554281745513391195867580289452511811319143030941725892120134245200795383951394910798786683793309611230726584314239868364884093179356588148031032908716984774689424406379028076135231941574402193260177409227016567086028786145951016423033529373792694224233212239108923053531438533539211767432816966704213436564909884830911654305693353893812785835650577073792615740166979473283483812339148534211487611133430275890571550736389429469506720905291080845813903594195909182213198612597815657348924911101353201985806064327348604607912365600925063464832782845029997587816525135131066604226120278038041602288779416540882059619654236925154674530880165694117988299033334616753900036272695509367244259264803317152797427520764007441494768200555309416357390049459136143440170665569636248488339306583003456759822116458504936914393339038612512310385912794502737915102647266424449005542846346477400733553430850925365019082074952053464478168995528647575326057235351673529785110016365535434677055452831448985287146858050936695720650322019889470410824863356491111655984369655579434117428714930434665991892895177986711456380245206303691098791474556268337378712121141505347305524224297806292310473069761968807254321107841834651934968859910865415443150613101810253199148039899473019262540700796126048366019810432637147901020489021531909976936152079442049439637953936623928657158880420251330339663076605468289366817579985464826414528224655270009593779845311152584045493685641235049599267568237214245867243576704779818533945183168296673885263418233560370464653601091492936678810274778213792627195324360436173666248082068425882917903284233727588524370444395488733509324163527181344399846675297880078401916013149256507858317610212026221891599299270811930379164431121212936696833149232955055325382836908490170697042405152166227239061226339260407523510967287286185912504801032560166924069169444986160252228512601964292821897473382254578811286879365464336306130725428871217985210080407197363228253876524708953106994839892911716483910025333818274516834885462301884689113460346166262772049806838843968033178631345923562819360100213423390631630863284180244921408064902772754613649755) := by decide +kernel
theorem orb_8k2 : orb 8191 1024 (6144, 613547923508048236912526357628100730688815611297349041136941614873010785907488161678603730495705436673443732321741990192220722785956194421897749540420298129541070484429220258722735498180646071892181499709554751270147804858339713115202576073834165712189161337225210992621621896357210235689646449974216311687968827631033778554281745513391195867580289452511811319143030941725892120134245200795383951394910798786683793309611230726584314239868364884093179356588148031032908716984774689424406379028076135231941574402193260177409227016567086028786145951016423033529373792694224233212239108923053531438533539211767432816966704213436564909884830911654305693353893812785835650577073792615740166979473283483812339148534211487611133430275890571550736389429469506720905291080845813903594195909182213198612597815657348924911101353201985806064327348604607912365600925063464832782845029997587816525135131066604226120278038041602288779416540882059619654236925154674530880165694117988299033334616753900036272695509367244259264803317152797427520764007441494768200555309416357390049459136143440170665569636248488339306583003456759822116458504936914393339038612512310385912794502737915102647266424449005542846346477400733553430850925365019082074952053464478168995528647575326057235351673529785110016365535434677055452831448985287146858050936695720650322019889470410824863356491111655984369655579434117428714930434665991892895177986711456380245206303691098791474556268337378712121141505347305524224297806292310473069761968807254321107841834651934968859910865415443150613101810253199148039899473019262540700796126048366019810432637147901020489021531909976936152079442049439637953936623928657158880420251330339663076605468289366817579985464826414528224655270009593779845311152584045493685641235049599267568237214245867243576704779818533945183168296673885263418233560370464653601091492936678810274778213792627195324360436173666248082068425882917903284233727588524370444395488733509324163527181344399846675297880078401916013149256507858317610212026221891599299270811930379164431121212936696833149232955055325382836908490170697042405152166227239061226339260407523510967287286185912504801032560166924069169444986160252228512601964292821897473382254578811286879365464336306130725428871217985210080407197363228253876524708953106994839892911716483910025333818274516834885462301884689113460346166262772049806838843968033178631345923562819360100213423390631630863284180244921408064902772754613649755) = (5120, 613681112107976617161031287016440395603054567776799482928860446541690705356215009174788438900209117240914969315032280081951290923493518596730668440938302185917547722437691528360736231750987635247620909941196799926742270916873952558983972777164829871772427617276286081727524275261816859216257081832260991482002451813404706373261338522358457095784877689389648499252446009205153830611197871264809626379626333212980203883759932362937397906134948746744614587242980295898277568899175931020895148813276058798141089765851067405089834081926210158036258861297898121752729152580703365255166567392478422432786879752834539456776948678753584570151031419491336201757477181375388388800615335087716329737337619135892905134418874476644023824966958605598986481393514670518409764220649208644633327060572130888363020501608473161930739515489166438691911277096909881637702561972219041679604098424287926447661058330625153810222472524657241887590485348504493954801523007503251841935777944649360778788697873878010714778164415594781039298880963568081017408952914287035878800955888534106481177930743358187656225771958130627452147161463270540744909352463249519460115207422563994170280414170115147746625345088591230022826128321997039038419018236925828106289090465789985038615576753072919629066982129389737340345096487900924522937402591897649863106255218181453706008614827347742609685050680750757684301525195340488306309666499093604071899919292261419775875070754237824759616434016795525533680845933078702814485716398775619260272159817147008984579346963552518216037172581014015962305929632834036491113784393362794167409373668248394274417379815823222915789855421021497380217936060603503519875697876266151020483842318241282929571600024839100233326260401001236866764988402382054554268627542834706596038152596451281608353317997895746334333450462147141058925278086959024100440110290808204643239375265030395862606509236175059393385881670536942861476046759322518430020010765540249608912535962285176316179291621352358597065282122013932342086221233431046978780422057240404457555307090203621710380423840473954536189239152125979697584911808294767944279873297208867664491521624069917555296135519162332628899686863890489213088187513520232924704076942198819066813279427709656497199111314228643538639599332820301966884106367210064324356233266634154892439902023422814460515527594063401326553469793306954551129160074882586585636766962057783420136513903609370309759794992829923172567920036745712253892984641137000795) := by decide +kernel
theorem orb_8k3 : orb 8191 1024 (5120, 613681112107976617161031287016440395603054567776799482928860446541690705356215009174788438900209117240914969315032280081951290923493518596730668440938302185917547722437691528360736231750987635247620909941196799926742270916873952558983972777164829871772427617276286081727524275261816859216257081832260991482002451813404706373261338522358457095784877689389648499252446009205153830611197871264809626379626333212980203883759932362937397906134948746744614587242980295898277568899175931020895148813276058798141089765851067405089834081926210158036258861297898121752729152580703365255166567392478422432786879752834539456776948678753584570151031419491336201757477181375388388800615335087716329737337619135892905134418874476644023824966958605598986481393514670518409764220649208644633327060572130888363020501608473161930739515489166438691911277096909881637702561972219041679604098424287926447661058330625153810222472524657241887590485348504493954801523007503251841935777944649360778788697873878010714778164415594781039298880963568081017408952914287035878800955888534106481177930743358187656225771958130627452147161463270540744909352463249519460115207422563994170280414170115147746625345088591230022826128321997039038419018236925828106289090465789985038615576753072919629066982129389737340345096487900924522937402591897649863106255218181453706008614827347742609685050680750757684301525195340488306309666499093604071899919292261419775875070754237824759616434016795525533680845933078702814485716398775619260272159817147008984579346963552518216037172581014015962305929632834036491113784393362794167409373668248394274417379815823222915789855421021497380217936060603503519875697876266151020483842318241282929571600024839100233326260401001236866764988402382054554268627542834706596038152596451281608353317997895746334333450462147141058925278086959024100440110290808204643239375265030395862606509236175059393385881670536942861476046759322518430020010765540249608912535962285176316179291621352358597065282122013932342086221233431046978780422057240404457555307090203621710380423840473954536189239152125979697584911808294767944279873297208867664491521624069917555296135519162332628899686863890489213088187513520232924704076942198819066813279427709656497199111314228643538639599332820301966884106367210064324356233266634154892439902023422814460515527594063401326553469793306954551129160074882586585636766962057783420136513903609370309759794992829923172567920036745712253892984641137000795) = (4096, 907414368493943480000120948571298908147570499867722132835033037923931078777468019347419205920779646626906331193174959496225840556723832489005075116456163271708053308191535562962401533038514732309264813497296810425481329196324378434936322542197016975753127166953342079411067745616141828049551977402473221433333393365051388369018283825283759968136962778019440824395815908743020171741483690953534181187225857528998879230823111350688265167482406227412076546761494641248006075879508216768835366409897642249895710436581772137540590908674735335553035162933666724256440730165815155028513282447501334602551005501909261471186396778459167332135437169887376428261016636475778189062908898764870551708597435152501192763885578866400956107756734834686461691563999668655436190783719875401250298246953459462285082794188994407317086384210624068515910177439891576360863741343765223043605607233629599723729438166375328108866009943315009456537180093074537880690282200520070472517481903027834489818466820025325616838350364622383760476889322328638472601536601043471029283206688993250395403988269553893593782055336796689617442326660324721659821493004582395645036809092676988750755044591022455461517041596835770664305998560335944259880721257392393560179751869431441045032727212722473563386273893352424487835332261460283977076084338074431476448334614947145037882892189756667594656587096607415807061274760164794856619645112715438127632786778551949515986690656030645484919160826742535917728598811876613077833967105288801625567091338127841162774618180013472430454704645314793358107724875225265121348102994000670177057516345238856130226708721817491935367276887609618516206808493299103539505266916544683975056861685373671024298053855992378066341750021814188832276912095645877717166707566910101229290656706503517663848766165729292087084880666144698914726886154497388316800800350459862108603947437466130300735357419728282812925514964178854470765608264117617275176702868447698148006718474508050601713470639977003443066151743434921485451266873789460290317176728936730562369111706764290586836965623917872578532940327658689137268111346161880080451601926621832722569085622059914443096630667840492011851459080239863682082462335222056910377889986840997434000455820034716221475635823140157226045630085776738688594765159095564175161196233000309490068085824879504698837806381332241895229169907902386801989860047302328126556283745084534324051272186700698048543263097454563456494557959906486320913596231101303135) := by decide +kernel
theorem orb_8k4 : orb 8191 1024 (4096, 907414368493943480000120948571298908147570499867722132835033037923931078777468019347419205920779646626906331193174959496225840556723832489005075116456163271708053308191535562962401533038514732309264813497296810425481329196324378434936322542197016975753127166953342079411067745616141828049551977402473221433333393365051388369018283825283759968136962778019440824395815908743020171741483690953534181187225857528998879230823111350688265167482406227412076546761494641248006075879508216768835366409897642249895710436581772137540590908674735335553035162933666724256440730165815155028513282447501334602551005501909261471186396778459167332135437169887376428261016636475778189062908898764870551708597435152501192763885578866400956107756734834686461691563999668655436190783719875401250298246953459462285082794188994407317086384210624068515910177439891576360863741343765223043605607233629599723729438166375328108866009943315009456537180093074537880690282200520070472517481903027834489818466820025325616838350364622383760476889322328638472601536601043471029283206688993250395403988269553893593782055336796689617442326660324721659821493004582395645036809092676988750755044591022455461517041596835770664305998560335944259880721257392393560179751869431441045032727212722473563386273893352424487835332261460283977076084338074431476448334614947145037882892189756667594656587096607415807061274760164794856619645112715438127632786778551949515986690656030645484919160826742535917728598811876613077833967105288801625567091338127841162774618180013472430454704645314793358107724875225265121348102994000670177057516345238856130226708721817491935367276887609618516206808493299103539505266916544683975056861685373671024298053855992378066341750021814188832276912095645877717166707566910101229290656706503517663848766165729292087084880666144698914726886154497388316800800350459862108603947437466130300735357419728282812925514964178854470765608264117617275176702868447698148006718474508050601713470639977003443066151743434921485451266873789460290317176728936730562369111706764290586836965623917872578532940327658689137268111346161880080451601926621832722569085622059914443096630667840492011851459080239863682082462335222056910377889986840997434000455820034716221475635823140157226045630085776738688594765159095564175161196233000309490068085824879504698837806381332241895229169907902386801989860047302328126556283745084534324051272186700698048543263097454563456494557959906486320913596231101303135) = (3072, 915970166596692620739648597217022803638857005000309372305791872602555204085884997774995238853127232461385117151015031548078117772373406652792177865674090002381989083943207017735178405931111092069936196976575570517322737354022498837017492861360712519618358808708167480368517858936653450717314191795984232061218455716372674732165505545302066970205482951582885628708847027164700352595059574939118302060036898067192015565348442521678804320532831722496266295643795839834187155072208133263255114473485214973925974512649916333170448922603195143723274094054639526472970089370536523731853977072169860594110216081035923560720135589229592185966733926153327546888816707561694724323900084878273682150082911821419795710236357831649184643479834744147260807390015400315406217025659384059955859306470540016190204961625042024303565714464522358508907550638870030620056598873538234583601226178434008859946080574271960631979282743336181224224977953404925996859295870667890349603423578590507410136909115508543143462011437030026712108481092911750286681006161690017429036781069322468642748719292792314676358285942630188351939520873721884595358655066436585164070384135670088210803780784073527409962558195618038016313011865846030860280987980173262314725398007424338459099689702537060189760964471738437447162246530431174859030185676121613835832326335983419403785675122746079261676597534840986463830277820067488623030472879867889311335355747891077870533846406537748408618501124799207521665169470983977982929890913787697315712183170326293068533903647946741888039577198833021648696605725206184547338093888318410388081353964890297074225218349321116780522516746815470081538156503739280621090868348115670217239424349743900699400703320919821165891278979892644894277297148694558693946684759909982812924762515759208492205055136030203648752532311117696221182349875341645387641438887853218298224995484741980278654380341773227137031833537256099370067344513178038897730392566356472289049319864132622594515180809187062407512859922743196532297756415673150199671467344264967175699933207523043708626688976476264168154652817881898694928730354079026838598067745466206585539846656948714443384984104850433220186865899496580007710076178134983020995299137058188076748188886822587226445211871806543492674033943361090815518724787032323730731762262434829267397189505227732590438228898035873584616410261277017834025491517079689123227351361868367942027743426950043228654650775400569401332246692608064461089227346201790815) := by decide +kernel
theorem orb_8k5 : orb 8191 1024 (3072, 915970166596692620739648597217022803638857005000309372305791872602555204085884997774995238853127232461385117151015031548078117772373406652792177865674090002381989083943207017735178405931111092069936196976575570517322737354022498837017492861360712519618358808708167480368517858936653450717314191795984232061218455716372674732165505545302066970205482951582885628708847027164700352595059574939118302060036898067192015565348442521678804320532831722496266295643795839834187155072208133263255114473485214973925974512649916333170448922603195143723274094054639526472970089370536523731853977072169860594110216081035923560720135589229592185966733926153327546888816707561694724323900084878273682150082911821419795710236357831649184643479834744147260807390015400315406217025659384059955859306470540016190204961625042024303565714464522358508907550638870030620056598873538234583601226178434008859946080574271960631979282743336181224224977953404925996859295870667890349603423578590507410136909115508543143462011437030026712108481092911750286681006161690017429036781069322468642748719292792314676358285942630188351939520873721884595358655066436585164070384135670088210803780784073527409962558195618038016313011865846030860280987980173262314725398007424338459099689702537060189760964471738437447162246530431174859030185676121613835832326335983419403785675122746079261676597534840986463830277820067488623030472879867889311335355747891077870533846406537748408618501124799207521665169470983977982929890913787697315712183170326293068533903647946741888039577198833021648696605725206184547338093888318410388081353964890297074225218349321116780522516746815470081538156503739280621090868348115670217239424349743900699400703320919821165891278979892644894277297148694558693946684759909982812924762515759208492205055136030203648752532311117696221182349875341645387641438887853218298224995484741980278654380341773227137031833537256099370067344513178038897730392566356472289049319864132622594515180809187062407512859922743196532297756415673150199671467344264967175699933207523043708626688976476264168154652817881898694928730354079026838598067745466206585539846656948714443384984104850433220186865899496580007710076178134983020995299137058188076748188886822587226445211871806543492674033943361090815518724787032323730731762262434829267397189505227732590438228898035873584616410261277017834025491517079689123227351361868367942027743426950043228654650775400569401332246692608064461089227346201790815) = (2048, 915970296656026903919241870636996918885697938078179762518628239535328946861633034107960683879670350703670547622578876880803881207958467311514829275148986896786337382951963225030781450772820953182586140974029081113600485602062768518200733541416576955715713678526499458501029837840473716593146477212407534227285214360111590112209663811937651326062099544111982078201689156873259357046573459793307921837369345105242965123224249461148094375938645461677186250987754269240172535883541983477408744561613882099220109467690495020081735524179917234968750237574007239217340891093886364258798729179391472380146083084707926062501825176899868441812950851434140457850531099373146005135084016671039695916515590613623048831599778856212915848036845453007273075253268885933178149480962514980353271848692423488499275597757569057936170404780538063387262190391862439016628028537416443371508454692957737632054560642207268962715133168267569285941247136428414824181636249724603316681119720974840880164150441487825216494122124725162193044796857577845024477689695111438889701607895153649628555505863811559665297824945631631776958063265788369112771237039828850132954128200924547171499901653021719460600697064628714883682836297691112568529562868861679574397233683899275929404868947692344754772696088673926327435986851323299873346759345125708086690177563290246243623026938318349600428599196091472235512652507471128549619952413306994429443220986436908561867022516768824565268552376375157243079919826037206627875658091259921627278308991096706046538163453993151423317122126055300234612994708396444486379824925024852696762317199412901366102334476103862009874259192881661742497272755419586991390231259468600755381123674139882583692508912544452206290549691269536925355236485286015948387510635040890870655580975744564655755267529607041893274899618633629549149170746357911275681843315417530798165727219324528922361479903392593904138559593161100173145434391736290866768852207309141772827411191380357781715349239720654094659741901615764657307344979215167902782888557822334311836865233780462140548832593529211617222294755954967691772735600118605622292397041658489578024043236636920287756951517984385368509101144142325553501483551366943486623564311669012942409368977289722636386488626375376187851682156293685422847406476522150874450949846129879790406429294373868379252792764624615073000176247428713837543428825638745588290635029933164686385920811595183006036868904892056116279551835824996061227918289116589055) := by decide +kernel
theorem orb_8k6 : orb 8191 1024 (2048, 915970296656026903919241870636996918885697938078179762518628239535328946861633034107960683879670350703670547622578876880803881207958467311514829275148986896786337382951963225030781450772820953182586140974029081113600485602062768518200733541416576955715713678526499458501029837840473716593146477212407534227285214360111590112209663811937651326062099544111982078201689156873259357046573459793307921837369345105242965123224249461148094375938645461677186250987754269240172535883541983477408744561613882099220109467690495020081735524179917234968750237574007239217340891093886364258798729179391472380146083084707926062501825176899868441812950851434140457850531099373146005135084016671039695916515590613623048831599778856212915848036845453007273075253268885933178149480962514980353271848692423488499275597757569057936170404780538063387262190391862439016628028537416443371508454692957737632054560642207268962715133168267569285941247136428414824181636249724603316681119720974840880164150441487825216494122124725162193044796857577845024477689695111438889701607895153649628555505863811559665297824945631631776958063265788369112771237039828850132954128200924547171499901653021719460600697064628714883682836297691112568529562868861679574397233683899275929404868947692344754772696088673926327435986851323299873346759345125708086690177563290246243623026938318349600428599196091472235512652507471128549619952413306994429443220986436908561867022516768824565268552376375157243079919826037206627875658091259921627278308991096706046538163453993151423317122126055300234612994708396444486379824925024852696762317199412901366102334476103862009874259192881661742497272755419586991390231259468600755381123674139882583692508912544452206290549691269536925355236485286015948387510635040890870655580975744564655755267529607041893274899618633629549149170746357911275681843315417530798165727219324528922361479903392593904138559593161100173145434391736290866768852207309141772827411191380357781715349239720654094659741901615764657307344979215167902782888557822334311836865233780462140548832593529211617222294755954967691772735600118605622292397041658489578024043236636920287756951517984385368509101144142325553501483551366943486623564311669012942409368977289722636386488626375376187851682156293685422847406476522150874450949846129879790406429294373868379252792764624615073000176247428713837543428825638745588290635029933164686385920811595183006036868904892056116279551835824996061227918289116589055) = (1024, 950056244971142504731272972008549873107144901968279780730322584531271803919302238354945268747780424829459350791557879303461939837254063744040172957796054676599261978770788151898391618452050660159082638189346896550417295787948752959168093703697429369819614153198842840042605993691364591552965430079687285197271992374112973990681458527846963519398478375012018799155882793941262208153088458399198211811567362687496899329148490740514802278837677746196170914863037506894820925879610504539668035066733435045429856090201173077166037746390918373465800405121655642556383254743813423313873575149002345255521927425060958851158074990570962398832496851472130481604435212655040147243681948305919215076163695188667450648641715693920388377569130111904789064074854013251127011771332025649961064265356061241134351843477904254930971224108945290152498894036129900785373646424328703316759871455020922075709163059984608657050732277406981309579591035240044034827396783344324000946115024363626427106218932454553993776947194132894539835774095489477808324973926754403378324669402653277026978662433363260458426119040570118212450364272464358070092327503783772354231715249908976193326291135853833113138973000940920607522064070574532417432801612523182104021924660887403524444367380839663536023519824812527442017396605787094348812931000921632069209223820263524976663870233968516902571457661914249932520105121942987477861060063717807626270899284228274850191443363565327045683479348795714123044874351421503746536865911001949171742968747005820008357730431785105742070339632324571107632864617277366084307697941000402242004521445145795655284370678359139127726084000621786842764161750531723990942144969667893766849718382147366646762015805866302493355943293719406069633645056632088496930649990338241951773838450731553007551757463583070995149191828347055792254230409629017961856381596553080566475809566789896774027836584953630006108279092232000277282491943456953900105011532060699687862343282086297977817512626836648037926905626230407358948590617171432775861367443526173152887678878770750499204649251724996940048165007701228913437420414060414214046394029916204119661969047363175979190347096861811883754657702841775247469380555742334493191231874206401977195761732392116424742580047270352960559270822531708641484000149071333266649472441411695651084223245309332064264959040944132565424477359970923624950993749644405462292718987215410804083991035561360070609053023376425403757096270514142646579319972881755135) := by decide +kernel
theorem orb_8k7 : orb 8191 1024 (1024, 950056244971142504731272972008549873107144901968279780730322584531271803919302238354945268747780424829459350791557879303461939837254063744040172957796054676599261978770788151898391618452050660159082638189346896550417295787948752959168093703697429369819614153198842840042605993691364591552965430079687285197271992374112973990681458527846963519398478375012018799155882793941262208153088458399198211811567362687496899329148490740514802278837677746196170914863037506894820925879610504539668035066733435045429856090201173077166037746390918373465800405121655642556383254743813423313873575149002345255521927425060958851158074990570962398832496851472130481604435212655040147243681948305919215076163695188667450648641715693920388377569130111904789064074854013251127011771332025649961064265356061241134351843477904254930971224108945290152498894036129900785373646424328703316759871455020922075709163059984608657050732277406981309579591035240044034827396783344324000946115024363626427106218932454553993776947194132894539835774095489477808324973926754403378324669402653277026978662433363260458426119040570118212450364272464358070092327503783772354231715249908976193326291135853833113138973000940920607522064070574532417432801612523182104021924660887403524444367380839663536023519824812527442017396605787094348812931000921632069209223820263524976663870233968516902571457661914249932520105121942987477861060063717807626270899284228274850191443363565327045683479348795714123044874351421503746536865911001949171742968747005820008357730431785105742070339632324571107632864617277366084307697941000402242004521445145795655284370678359139127726084000621786842764161750531723990942144969667893766849718382147366646762015805866302493355943293719406069633645056632088496930649990338241951773838450731553007551757463583070995149191828347055792254230409629017961856381596553080566475809566789896774027836584953630006108279092232000277282491943456953900105011532060699687862343282086297977817512626836648037926905626230407358948590617171432775861367443526173152887678878770750499204649251724996940048165007701228913437420414060414214046394029916204119661969047363175979190347096861811883754657702841775247469380555742334493191231874206401977195761732392116424742580047270352960559270822531708641484000149071333266649472441411695651084223245309332064264959040944132565424477359970923624950993749644405462292718987215410804083991035561360070609053023376425403757096270514142646579319972881755135) = (0, 1090748135619415929462984244733782862448264161996232692431832786189721331849119295216264234525201987223957291796157025273109870820177184063610979765077554799078906298842192989538609825228048205159696851613591638196771886542609324560121290553901886301017900252535799917200010079600026535836800905297805880952350501630195475653911005312364560014847426035293551245843928918752768696279344088055617515694349945406677825140814900616105920256438504578013326493565836047242407382442812245131517757519164899226365743722432277368075027627883045206501792761700945699168497257879683851737049996900961120515655050115561271491492515342105748966629547032786321505730828430221664970324396138635251626409516168005427623435996308921691446181187406395310665404885739434832877428167407495370993511868756359970390117021823616749458620969857006263612082706715408157066575137281027022310927564910276759160520878304632411049364568754920967322982459184763427383790272448438018526977764941072715611580434690827459339991961414242741410599117426060556483763756314527611362658628383368621157993638020878537675545336789915694234433955666315070087213535470255670312004130725495834508357439653828936077080978550578912967907352780054935621561090795845172954115972927479877527738560008204118558930004777748727761853813510493840581861598652211605960308356405941821189714037868726219481498727603653616298856174822413033485438785324024751419417183012281078209729303537372804574372095228703622776363945290869806258422355148507571039619387449629866808188769662815778153079393179093143648340761738581819563002994422790754955061288818308430079648693232179158765918035565216157115402992120276155607873107937477466841528362987708699450152031231862594203085693838944657061346236704234026821102958954951197087076546186622796294536451620756509351018906023773821539532776208676978589731966330308893304665169436185078350641568336944530051437491311298834367265238595404904273455928723949525227184617404367854754610474377019768025576605881038077270707717942221977090385438585844095492116099852538903974655703943973086090930596963360767529964938414598185705963754561497355827813623833288906309004288017321424808663962671333528009232758350873059614118723781422101460198615747386855096896089189180441339558524822867541113212638793675567650340362970031930023397828465318547238244232028015189689660418822976000815437610652254270163595650875433851147123214227266605403581781469090806576468950587661997186505665475715792895) := by decide +kernel
theorem orb_8k : orb 8191 (1024 + (1024 + (1024 + (1024 + (1024 + (1024 + (1024 + 1024))))))) (0, 0) = (0, 1090748135619415929462984244733782862448264161996232692431832786189721331849119295216264234525201987223957291796157025273109870820177184063610979765077554799078906298842192989538609825228048205159696851613591638196771886542609324560121290553901886301017900252535799917200010079600026535836800905297805880952350501630195475653911005312364560014847426035293551245843928918752768696279344088055617515694349945406677825140814900616105920256438504578013326493565836047242407382442812245131517757519164899226365743722432277368075027627883045206501792761700945699168497257879683851737049996900961120515655050115561271491492515342105748966629547032786321505730828430221664970324396138635251626409516168005427623435996308921691446181187406395310665404885739434832877428167407495370993511868756359970390117021823616749458620969857006263612082706715408157066575137281027022310927564910276759160520878304632411049364568754920967322982459184763427383790272448438018526977764941072715611580434690827459339991961414242741410599117426060556483763756314527611362658628383368621157993638020878537675545336789915694234433955666315070087213535470255670312004130725495834508357439653828936077080978550578912967907352780054935621561090795845172954115972927479877527738560008204118558930004777748727761853813510493840581861598652211605960308356405941821189714037868726219481498727603653616298856174822413033485438785324024751419417183012281078209729303537372804574372095228703622776363945290869806258422355148507571039619387449629866808188769662815778153079393179093143648340761738581819563002994422790754955061288818308430079648693232179158765918035565216157115402992120276155607873107937477466841528362987708699450152031231862594203085693838944657061346236704234026821102958954951197087076546186622796294536451620756509351018906023773821539532776208676978589731966330308893304665169436185078350641568336944530051437491311298834367265238595404904273455928723949525227184617404367854754610474377019768025576605881038077270707717942221977090385438585844095492116099852538903974655703943973086090930596963360767529964938414598185705963754561497355827813623833288906309004288017321424808663962671333528009232758350873059614118723781422101460198615747386855096896089189180441339558524822867541113212638793675567650340362970031930023397828465318547238244232028015189689660418822976000815437610652254270163595650875433851147123214227266605403581781469090806576468950587661997186505665475715792895) := by
  rw [orb_add, orb_8k0, orb_add, orb_8k1, orb_add, orb_8k2, orb_add, orb_8k3, orb_add, orb_8k4, orb_add, orb_8k5, orb_add, orb_8k6, orb_8k7]
theorem two_8k : 1090748135619415929462984244733782862448264161996232692431832786189721331849119295216264234525201987223957291796157025273109870820177184063610979765077554799078906298842192989538609825228048205159696851613591638196771886542609324560121290553901886301017900252535799917200010079600026535836800905297805880952350501630195475653911005312364560014847426035293551245843928918752768696279344088055617515694349945406677825140814900616105920256438504578013326493565836047242407382442812245131517757519164899226365743722432277368075027627883045206501792761700945699168497257879683851737049996900961120515655050115561271491492515342105748966629547032786321505730828430221664970324396138635251626409516168005427623435996308921691446181187406395310665404885739434832877428167407495370993511868756359970390117021823616749458620969857006263612082706715408157066575137281027022310927564910276759160520878304632411049364568754920967322982459184763427383790272448438018526977764941072715611580434690827459339991961414242741410599117426060556483763756314527611362658628383368621157993638020878537675545336789915694234433955666315070087213535470255670312004130725495834508357439653828936077080978550578912967907352780054935621561090795845172954115972927479877527738560008204118558930004777748727761853813510493840581861598652211605960308356405941821189714037868726219481498727603653616298856174822413033485438785324024751419417183012281078209729303537372804574372095228703622776363945290869806258422355148507571039619387449629866808188769662815778153079393179093143648340761738581819563002994422790754955061288818308430079648693232179158765918035565216157115402992120276155607873107937477466841528362987708699450152031231862594203085693838944657061346236704234026821102958954951197087076546186622796294536451620756509351018906023773821539532776208676978589731966330308893304665169436185078350641568336944530051437491311298834367265238595404904273455928723949525227184617404367854754610474377019768025576605881038077270707717942221977090385438585844095492116099852538903974655703943973086090930596963360767529964938414598185705963754561497355827813623833288906309004288017321424808663962671333528009232758350873059614118723781422101460198615747386855096896089189180441339558524822867541113212638793675567650340362970031930023397828465318547238244232028015189689660418822976000815437610652254270163595650875433851147123214227266605403581781469090806576468950587661997186505665475715792895 = 2 ^ (8191 + 1) - 1 := by decide +kernel
theorem orb_full {m : Nat} (h : MaskG m) : orb m (m + 1) (0, 0) = (0, 2 ^ (m + 1) - 1) := by
  rcases h with e | e | e | e | e | e <;> subst e
  · decide +kernel
  · decide +kernel
  · decide +kernel
  · decide +kernel
  · decide +kernel
  · exact orb_8k.trans (by rw [two_8k])
theorem all_met {m : Nat} (hm : MaskG m) {j : Nat} (hj : j ≤ m) : ∃ b, b ≤ m ∧ lcgN m b = j := by
  obtain ⟨_, h2⟩ := orb_spec m (m + 1) 0 0
  have e : orb m (m + 1) (lcgN m 0, 0) = (0, 2 ^ (m + 1) - 1) := orb_full hm
  rw [e] at h2
  rcases h2 j (by rw [Nat.testBit_two_pow_sub_one]; exact decide_eq_true (by omega)) with h | ⟨k, k1, k2, k3⟩
  · rw [Nat.zero_testBit] at h; cases h
  · exact ⟨k, by omega, k3⟩
theorem round_up {m : Nat} (hm : MaskG m) : ∀ k, lcgN m (m + 1 + k) = lcgN m k
  | 0 => by
    obtain ⟨h1, _⟩ := orb_spec m (m + 1) 0 0
    have e : orb m (m + 1) (lcgN m 0, 0) = (0, 2 ^ (m + 1) - 1) := orb_full hm
    rw [e] at h1
    rw [Nat.add_zero]
    rw [Nat.zero_add] at h1
    exact h1.symm
  | k + 1 => by
    show (lcgN m (m + 1 + k) * 5 + 1) % (m + 1) = (lcgN m k * 5 + 1) % (m + 1)
    rw [round_up hm k]
theorem from_any {m : Nat} (hm : MaskG m) {i j : Nat} (hi : i ≤ m) (hj : j ≤ m) : ∃ k, k ≤ m ∧ lcgI m i k = j := by
  obtain ⟨a, ha, rfl⟩ := all_met hm hi
  obtain ⟨b, hb, rfl⟩ := all_met hm hj
  by_cases c : a ≤ b
  · exact ⟨b - a, by omega, by rw [lcgN_add, show a + (b - a) = b by omega]⟩
  · exact ⟨b + (m + 1) - a, by omega, by rw [lcgN_add, show a + (b + (m + 1) - a) = m + 1 + b by omega, round_up hm]⟩
theorem runs_meet {m : Nat} (hm : MaskG m) (h : Int) {j : Nat} (hj : j ≤ m) : ∃ n, n ≤ m + 12 ∧ runI m (SetTable.bits h) n = j := by
  obtain ⟨k, hk, e⟩ := from_any hm (runI_le m (SetTable.bits h) 12) hj
  exact ⟨12 + k, by omega, by rw [runI_tail (bits_lt h)]; exact e⟩
theorem way_bd {m : Nat} {h : Int} {k : Nat} : way m h k ≤ m := by
  have hi : SetTable.bits h % (m + 1) ≤ m := Nat.le_of_lt_succ (Nat.mod_lt _ (Nat.succ_pos _))
  have r := runEnd_bd hi
  have q := nth_in (m := m) k (runAt m (SetTable.bits h % (m + 1)) (SetTable.bits h)) (by
    show SetTable.bits h % (m + 1) + (SetTable.runEnd m (SetTable.bits h % (m + 1)) - SetTable.bits h % (m + 1)) ≤ m
    omega)
  show (nth m (runAt m (SetTable.bits h % (m + 1)) (SetTable.bits h)) k).j ≤ m
  omega
/-- a table whose slots are found again from their hashes -/
structure TabG (t : SetTable) (hs : List Int) : Prop where
  ris : Ris t.place.toList
  dm : t.dummies = #[]
  sz : t.place.size = hs.length
  mok : MaskG t.mask
  bd : ∀ x ∈ t.place.toList, x ≤ t.mask
  reach : ∀ (i : Nat) (h : Int) (j : Nat), hs[i]? = some h → t.place.toList[i]? = some j → ∃ k, way t.mask h k = j ∧ ∀ k', k' < k → way t.mask h k' ∈ t.place.toList
theorem TabG.first {t : SetTable} {hs : List Int} (T : TabG t hs) (hl : hs.length ≤ t.mask) (h : Int) : ∃ K, K < 10 * SetTable.turns t.mask ∧ way t.mask h K ∉ t.place.toList ∧ ∀ k, k < K → way t.mask h k ∈ t.place.toList := by
  obtain ⟨j, hj, hn⟩ := st_missing t.place.toList (t.mask + 1) (by rw [Array.length_toList, T.sz]; omega)
  obtain ⟨n, hn', e⟩ := runs_meet T.mok h (Nat.le_of_lt_succ hj)
  obtain ⟨k, hk, e2⟩ := run_nth t.mask (SetTable.bits h) n
  have ew : way t.mask h k = j := by show (nth _ _ k).j = j; rw [e2]; exact e
  obtain ⟨K, h1, h2, h3⟩ := st_least (p := fun k => way t.mask h k ∉ t.place.toList) k (by show way t.mask h k ∉ _; rw [ew]; exact hn)
  refine ⟨K, by unfold SetTable.turns; omega, h2, fun k' hk' => Classical.byContradiction fun c => h3 k' hk' c⟩
theorem TabG.before {t : SetTable} {hs : List Int} (T : TabG t hs) {h : Int} {K i j : Nat} (hK : way t.mask h K ∉ t.place.toList) (hi : hs[i]? = some h) (hj : t.place.toList[i]? = some j) : ∃ k, k < K ∧ way t.mask h k = j := by
  obtain ⟨k, e, hb⟩ := T.reach i h j hi hj
  have hm := List.mem_of_getElem? hj
  rcases Nat.lt_trichotomy k K with c | c | c
  · exact ⟨k, c, e⟩
  · rw [← c, e] at hK; exact absurd hm hK
  · exact absurd (hb K c) hK
theorem TabG.put {t : SetTable} {hs : List Int} (T : TabG t hs) {h : Int} {K : Nat} (hK : way t.mask h K ∉ t.place.toList) (hb : ∀ k, k < K → way t.mask h k ∈ t.place.toList) :
    (t.put (way t.mask h K)).2 = SetTable.below t.place (way t.mask h K) ∧ SetTable.below t.place (way t.mask h K) ≤ hs.length ∧
    TabG (t.put (way t.mask h K)).1 (hs.take (SetTable.below t.place (way t.mask h K)) ++ h :: hs.drop (SetTable.below t.place (way t.mask h K))) ∧
    (t.put (way t.mask h K)).1.mask = t.mask ∧ (t.put (way t.mask h K)).1.led = t.led ∧ (t.put (way t.mask h K)).1.plain = t.plain ∧ (t.put (way t.mask h K)).1.moves = t.moves ∧ (t.put (way t.mask h K)).1.finger = t.finger ∧
    (t.put (way t.mask h K)).1.fill = hs.length + 1 := by
  have hjm : way t.mask h K ≤ t.mask := way_bd
  generalize hj : way t.mask h K = j at *
  obtain ⟨c1, _, _⟩ := below_cut T.ris j
  have lp : t.place.toList.length = hs.length := by rw [Array.length_toList]; exact T.sz
  have hph : SetTable.below t.place j ≤ hs.length := by rw [← T.sz]; exact c1
  have hpl : SetTable.below t.place j ≤ t.place.toList.length := by rw [lp]; exact hph
  have new : t.place[SetTable.below t.place j]? ≠ some j := fun e => hK (List.mem_of_getElem? (by rw [Array.getElem?_toList]; exact e))
  have hpp := put_place t j
  have hsize : (t.put j).1.place.size = hs.length + 1 := by rw [← Array.length_toList, hpp, len_ins _ hpl, lp]
  have up : ∀ {x : Nat}, x ∈ t.place.toList → x ∈ (t.put j).1.place.toList := fun hx => by rw [hpp]; exact mem_ins.2 (.inr hx)
  refine ⟨rfl, hph, ⟨ris_insert T.ris new, put_dm T.dm j, by rw [len_ins _ hph]; exact hsize, T.mok, fun x hx => ?_, fun i h' j' h1 h2 => ?_⟩, rfl, rfl, rfl, rfl, rfl, ?_⟩
  · rw [hpp] at hx
    rcases mem_ins.1 hx with rfl | z
    · exact hjm
    · exact T.bd x z
  · rw [tins_get hs hph] at h1
    rw [hpp, tins_get _ hpl] at h2
    have old : ∀ i, hs[i]? = some h' → t.place.toList[i]? = some j' → ∃ k, way t.mask h' k = j' ∧ ∀ k', k' < k → way t.mask h' k' ∈ (t.put j).1.place.toList := fun i a b => by
      obtain ⟨k, e, z⟩ := T.reach i h' j' a b
      exact ⟨k, e, fun k' hk' => up (z k' hk')⟩
    show ∃ k, way t.mask h' k = j' ∧ ∀ k', k' < k → way t.mask h' k' ∈ (t.put j).1.place.toList
    split at h1
    · rename_i c
      rw [if_pos c] at h2
      exact old i h1 h2
    · rename_i c
      rw [if_neg c] at h2
      split at h1
      · rename_i d
        rw [if_pos d] at h2
        cases h1
        cases h2
        exact ⟨K, hj, fun k' hk' => up (hb k' hk')⟩
      · rename_i d
        rw [if_neg d] at h2
        exact old (i - 1) h1 h2
  · show (t.put j).1.place.size + (t.put j).1.dummies.size = hs.length + 1
    rw [hsize, put_dm T.dm j]; rfl
/-! ### laid anew -/
theorem free_at {m : Nat} (hm : MaskG m) (owner : Array (Option Nat)) (h : Int) {j : Nat} (hj : j ≤ m) (hf : oAt owner j = none) :
    ∃ K, SetTable.layClean.free m owner (SetTable.turns m) (SetTable.bits h % (m + 1)) (SetTable.bits h) = some (way m h K) ∧ oAt owner (way m h K) = none ∧ ∀ k, k < K → oAt owner (way m h k) ≠ none := by
  obtain ⟨n, hn, e⟩ := runs_meet hm h hj
  have hw : way m h (off m (SetTable.bits h % (m + 1)) (SetTable.bits h) n) = j := by
    show (nth m (runAt m (SetTable.bits h % (m + 1)) (SetTable.bits h)) (off m (SetTable.bits h % (m + 1)) (SetTable.bits h) n)).j = j
    rw [nth_off, itL_run]
    exact e
  obtain ⟨K, k1, k2, k3⟩ := st_least (p := fun k => oAt owner (way m h k) = none) _ (show oAt owner (way m h _) = none by rw [hw]; exact hf)
  refine ⟨K, free_spec m owner (SetTable.turns m) n _ _ K (by unfold SetTable.turns; omega) k1 (fun k hk => ?_) ?_, k2, k3⟩
  · exact Bool.eq_false_iff.mpr fun z => k3 k hk (Option.isNone_iff_eq_none.mp z)
  · exact Option.isNone_iff_eq_none.mpr k2
theorem own_step {m : Nat} (hm : MaskG m) {done : List Int} {owner : Array (Option Nat)} (W : Own m done owner) (hl : done.length ≤ m) (h : Int) :
    ∃ j, SetTable.layClean.free m owner (SetTable.turns m) (SetTable.bits h % (m + 1)) (SetTable.bits h) = some j ∧ Own m (done ++ [h]) (owner.setIfInBounds j (some done.length)) := by
  obtain ⟨ps, hps, hin⟩ := W.ps
  obtain ⟨j0, h0, hn0⟩ := st_missing ps (m + 1) (by omega)
  have hj0 : oAt owner j0 = none := Classical.byContradiction fun c => hn0 (hin j0 (Nat.le_of_lt_succ h0) c)
  obtain ⟨K, e1, e2, e3⟩ := free_at hm owner h (Nat.le_of_lt_succ h0) hj0
  have hjm : way m h K ≤ m := way_bd
  refine ⟨way m h K, e1, ?_⟩
  generalize hw : way m h K = w at *
  have self := oAt_set_self (owner := owner) (some done.length) (show w < owner.size by rw [W.sz]; omega)
  have mono : ∀ {i : Nat}, oAt owner i ≠ none → oAt (owner.setIfInBounds w (some done.length)) i ≠ none := fun {i} hi => by
    by_cases c : i = w
    · rw [c, self]; simp
    · rw [oAt_set_ne _ c]; exact hi
  refine ⟨by rw [Array.size_setIfInBounds]; exact W.sz, fun j k hj e => ?_, fun k hk => ?_, ⟨w :: ps, by simp [hps], fun j hj e => ?_⟩⟩
  · by_cases c : j = w
    · subst c
      rw [self] at e
      cases e
      exact ⟨h, K, by simp, hw, fun k' hk' => mono (e3 k' hk')⟩
    · rw [oAt_set_ne _ c] at e
      obtain ⟨h', K', a1, a2, a3⟩ := W.at_ j k hj e
      exact ⟨h', K', by rw [List.getElem?_append_left (List.getElem?_eq_some_iff.mp a1).1]; exact a1, a2, fun k' hk' => mono (a3 k' hk')⟩
  · by_cases c : k < done.length
    · obtain ⟨j, hj, e⟩ := W.all k c
      exact ⟨j, hj, by rw [oAt_set_ne _ (fun z => by rw [z, e2] at e; cases e)]; exact e⟩
    · have ek : k = done.length := by simp at hk; omega
      exact ⟨w, hjm, by rw [self, ek]⟩
  · by_cases c : j = w
    · simp [c]
    · rw [oAt_set_ne _ c] at e
      exact List.mem_cons_of_mem _ (hin j hj e)
theorem folds {m : Nat} (hm : MaskG m) : ∀ (rest done : List Int) (owner : Array (Option Nat)), Own m done owner → done.length + rest.length ≤ m →
    ∃ owner', rest.foldl (stepF m) (some (owner, done.length)) = some (owner', (done ++ rest).length) ∧ Own m (done ++ rest) owner'
  | [], done, owner, W, _ => ⟨owner, by simp, by simpa using W⟩
  | h :: rest, done, owner, W, hl => by
    rw [List.length_cons] at hl
    obtain ⟨j, e, W'⟩ := own_step hm W (by omega) h
    obtain ⟨owner', f, W2⟩ := folds hm rest (done ++ [h]) _ W' (by simp; omega)
    rw [List.append_assoc] at f W2
    rw [List.length_append] at f
    exact ⟨owner', by rw [List.foldl_cons, stepF_some e]; exact f, W2⟩
theorem lays {m : Nat} (hm : MaskG m) {hs : Array Int} (hn : hs.size ≤ m) : ∃ owner, SetTable.layClean m hs = some owner ∧ Own m hs.toList owner := by
  obtain ⟨owner, f, W⟩ := folds hm hs.toList [] _ (Own.init m) (by rw [Array.length_toList]; simpa using hn)
  refine ⟨owner, ?_, W⟩
  rw [layClean_eq]
  have f' : hs.toList.foldl (stepF m) (some (Array.replicate (m + 1) none, 0)) = some (owner, ([] ++ hs.toList).length) := f
  rw [f']; rfl
theorem relaidG (t : SetTable) {hs : Array Int} {wanted M : Nat} (hw : SetTable.sizeAbove wanted - 1 = M) (hM : MaskG M) (hn : hs.size ≤ M) :
    ∃ t' order, t.relaid hs wanted = some (t', order) ∧ order.toList.Perm (List.range hs.size) ∧ TabG t' (order.toList.map fun i => hs.getD i 0) ∧ t'.mask = M ∧ t'.led = t.led ∧ t'.plain = t.plain ∧ t'.dummies = #[] := by
  obtain ⟨owner, e, W⟩ := lays hM hn
  have hr : t.relaid hs wanted = some (tabOf t M owner, ((liveOf M owner).map (·.2)).toArray) := by rw [relaid_eq, hw, e]; rfl
  obtain ⟨r1, r2⟩ := ris_live (fun j => owner.getD j none) (List.range (M + 1)) (by unfold Ris; exact List.pairwise_lt_range)
  replace r1 : Ris ((liveOf M owner).map (·.1)) := r1
  replace r2 : ∀ x ∈ (liveOf M owner).map (·.1), x ∈ List.range (M + 1) := r2
  have live : ∀ {j k : Nat}, (j, k) ∈ liveOf M owner ↔ j ≤ M ∧ oAt owner j = some k := mem_live W.sz
  have there : ∀ k, k < hs.size → k ∈ (liveOf M owner).map (·.2) := fun k hk => by
    obtain ⟨j, b1, b2⟩ := W.all k (by rw [Array.length_toList]; exact hk)
    exact List.mem_map.mpr ⟨(j, k), live.2 ⟨b1, b2⟩, rfl⟩
  have hlen : (liveOf M owner).length = hs.size := by
    obtain ⟨ps, p1, p2⟩ := W.ps
    have nd : ((liveOf M owner).map (·.1)).Nodup := List.Pairwise.imp (fun h => Nat.ne_of_lt h) r1
    have a := nat_nodup_len ((liveOf M owner).map (·.1)) ps nd fun x hx => by
      obtain ⟨⟨y, k⟩, hq, rfl⟩ := List.mem_map.mp hx
      obtain ⟨b1, b2⟩ := live.1 hq
      exact p2 y b1 (by rw [b2]; simp)
    have b := nat_nodup_len (List.range hs.size) ((liveOf M owner).map (·.2)) List.nodup_range fun k hk => there k (List.mem_range.mp hk)
    rw [List.length_map, p1] at a
    rw [List.length_map, List.length_range] at b
    have hz : hs.toList.length = hs.size := rfl
    omega
  refine ⟨tabOf t M owner, ((liveOf M owner).map (·.2)).toArray, hr, perm_range hs.size _ (by show ((liveOf M owner).map (·.2)).length = _; rw [List.length_map]; exact hlen) there, ⟨r1, rfl, ?_, hM, fun x hx => Nat.le_of_lt_succ (List.mem_range.mp (r2 x hx)), fun i h j h1 h2 => ?_⟩, rfl, rfl, rfl, rfl⟩
  · show ((liveOf M owner).map (·.1)).toArray.size = (((liveOf M owner).map (·.2)).map fun i => hs.getD i 0).length
    simp
  · have h1' : (((liveOf M owner).map (·.2)).map fun i => hs.getD i 0)[i]? = some h := h1
    have h2' : ((liveOf M owner).map (·.1))[i]? = some j := h2
    rw [List.getElem?_map, List.getElem?_map] at h1'
    rw [List.getElem?_map] at h2'
    cases hq : (liveOf M owner)[i]? with
    | none => rw [hq] at h2'; cases h2'
    | some q =>
      obtain ⟨y, k⟩ := q
      rw [hq] at h1' h2'
      obtain rfl : y = j := Option.some.inj h2'
      have eh : hs.getD k 0 = h := Option.some.inj h1'
      obtain ⟨b1, b2⟩ := live.1 (List.mem_of_getElem? hq)
      obtain ⟨h0, K, a1, a2, a3⟩ := W.at_ y k b1 b2
      have e0 : hs.getD k 0 = h0 := by rw [Array.getD_eq_getD_getElem?, ← Array.getElem?_toList, a1]; rfl
      obtain rfl : h0 = h := e0.symm.trans eh
      refine ⟨K, a2, fun k' hk' => ?_⟩
      show way M h0 k' ∈ (liveOf M owner).map (·.1)
      obtain ⟨k2, z⟩ := Option.ne_none_iff_exists'.mp (a3 k' hk')
      exact List.mem_map.mpr ⟨(way M h0 k', k2), live.2 ⟨way_bd, z⟩, rfl⟩
theorem size_308 : SetTable.sizeAbove (SetTable.grown 77) = 512 := by decide +kernel
theorem size_1229 : SetTable.sizeAbove (SetTable.grown 1229) = 8192 := by decide +kernel
theorem size_1228 : SetTable.sizeAbove (SetTable.grown 307) = 2048 := by decide +kernel
end DT
/-! sets of tuples over any kind of keys by value (ints and texts mixed) -/
namespace DS
open PySem PySem.Spec PyProof.Rows L2
section
variable {P : Program} {w : World} {κ : Type} [DecidableEq κ] {knd : KeyKind P w κ}
/-- items of which no class of the program has a say -/
structure Still (knd : KeyKind P w κ) : Prop where
  cls : ∀ (k : κ) (v : Value) (n : Nat), knd.is k v = true → ofAClassStatement n v = pure false
  val : ∀ (k : κ) (v : Value) (n : Nat), knd.is k v = true → ∃ b, hashByValue n v = pure b
theorem still_mix : Still (mixKind P w) where
  cls := fun k v n h => by
    rcases keyIs_shape h with ⟨i, t, rfl, rfl⟩ | ⟨x, t, rfl, rfl⟩ <;> cases n <;> rfl
  val := fun k v n h => by
    rcases keyIs_shape h with ⟨i, t, rfl, rfl⟩ | ⟨x, t, rfl, rfl⟩
    · exact ⟨true, by cases n <;> rfl⟩
    · exact ⟨false, by cases n <;> rfl⟩
theorem items_are {ks : List κ} {vs : List Value} (h : ItemsAre knd ks vs) : ∀ v ∈ vs, ∃ k, knd.is k v = true := by
  induction h with
  | nil => simp
  | cons h1 _ ih =>
    intro v hv
    rcases List.mem_cons.mp hv with rfl | hv
    · exact ⟨_, h1⟩
    · exact ih v hv
variable {A : Around} {E : Value → Shared → Prop} {s : Shared}
theorem cls_key (S : Still knd) {ks : List κ} {b : Addr} {Q : Bool → Shared → Prop} (x : IsTupleKey knd s.heap ks b) (q : Q false s) : wpAny (model P w) A (ofAClassStatement 8 (.ref b)) Q E s := by
  have ty := x.typeIs
  obtain ⟨ob, its, n, ha, _, hdt, hit⟩ := x
  unfold ofAClassStatement
  apply wpAny_bind
  apply wpAny_typeOf ty
  dsimp only
  have e : (("tuple" : String) == "tuple") = true := by decide
  simp only [e, if_true, Bool.not_true, Bool.false_eq_true, if_false]
  try (apply wpAny_bind; apply wpAny_pure)
  try simp only [Bool.not_true, Bool.false_eq_true, if_false]
  show wpAny _ _ (seqItems? (.ref b) >>= _) _ _ s
  apply wpAny_bind
  apply wpAny_seqItems ha hdt
  dsimp only
  apply wpAny_bind
  show wpAny _ _ (forIn its _ _) _ _ s
  rw [← Array.forIn_toList]
  apply wpAny_forIn_list _ (fun rest r t => r.1 = none ∧ t = s ∧ ∀ v ∈ rest, ∃ k, knd.is k v = true) _ ?step ?fin _ _ ⟨rfl, rfl, items_are hit⟩
  case step =>
    intro v rest r t hyp
    obtain ⟨hr, rfl, all⟩ := hyp
    obtain ⟨k, hk⟩ := all v List.mem_cons_self
    rw [S.cls k v _ hk]
    apply wpAny_bind
    apply wpAny_pure
    simp only [Bool.false_eq_true, if_false]
    exact wpAny_pure ⟨rfl, rfl, fun u m => all u (List.mem_cons_of_mem _ m)⟩
  case fin =>
    intro r t hyp
    obtain ⟨r1, r2⟩ := r
    obtain ⟨hr, rfl, _⟩ := hyp
    simp only at hr
    subst hr
    exact wpAny_pure q
theorem val_key (S : Still knd) {ks : List κ} {b : Addr} {Q : Bool → Shared → Prop} (x : IsTupleKey knd s.heap ks b) (q : ∀ c, Q c s) : wpAny (model P w) A (hashByValue 8 (.ref b)) Q E s := by
  have ty := x.typeIs
  obtain ⟨ob, its, n, ha, _, hdt, hit⟩ := x
  unfold hashByValue
  apply wpAny_bind
  apply wpAny_specialOf ty F.slot_tuple_hash.lookup
  show wpAny _ _ (seqItems? (.ref b) >>= _) _ _ s
  apply wpAny_bind
  apply wpAny_seqItems ha hdt
  apply wpAny_bind
  show wpAny _ _ (forIn its _ _) _ _ s
  rw [← Array.forIn_toList]
  apply wpAny_forIn_list _ (fun rest r t => r.1 = none ∧ t = s ∧ ∀ v ∈ rest, ∃ k, knd.is k v = true) _ ?step ?fin _ _ ⟨rfl, rfl, items_are hit⟩
  case step =>
    intro v rest r t hyp
    obtain ⟨hr, rfl, all⟩ := hyp
    obtain ⟨k, hk⟩ := all v List.mem_cons_self
    obtain ⟨c, hc⟩ := S.val k v 7 hk
    rw [hc]
    apply wpAny_bind
    apply wpAny_pure
    cases c with
    | true =>
      simp only [Bool.not_true, Bool.false_eq_true, if_false]
      exact wpAny_pure ⟨rfl, rfl, fun u m => all u (List.mem_cons_of_mem _ m)⟩
    | false =>
      simp only [Bool.not_false, if_true]
      exact wpAny_pure (wpAny_pure (q false))
  case fin =>
    intro r t hyp
    obtain ⟨r1, r2⟩ := r
    obtain ⟨hr, rfl, _⟩ := hyp
    simp only at hr
    subst hr
    exact wpAny_pure (q true)
theorem seen_key (S : Still knd) {ks : List κ} {b : Addr} {Q : Bool → Shared → Prop} (x : IsTupleKey knd s.heap ks b) {ys : List Value} (hy : ∀ y ∈ ys, ∃ l c, y = Value.ref c ∧ IsTupleKey knd s.heap l c) (q : Q false s) :
    wpAny (model P w) A (searchCouldBeSeen (.ref b) ys) Q E s := by
  unfold searchCouldBeSeen
  apply wpAny_bind
  apply wpAny_forIn_list _ (fun rest r t => r.1 = none ∧ t = s ∧ ∀ y ∈ rest, ∃ l c, y = Value.ref c ∧ IsTupleKey knd s.heap l c) _ ?step ?fin _ _ ⟨rfl, rfl, hy⟩
  case step =>
    intro v rest r t hyp
    obtain ⟨hr, rfl, all⟩ := hyp
    obtain ⟨l, c, rfl, hc⟩ := all v List.mem_cons_self
    have next : ∀ y ∈ rest, ∃ l c, y = Value.ref c ∧ IsTupleKey knd t.heap l c := fun u m => all u (List.mem_cons_of_mem _ m)
    dsimp only
    by_cases hv : (b == c || (carriedByValue (.ref b) && carriedByValue (.ref c))) = true
    · exact wp_if_pos hv (wpAny_pure ⟨rfl, rfl, next⟩)
    · apply wp_if_neg hv
      apply wpAny_bind
      apply wpAny_eqIsQuiet_tuple x
      simp only [Bool.not_true, Bool.false_eq_true, if_false]
      apply wpAny_bind
      apply wpAny_eqIsQuiet_tuple hc
      simp only [Bool.not_true, Bool.false_eq_true, if_false]
      apply wpAny_bind
      apply cls_key S x
      simp only [Bool.false_eq_true, if_false]
      apply wpAny_bind
      apply cls_key S hc
      simp only [Bool.false_eq_true, if_false]
      exact wpAny_pure ⟨rfl, rfl, next⟩
  case fin =>
    intro r t hyp
    obtain ⟨r1, r2⟩ := r
    obtain ⟨hr, rfl, _⟩ := hyp
    simp only at hr
    subst hr
    exact wpAny_pure q
/-! ### the set at an address -/
/-- addresses with their keys -/
abbrev Rows (κ : Type) := List (Addr × List κ)
def hsh (knd : KeyKind P w κ) (p : Addr × List κ) : Int := tupleKeyHash knd p.2
def ent (knd : KeyKind P w κ) (p : Addr × List κ) : Int × Value := (tupleKeyHash knd p.2, Value.ref p.1)
structure SetK (knd : KeyKind P w κ) (h : Heap) (a : Addr) (L : Rows κ) (es : Array (Int × Value)) (ep : Nat) (t : SetTable) : Prop where
  ob : ∃ o, h.get? a = some o ∧ o.ExactSet ∧ o.data = .set es ep t
  rows : es.toList = L.map (ent knd)
  tab : DT.TabG t (L.map (hsh knd))
  nd : (L.map (·.2)).Nodup
  tup : ∀ p ∈ L, IsTupleKey knd h p.2 p.1
  led : w.params.followText "set-order" = true ∨ t.led = true
  room : L.length * 5 < t.mask * 3
  few : L.length < 2000
variable {a : Addr} {L : Rows κ} {es : Array (Int × Value)} {ep : Nat} {t : SetTable}
theorem rows_size (r : es.toList = L.map (ent knd)) : es.size = L.length := by
  rw [← Array.length_toList, r, List.length_map]
theorem rows_at (r : es.toList = L.map (ent knd)) {i : Nat} {p : Addr × List κ} (h : L[i]? = some p) : es[i]? = some (ent knd p) := by
  rw [← Array.getElem?_toList, r, List.getElem?_map, h]
  rfl
theorem SetK.fits (R : SetK knd s.heap a L es ep t) : t.fits es.size = true := by
  have h1 := R.tab.sz
  have h2 := rows_size R.rows
  have h3 := R.room
  rw [List.length_map] at h1
  simp only [SetTable.fits, SetTable.fill, R.tab.dm, Bool.and_eq_true, beq_iff_eq, decide_eq_true_eq]
  exact ⟨by omega, by simp only [Array.size_empty]; omega⟩
theorem SetK.gw (R : SetK knd s.heap a L es ep t) : t.gaveWay = false := by
  simp only [SetTable.gaveWay, DT.maskG_odd R.tab.mok]
  decide
theorem nth_dummy (m : Nat) : ∀ (n : Nat) (p : SetTable.Probe), p.dummy = none → (nth m p n).dummy = none
  | 0, _, h => h
  | n + 1, p, h => nth_dummy m n (adv m p) (by unfold adv; split <;> exact h)
/-- the c-th place on the way of a hash -/
abbrev at_ (m : Nat) (h : Int) (c : Nat) : SetTable.Probe := nth m (runAt m (SetTable.bits h % (m + 1)) (SetTable.bits h)) c
theorem at_add (m : Nat) (h : Int) (c q : Nat) : nth m (at_ m h c) q = at_ m h (c + q) := (nth_add m c _ q).symm
theorem search_on (S : Still knd) (R : SetK knd s.heap a L es ep t) {x : Addr} {k : List κ} (hx : IsTupleKey knd s.heap k x) (hu : A.units < cLine) {K : Nat} (k1 : K < 10 * SetTable.turns t.mask)
    (k2 : way t.mask (tupleKeyHash knd k) K ∉ t.place.toList) (k3 : ∀ c, c < K → way t.mask (tupleKeyHash knd k) c ∈ t.place.toList) {Q : SetFound → Shared → Prop}
    (yes : k ∈ L.map (·.2) → Q (.there none) s) (no : k ∉ L.map (·.2) → Q (.free (way t.mask (tupleKeyHash knd k) K) false) s) :
    ∀ (f c : Nat) (st : Option SetTable.Probe), st.getD (t.probeStart (tupleKeyHash knd k)) = at_ t.mask (tupleKeyHash knd k) c → c ≤ K → K - c < f →
      (∀ (i : Nat) p, L[i]? = some p → p.2 = k → ∃ c', c ≤ c' ∧ c' < K ∧ t.place.toList[i]? = some (way t.mask (tupleKeyHash knd k) c')) →
      wpAny (model P w) A (setSearchFrom a (.ref x) (tupleKeyHash knd k) true f st) Q E s := by
  intro f
  induction f with
  | zero => intro c st _ _ hf _; exact absurd hf (Nat.not_lt_zero _)
  | succ f ih =>
    intro c st hst hc hf hre
    obtain ⟨o, ho, hex, hd⟩ := R.ob
    obtain ⟨g, hg⟩ : ∃ g, g = tupleKeyHash knd k := ⟨_, rfl⟩
    rw [← hg] at hst k2 k3 no hre ih ⊢
    rw [setSearchFrom_succ]
    apply wpAny_bind
    apply wpAny_setState_of ho hd R.fits
    dsimp only
    apply wp_if_neg (by rw [R.gw]; decide)
    try (apply wpAny_bind; apply wpAny_pure)
    have wy : ∀ q, (nth t.mask (at_ t.mask g c) q).j = way t.mask g (c + q) := fun q => congrArg SetTable.Probe.j (at_add t.mask g c q)
    have spec := go_spec t R.tab.ris R.tab.dm (fun i => (es[i]?.map (·.1)).getD 0) g (10 * SetTable.turns t.mask) (K - c) (at_ t.mask g c) (nth_dummy t.mask c _ rfl) (by omega)
      (fun q hq => by rw [wy]; exact k3 (c + q) (by omega)) (by rw [wy, show c + (K - c) = K by omega]; exact k2)
    have hashed : ∀ (i : Nat) p, L[i]? = some p → (es[i]?.map (·.1)).getD 0 = tupleKeyHash knd p.2 := by
      intro i p hp
      rw [rows_at R.rows hp]
      rfl
    rcases spec with ⟨q, i, hq, hi, hh, passed, hpr⟩ | ⟨passed, hpr⟩
    · have hpr2 : t.probe (fun i => (es[i]?.map (·.1)).getD 0) g (st.getD (t.probeStart g)) = some (.candidate (way t.mask g (c + q)) i (at_ t.mask g (c + (q + 1)))) := by
        rw [hst, ← wy, ← at_add]
        exact hpr
      rw [hpr2]
      dsimp only
      rw [wy] at hi
      have il : i < L.length := by
        have h1 := (List.getElem?_eq_some_iff.mp hi).1
        have h2 := R.tab.sz
        rw [List.length_map] at h2
        rw [Array.length_toList] at h1
        omega
      obtain ⟨p, hp⟩ : ∃ p, L[i]? = some p := ⟨_, List.getElem?_eq_getElem il⟩
      have pm : p ∈ L := List.mem_of_getElem? hp
      have go : wpAny (model P w) A (searchRest a (.ref x) g true f es t (way t.mask g (c + q)) i (at_ t.mask g (c + (q + 1)))) Q E s := by
        unfold searchRest
        rw [rows_at R.rows hp]
        dsimp only [ent]
        apply wpAny_bind
        apply wpAny_holding
        apply wpAny_eqBool_tuple hu (R.tup p pm) hx
        apply wpAny_bind
        apply wpAny_setState_of ho hd R.fits
        dsimp only
        by_cases same : p.2 = k
        · exact wp_if_pos (by simp [same]) (wpAny_pure (yes (List.mem_map.mpr ⟨p, pm, same⟩)))
        · apply wp_if_neg (by simp [same])
          try (apply wpAny_bind; apply wpAny_pure)
          rw [sameMem]
          dsimp only
          have live : t.slot (way t.mask g (c + q)) = .live i := slot_live R.tab.ris hi
          simp only [if_true, live, rows_at R.rows hp, ent]
          apply wpAny_bind
          apply wpAny_isSame_ref_self
          apply wpAny_bind
          apply wpAny_pure
          simp only [if_true]
          apply wp_if_neg (by simp [same])
          refine ih (c + (q + 1)) _ rfl (by omega) (by omega) fun i0 p0 h0 hk0 => ?_
          obtain ⟨c', a1, a2, a3⟩ := hre i0 p0 h0 hk0
          refine ⟨c', ?_, a2, a3⟩
          by_cases z : c' < c + q
          · exact absurd ((hashed i0 p0 h0).trans (by rw [hk0, hg])) (passed (c' - c) i0 (by omega) (by rw [wy, show c + (c' - c) = c' by omega]; exact a3))
          · by_cases y : c' = c + q
            · rw [y] at a3
              have s0 := slot_live R.tab.ris a3
              rw [live] at s0
              injection s0 with s0
              rw [← s0, hp] at h0
              exact absurd ((congrArg Prod.snd (Option.some.inj h0)).trans hk0) same
            · omega
      by_cases hl : t.led = true
      · apply wp_if_neg (by simp [hl])
        try (apply wpAny_bind; apply wpAny_pure)
        exact go
      · apply wp_if_pos (by simp [hl])
        apply wpAny_bind
        apply seen_key S hx
        · intro y hy
          obtain ⟨e, he, ee⟩ := List.mem_map.mp hy
          have he1 : e ∈ es ∧ e.1 = g := by simpa using he
          have he2 : e ∈ es.toList := by simpa using he1.1
          rw [R.rows] at he2
          obtain ⟨p2, hp2, e2⟩ := List.mem_map.mp he2
          exact ⟨p2.2, p2.1, by rw [← ee, ← e2]; rfl, R.tup p2 hp2⟩
        · apply wp_if_neg (by decide)
          try (apply wpAny_bind; apply wpAny_pure)
          exact go
    · have hpr2 : t.probe (fun i => (es[i]?.map (·.1)).getD 0) g (st.getD (t.probeStart g)) = some (.empty (way t.mask g K) none) := by
        have e2 : way t.mask g K = (nth t.mask (at_ t.mask g c) (K - c)).j := by rw [wy, show c + (K - c) = K by omega]
        rw [hst, e2]
        exact hpr
      rw [hpr2]
      dsimp only
      apply wpAny_pure
      apply no
      intro hm
      obtain ⟨p0, h0, hk0⟩ := List.mem_map.mp hm
      obtain ⟨i0, hi0, e0⟩ := List.getElem_of_mem h0
      have h00 : L[i0]? = some p0 := by rw [List.getElem?_eq_getElem hi0, e0]
      obtain ⟨c', a1, a2, a3⟩ := hre i0 p0 h00 hk0
      exact passed (c' - c) i0 (by omega) (by rw [wy, show c + (c' - c) = c' by omega]; exact a3) ((hashed i0 p0 h00).trans (by rw [hk0, hg]))
theorem search_all (S : Still knd) (R : SetK knd s.heap a L es ep t) {x : Addr} {k : List κ} (hx : IsTupleKey knd s.heap k x) (hu : A.units < cLine) {Q : SetFound → Shared → Prop}
    (yes : k ∈ L.map (·.2) → Q (.there none) s)
    (no : ∀ K, k ∉ L.map (·.2) → way t.mask (tupleKeyHash knd k) K ∉ t.place.toList → (∀ c, c < K → way t.mask (tupleKeyHash knd k) c ∈ t.place.toList) → Q (.free (way t.mask (tupleKeyHash knd k) K) false) s) :
    wpAny (model P w) A (setSearch a (.ref x) (tupleKeyHash knd k) true) Q E s := by
  have rm := R.room
  obtain ⟨K, c1, c2, c3⟩ := R.tab.first (by rw [List.length_map]; omega) (tupleKeyHash knd k)
  have small : K < 100000 := by
    have b : 10 * SetTable.turns t.mask ≤ 82300 := by
      unfold SetTable.turns
      rcases R.tab.mok with e | e | e | e | e | e <;> omega
    omega
  unfold setSearch
  apply search_on S R hx hu c1 c2 c3 yes (fun hn => no K hn c2 c3) 100000 0 none rfl (Nat.zero_le _) (by omega)
  intro i p hp hk
  have hi : (L.map (hsh knd))[i]? = some (tupleKeyHash knd k) := by
    rw [List.getElem?_map, hp, ← hk]
    rfl
  have il : i < t.place.toList.length := by
    have h1 := (List.getElem?_eq_some_iff.mp hp).1
    have h2 := R.tab.sz
    rw [List.length_map] at h2
    rw [Array.length_toList]
    omega
  have hj := List.getElem?_eq_getElem il
  obtain ⟨c, hc, e⟩ := R.tab.before c2 hi hj
  exact ⟨c, Nat.zero_le _, hc, by rw [hj, e]⟩
/-! ### adding -/
theorem key_same {h h' : Heap} {k : List κ} {a b : Addr} {o : Obj} {es : Array (Int × Value)} {ep : Nat} {t : SetTable} (hb : IsTupleKey knd h k b) (ho : h.get? a = some o) (hd : o.data = .set es ep t) (hs : Heap.SameBut a h h') : IsTupleKey knd h' k b := by
  obtain ⟨o', its, n, ho', hc, hd', hi⟩ := hb
  have ne : b ≠ a := by
    rintro rfl
    rw [ho] at ho'
    cases ho'
    rw [hd] at hd'
    cases hd'
  exact ⟨o', its, n, (hs.2 b ne).trans ho', hc, hd', hi⟩
theorem ord_rows (L : Rows κ) (es : Array (Int × Value)) (order : Array Nat) (hr : es.toList = L.map (ent knd)) (hp : order.toList.Perm (List.range L.length)) :
    ∃ M : Rows κ, (order.filterMap (es[·]?)).toList = M.map (ent knd) ∧ M.Perm L ∧ M.map (hsh knd) = order.toList.map fun i => (es.map (·.1)).getD i 0 := by
  have sz := rows_size hr
  refine ⟨order.toList.filterMap fun i => L[i]?, ?_, ?_, ?_⟩
  · rw [Array.toList_filterMap]
    have key : ∀ l : List Nat, l.filterMap (fun i => es[i]?) = (l.filterMap fun i => L[i]?).map (ent knd) := by
      intro l
      induction l with
      | nil => rfl
      | cons i l ih =>
        rw [List.filterMap_cons, List.filterMap_cons, ← Array.getElem?_toList, hr, List.getElem?_map]
        cases L[i]? with
        | none => exact ih
        | some p => simp only [Option.map_some, List.map_cons]; rw [ih]
    exact key _
  · have h1 := hp.filterMap fun i => L[i]?
    have h2 : (List.range L.length).filterMap (fun i => L[i]?) = L := List.filterMap_getElem?_range_length L
    rwa [h2] at h1
  · have key : ∀ l : List Nat, (∀ i ∈ l, i < L.length) → (l.filterMap fun i => L[i]?).map (hsh knd) = l.map fun i => (es.map (·.1)).getD i 0 := by
      intro l
      induction l with
      | nil => intro _; rfl
      | cons i l ih =>
        intro hl
        have hi := hl i (by simp)
        have e1 : L[i]? = some L[i] := List.getElem?_eq_getElem hi
        have e2 : (es.map (·.1)).getD i 0 = hsh knd L[i] := by
          have e3 : (es.map (·.1))[i]? = some (hsh knd L[i]) := by rw [Array.getElem?_map, rows_at hr e1]; rfl
          simp [Array.getD_eq_getD_getElem?, e3]
        rw [List.filterMap_cons, e1]
        simp only [List.map_cons]
        rw [ih fun j m => hl j (by simp [m]), e2]
    exact key _ fun i m => List.mem_range.mp (hp.mem_iff.mp m)
theorem relay_on {o : Obj} (ho : s.heap.get? a = some o) (hex : o.ExactSet) (hd : o.data = .set es ep t) (hr : es.toList = L.map (ent knd)) (hsz : t.place.size = es.size) (hdm : t.dummies = #[]) (hfl : es.size ≤ t.mask)
    (nd : (L.map (·.2)).Nodup) (tup : ∀ p ∈ L, IsTupleKey knd s.heap p.2 p.1) (ld : w.params.followText "set-order" = true ∨ t.led = true) (few : L.length < 2000) {wanted M : Nat}
    (hw : SetTable.sizeAbove wanted - 1 = M) (hM : DT.MaskG M) (hw2 : SetTable.sizeAbove wanted ≤ 8192) (hn : L.length * 5 < M * 3) {Q : Unit → Shared → Prop}
    (hQ : ∀ h' L' es' ep' t', Heap.SameBut a s.heap h' → SetK knd h' a L' es' ep' t' → L'.Perm L → Q () { s with heap := h' }) : wpAny (model P w) A (setRelay a wanted) Q E s := by
  have sz := rows_size hr
  have fits : t.fits es.size = true := by
    simp only [SetTable.fits, SetTable.fill, hdm, Bool.and_eq_true, beq_iff_eq, decide_eq_true_eq]
    exact ⟨hsz, by simp only [Array.size_empty]; omega⟩
  obtain ⟨t', order, e, hp, T, em, el, _, ed⟩ := DT.relaidG t (hs := es.map (·.1)) (wanted := wanted) hw hM (by rw [Array.size_map, sz]; omega)
  rw [Array.size_map, sz] at hp
  obtain ⟨L2, r1, r2, r3⟩ := ord_rows L es order hr hp
  rw [← r3] at T
  have sz2 : (order.filterMap (es[·]?)).size = es.size := by
    rw [rows_size r1, r2.length_eq, sz]
  rw [setRelay_eq]
  apply wpAny_bind
  apply wpAny_setState_of ho hd fits
  dsimp only
  apply wp_if_neg (by rw [sizeLine_eq]; omega)
  try (apply wpAny_bind; apply wpAny_pure)
  rw [e]
  dsimp only
  apply wpAny_bind
  apply wp_if_neg (by rw [sz2]; simp)
  try (apply wpAny_bind; apply wpAny_pure)
  apply wpAny_pure
  dsimp only
  refine wpAny_storeSet_of ho hd ?_ (by rw [sz2, sz, sizeLine_eq]; omega)
  have sb : Heap.SameBut a s.heap (s.heap.update a (Obj.putSet (order.filterMap (es[·]?)) t')) := Heap.SameBut.update ..
  apply hQ _ L2 (order.filterMap (es[·]?)) (ep + 1) t' sb ?_ r2
  exact ⟨⟨_, store_at ho hd, ⟨hex.1, hex.2.1, hex.2.2⟩, rfl⟩, r1, T, (r2.map (·.2)).nodup_iff.mpr nd, fun p m => key_same (tup p (r2.mem_iff.mp m)) ho hd sb, by rw [el]; exact ld, by rw [r2.length_eq, em]; exact hn, by rw [r2.length_eq]; exact few⟩
theorem mid_perm {α : Type} (l : List α) (n : Nat) (x : α) : (l.take n ++ x :: l.drop n).Perm (x :: l) := by
  have h := List.perm_middle (a := x) (l₁ := l.take n) (l₂ := l.drop n)
  rwa [List.take_append_drop] at h
theorem add_on (S : Still knd) (R : SetK knd s.heap a L es ep t) {x : Addr} {k : List κ} (hx : IsTupleKey knd s.heap k x) (hu : A.units < cLine) (few : L.length + 1 < 2000) {Q : Bool → Shared → Prop}
    (hQ : ∀ b h' L' es' ep' t', Heap.SameBut a s.heap h' → SetK knd h' a L' es' ep' t' → (k ∈ L.map (·.2) → L' = L) → (k ∉ L.map (·.2) → L'.Perm ((x, k) :: L)) → Q b { s with heap := h' }) :
    wpAny (model P w) A (setAddHashed a (.ref x) (tupleKeyHash knd k)) Q E s := by
  obtain ⟨o, ho, hex, hd⟩ := R.ob
  have sz := rows_size R.rows
  have rm := R.room
  unfold setAddHashed
  apply wpAny_holding
  rw [show (100000 : Nat) = 99999 + 1 from rfl, setAddHashedIn_succ]
  apply wpAny_bind
  apply wpAny_setState_of ho hd R.fits
  dsimp only
  apply wp_if_neg (by simp [byScan, Value.scannable])
  try (apply wpAny_bind; apply wpAny_pure)
  apply wpAny_bind
  apply search_all S R hx hu
  · intro hm
    dsimp only
    exact wpAny_pure (hQ false s.heap L es ep t (Heap.SameBut.refl a s.heap) R (fun _ => rfl) fun z => absurd hm z)
  · intro K hm hK hb
    dsimp only
    apply wpAny_bind
    apply wpAny_setState_of ho hd R.fits
    dsimp only
    obtain ⟨q1, q2, q3, q4, q5, _, q7, q8, q9⟩ := R.tab.put hK hb
    generalize hpt : t.put (way t.mask (tupleKeyHash knd k) K) = pt at q1 q3 q4 q5 q7 q8 q9 ⊢
    obtain ⟨t1, n⟩ := pt
    dsimp only at q1 q3 q4 q5 q7 q8 q9 ⊢
    subst q1
    -- what follows, for either mark
    have cont : ∀ t2 : SetTable, t2.place = t1.place → t2.dummies = t1.dummies → t2.mask = t1.mask → t2.led = t1.led →
        wpAny (model P w) A (do
          storeSet a (SetTable.insertAt es (SetTable.below t.place (way t.mask (tupleKeyHash knd k) K)) (tupleKeyHash knd k, Value.ref x)) t2
          if !false && t2.tooFull then setRelay a (SetTable.grown (es.size + 1))
          return true) Q E s := by
      intro t2 g1 g2 g3 g4
      have hin : (SetTable.insertAt es (SetTable.below t.place (way t.mask (tupleKeyHash knd k) K)) (tupleKeyHash knd k, Value.ref x)).toList = (L.take (SetTable.below t.place (way t.mask (tupleKeyHash knd k) K)) ++ (x, k) :: L.drop (SetTable.below t.place (way t.mask (tupleKeyHash knd k) K))).map (ent knd) := by
        rw [SetTable.toList_insertAt, R.rows, List.map_append, List.map_cons, List.map_take, List.map_drop]
        rfl
      generalize hpp : SetTable.below t.place (way t.mask (tupleKeyHash knd k) K) = n at q2 q3 hin ⊢
      have pm := mid_perm L n (x, k)
      have ln : (L.take n ++ (x, k) :: L.drop n).length = L.length + 1 := pm.length_eq
      have hh : (L.take n ++ (x, k) :: L.drop n).map (hsh knd) = (L.map (hsh knd)).take n ++ tupleKeyHash knd k :: (L.map (hsh knd)).drop n := by
        rw [List.map_append, List.map_cons, List.map_take, List.map_drop]
        rfl
      rw [← hh] at q3
      have nd1 : ((L.take n ++ (x, k) :: L.drop n).map (·.2)).Nodup := by
        refine (pm.map (·.2)).nodup_iff.mpr ?_
        rw [List.map_cons]
        exact List.nodup_cons.mpr ⟨hm, R.nd⟩
      have sz1 : (SetTable.insertAt es n (tupleKeyHash knd k, Value.ref x)).size = L.length + 1 := by rw [rows_size hin, ln]
      generalize SetTable.insertAt es n (tupleKeyHash knd k, Value.ref x) = es1 at hin sz1 ⊢
      generalize L.take n ++ (x, k) :: L.drop n = L1 at pm ln q3 nd1 hin
      have T2 : DT.TabG t2 (L1.map (hsh knd)) := by
        refine ⟨by rw [g1]; exact q3.ris, by rw [g2]; exact q3.dm, by rw [g1]; exact q3.sz, by rw [g3]; exact q3.mok, by rw [g1, g3]; exact q3.bd, ?_⟩
        intro i h j hi hj
        rw [g1] at hj
        rw [g1, g3]
        exact q3.reach i h j hi hj
      apply wpAny_bind
      refine wpAny_storeSet_of ho hd ?_ (by rw [sz1, sizeLine_eq]; omega)
      have sb : Heap.SameBut a s.heap (s.heap.update a (Obj.putSet es1 t2)) := Heap.SameBut.update ..
      have ho1 := store_at (es' := es1) (t' := t2) ho hd
      generalize s.heap.update a (Obj.putSet es1 t2) = h1 at sb ho1 ⊢
      have tup1 : ∀ p ∈ L1, IsTupleKey knd h1 p.2 p.1 := by
        intro p hp
        rcases List.mem_cons.mp (pm.mem_iff.mp hp) with e | hp
        · rw [e]; exact key_same hx ho hd sb
        · exact key_same (R.tup p hp) ho hd sb
      have ld1 : w.params.followText "set-order" = true ∨ t2.led = true := by rw [g4, q5]; exact R.led
      have fill : t2.fill = L.length + 1 := by
        have z : t2.fill = t1.fill := by simp only [SetTable.fill, g1, g2]
        rw [z, q9, List.length_map]
      have mk : t2.mask = t.mask := g3.trans q4
      by_cases hf : t2.tooFull = true
      · refine wp_if_pos (by simp [hf]) (wpAny_bind ?_)
        have full : (L.length + 1) * 5 ≥ t2.mask * 3 := by
          have h := hf
          unfold SetTable.tooFull at h
          rw [decide_eq_true_eq, fill] at h
          exact h
        rw [sz]
        have szp : t2.place.size = es1.size := by rw [T2.sz, List.length_map, ln, sz1]
        have two : (t.mask = 7 ∧ L.length = 4) ∨ (t.mask = 31 ∧ L.length = 18) ∨ (t.mask = 127 ∧ L.length = 76) ∨ (t.mask = 511 ∧ L.length = 306) ∨ (t.mask = 2047 ∧ L.length = 1228) := by
          rw [mk] at full
          rcases R.tab.mok with e | e | e | e | e | e <;> rw [e] at full rm
          · exact .inl ⟨e, by omega⟩
          · exact .inr (.inl ⟨e, by omega⟩)
          · exact .inr (.inr (.inl ⟨e, by omega⟩))
          · exact .inr (.inr (.inr (.inl ⟨e, by omega⟩)))
          · exact .inr (.inr (.inr (.inr ⟨e, by omega⟩)))
          · omega
        have go : ∀ M, SetTable.sizeAbove (SetTable.grown (L.length + 1)) - 1 = M → DT.MaskG M → SetTable.sizeAbove (SetTable.grown (L.length + 1)) ≤ 8192 → (L.length + 1) * 5 < M * 3 →
            wpAny (model P w) A (setRelay a (SetTable.grown (L.length + 1))) (fun _ s' => wpAny (model P w) A (pure true) Q E s') E { s with heap := h1 } := by
          intro M m1 m2 m3 m4
          apply relay_on (s := { s with heap := h1 }) ho1 ⟨hex.1, hex.2.1, hex.2.2⟩ rfl hin szp T2.dm (by rw [sz1, mk]; rcases two with ⟨e, e2⟩ | ⟨e, e2⟩ | ⟨e, e2⟩ | ⟨e, e2⟩ | ⟨e, e2⟩ <;> omega) nd1 tup1 ld1 (by rw [ln]; exact few) m1 m2 m3 (by rw [ln]; exact m4)
          intro h2 L2 es2 ep2 t2 sb2 R2 pm2
          exact wpAny_pure (hQ true h2 L2 es2 ep2 t2 (sb.trans sb2) R2 (fun z => absurd z hm) fun _ => pm2.trans pm)
        rcases two with ⟨_, e2⟩ | ⟨_, e2⟩ | ⟨_, e2⟩ | ⟨_, e2⟩ | ⟨_, e2⟩
        · exact go 31 (by rw [e2, size_20]) (.inr (.inl rfl)) (by rw [e2, size_20]; decide) (by omega)
        · exact go 127 (by rw [e2, size_76]) (.inr (.inr (.inl rfl))) (by rw [e2, size_76]; decide) (by omega)
        · exact go 511 (by rw [e2, DT.size_308]) (.inr (.inr (.inr (.inl rfl)))) (by rw [e2, DT.size_308]; decide) (by omega)
        · exact go 2047 (by rw [e2, DT.size_1228]) (.inr (.inr (.inr (.inr (.inl rfl))))) (by rw [e2, DT.size_1228]; decide) (by omega)
        · exact go 8191 (by rw [e2, DT.size_1229]) (.inr (.inr (.inr (.inr (.inr rfl))))) (by rw [e2, DT.size_1229]; decide) (by omega)
      · refine wp_if_neg (by simp [hf]) ?_
        refine wpAny_pure (hQ true h1 L1 es1 (ep + 1) t2 sb ⟨⟨_, ho1, ⟨hex.1, hex.2.1, hex.2.2⟩, rfl⟩, hin, T2, nd1, tup1, ld1, ?_, by rw [ln]; exact few⟩ (fun z => absurd z hm) fun _ => pm)
        have h := hf
        unfold SetTable.tooFull at h
        rw [decide_eq_true_eq, fill] at h
        rw [ln]
        omega
    by_cases hpl : t1.plain = true
    · refine wp_if_pos hpl (wpAny_bind ?_)
      apply val_key S hx
      intro c
      cases c with
      | true => simp only [if_true]; exact cont t1 rfl rfl rfl rfl
      | false => simp only [Bool.false_eq_true, if_false]; exact cont { t1 with plain := false } rfl rfl rfl rfl
    · refine wp_if_neg hpl (wpAny_bind (wpAny_pure ?_))
      simp only [if_true]
      exact cont t1 rfl rfl rfl rfl
/-! ### set(xs) -/
theorem key_keep {h h' : Heap} {k : List κ} {b : Addr} (x : IsTupleKey knd h k b) (hk : ∀ c o, h.get? c = some o → h'.get? c = some o) : IsTupleKey knd h' k b := by
  obtain ⟨o, its, n, ho, r⟩ := x
  exact ⟨o, its, n, hk b o ho, r⟩
theorem SetK.keep {h h' : Heap} (R : SetK knd h a L es ep t) (ha : ∀ o, h.get? a = some o → h'.get? a = some o) (ht : ∀ p ∈ L, IsTupleKey knd h' p.2 p.1) : SetK knd h' a L es ep t := by
  obtain ⟨o, ho, r⟩ := R.ob
  exact ⟨⟨o, ha o ho, r⟩, R.rows, R.tab, R.nd, ht, R.led, R.room, R.few⟩
/-- the rows of the first i items, each key once -/
structure Has (ks : Rows κ) (i : Nat) (L : Rows κ) : Prop where
  sub : ∀ p ∈ L, p ∈ ks.take i
  all : ∀ p ∈ ks.take i, p.2 ∈ L.map (·.2)
  len : L.length ≤ i
theorem Has.next {ks L M : Rows κ} {i : Nat} {x : Addr × List κ} (g : Has ks i L) (h : ks[i]? = some x) (c1 : x.2 ∈ L.map (·.2) → M = L) (c2 : x.2 ∉ L.map (·.2) → M.Perm (x :: L)) : Has ks (i + 1) M := by
  have tk : ks.take (i + 1) = ks.take i ++ [x] := by rw [List.take_succ, h]; rfl
  by_cases c : x.2 ∈ L.map (·.2)
  · rw [c1 c]
    refine ⟨fun p hp => ?_, fun p hp => ?_, Nat.le_succ_of_le g.len⟩
    · rw [tk]; exact List.mem_append_left _ (g.sub p hp)
    · rw [tk] at hp
      rcases List.mem_append.mp hp with z | z
      · exact g.all p z
      · rw [List.mem_singleton.mp z]; exact c
  · have pm := c2 c
    refine ⟨fun p hp => ?_, fun p hp => ?_, by rw [pm.length_eq, List.length_cons]; exact Nat.succ_le_succ g.len⟩
    · rw [tk]
      rcases List.mem_cons.mp (pm.mem_iff.mp hp) with z | z
      · rw [z]; exact List.mem_append_right _ (List.mem_singleton.mpr rfl)
      · exact List.mem_append_left _ (g.sub p z)
    · rw [(pm.map (·.2)).mem_iff, List.map_cons]
      rw [tk] at hp
      rcases List.mem_append.mp hp with z | z
      · exact List.mem_cons_of_mem _ (g.all p z)
      · rw [List.mem_singleton.mp z]; exact List.mem_cons_self
/-- not too many different keys -/
def Few (ks : Rows κ) : Prop := ∀ L : Rows κ, (L.map (·.2)).Nodup → (∀ p ∈ L, p ∈ ks) → L.length < 1999
theorem fill_loop (S : Still knd) {I : Addr} {fp wr : List Addr} {G : Array GenState → Array GenState → Prop} {n : Nat} {Pv : Nat → Value → Prop} {St : Nat → Shared → Prop} {R : Result → Shared → Prop}
    (W : WalksS P w A.in1 I fp wr G n Pv St) (D : Addr) (hDf : D ∉ fp) (ks : Rows κ) (hn : n = ks.length) (few : Few ks) (hval : ∀ i v, Pv i v → ∃ p, ks[i]? = some p ∧ v = .ref p.1)
    (h0 : Heap) (hk : ∀ p ∈ ks, IsTupleKey knd h0 p.2 p.1) (hD0 : h0.get? D = none) (hw0 : ∀ b ∈ wr, h0.get? b = none) (hu : A.in1.units < cLine) :
    ∀ (m i : Nat) (s : Shared), n - i = m → i ≤ n → St i s → (∀ b o, h0.get? b = some o → s.heap.get? b = some o) → (∃ L es ep t, SetK knd s.heap D L es ep t ∧ Has ks i L) →
      (∀ s' L es ep t, Moved (D :: wr) G s s' → SetK knd s'.heap D L es ep t → Has ks n L → (∀ b o, h0.get? b = some o → s'.heap.get? b = some o) → R (.ok (.ret .none)) s') →
      codeAny (model P w) A (.builtin "set.update.loop" ⟨[.ref D, .ref I], []⟩) R s := by
  have inSub : ∀ b ∈ wr, b ∈ D :: wr := fun b hb => List.mem_cons_of_mem _ hb
  have over : ∀ {s s' : Shared}, Moved wr G s s' → (∀ b o, h0.get? b = some o → s.heap.get? b = some o) → ∀ b o, h0.get? b = some o → s'.heap.get? b = some o := by
    intro s s' hm kp b o e
    apply hm.heap b o _ (kp b o e)
    intro hb
    rw [hw0 b hb] at e
    cases e
  intro m
  induction m with
  | zero =>
    rintro i s hm hi hst kp ⟨L, es, ep, t, hS, g⟩ hR
    obtain rfl : i = n := by omega
    refine codeAny_builtin F.entry_set_update_loop ?_
    rw [Around.under_plainId F.plain_set_update_loop _]
    show wpAny _ A.in1 (pyNext (.ref I) >>= _) _ _ s
    apply wpAny_bind
    apply W.done s _ _ hst
    intro s' hm
    show wpAny _ A.in1 (ret Value.none) _ _ s'
    have kp' := over hm kp
    have L_in : ∀ p ∈ L, p ∈ ks := fun p hp => List.mem_of_mem_take (g.sub p hp)
    exact wpAny_pure (hR s' L es ep t (hm.mono inSub) (hS.keep (fun o e => hm.heap D o (fun h => hDf (W.sub _ h)) e) fun p hp => key_keep (hk p (L_in p hp)) kp') g kp')
  | succ m ih =>
    rintro i s hm hi hst kp ⟨L, es, ep, t, hS, g⟩ hR
    have hlt : i < n := by omega
    refine codeAny_builtin F.entry_set_update_loop ?_
    rw [Around.under_plainId F.plain_set_update_loop _]
    show wpAny _ A.in1 (pyNext (.ref I) >>= _) _ _ s
    apply wpAny_bind
    apply W.item i s _ _ hlt hst
    intro v s' hP hst' hm
    obtain ⟨p, hp, rfl⟩ := hval i v hP
    have kp' := over hm kp
    have L_in : ∀ p ∈ L, p ∈ ks := fun p hp => List.mem_of_mem_take (g.sub p hp)
    have hS' : SetK knd s'.heap D L es ep t := hS.keep (fun o e => hm.heap D o (fun h => hDf (W.sub _ h)) e) fun q hq => key_keep (hk q (L_in q hq)) kp'
    have hx : IsTupleKey knd s'.heap p.2 p.1 := key_keep (hk p (List.mem_of_getElem? hp)) kp'
    show wpAny _ A.in1 (holding [Value.ref p.1] (setAdd D (.ref p.1)) >>= _) _ _ s'
    apply wpAny_bind
    apply wpAny_holding
    unfold setAdd
    apply wpAny_holding
    apply wpAny_bind
    apply wpAny_pyHash_tuple hu hx
    apply add_on (s := { s' with toks := s'.toks + (p.2.length + 1) }) S hS' hx hu (by have := few L hS'.nd L_in; omega)
    intro b h' L' es' ep' t' hsb hS2 c1 c2
    have kp2 : ∀ b o, h0.get? b = some o → h'.get? b = some o := by
      intro b o e
      rw [hsb.2 b (fun z => by rw [z, hD0] at e; cases e)]
      exact kp' b o e
    refine wpAny_pure ⟨plainId_quiet F.plain_set_update_loop _, ih (i + 1) _ (by omega) hlt (W.frame _ s' _ _ hst' (Nat.le_add_right _ _) fun b hb o e => ?_) kp2 ⟨L', es', ep', t', hS2, g.next hp c1 c2⟩ fun s'' L2 es2 ep2 t2 hm2 hS3 g2 kp3 => ?_⟩
    · rw [hsb.2 b (fun h : b = D => hDf (h ▸ hb))]
      exact e
    · apply hR s'' L2 es2 ep2 t2 _ hS3 g2 kp3
      refine Moved.trans W.gtrans ((hm.mono inSub).then_heap (Nat.le_add_right _ _) fun b o hb e => ?_) hm2
      rw [hsb.2 b (fun h : b = D => hb (h ▸ List.mem_cons_self))]
      exact e
theorem fresh_set {h : Heap} {a : Addr} (ho : h.get? a = some { cls := .type "set", dict := none, data := .set #[] 0 (.fresh 0 0 (!w.params.followText "set-order")) }) : SetK knd h a [] #[] 0 (.fresh 0 0 (!w.params.followText "set-order")) where
  ob := ⟨_, ho, ⟨rfl, rfl, rfl⟩, rfl⟩
  rows := rfl
  tab := ⟨List.Pairwise.nil, rfl, rfl, .inl rfl, (fun x hx => by cases hx), (fun i h j hi => by simp at hi)⟩
  nd := List.nodup_nil
  tup := by intro p hp; cases hp
  led := by
    show _ ∨ (!w.params.followText "set-order") = true
    cases w.params.followText "set-order" <;> simp
  room := show 0 * 5 < 7 * 3 by decide
  few := show 0 < 2000 by decide
/-- a set without anything -/
abbrev newSet (w : World) : Obj := { cls := .type "set", dict := none, data := .set #[] 0 (.fresh 0 0 (!w.params.followText "set-order")) }
set_option maxHeartbeats 4000000 in
theorem call_set (S : Still knd) {l : Addr} {items : Array Value} (ks : Rows κ) {Q : Value → Shared → Prop} (hh : A.handled = none) (hl : s.heap.IsList l items) (hit : items.toList = ks.map fun p => Value.ref p.1)
    (hk : ∀ p ∈ ks, IsTupleKey knd s.heap p.2 p.1) (few : Few ks) (hu : A.units + 3 < cLine)
    (h : ∀ (h' : Heap) (tk : Nat) L es ep t, SetK knd h' s.heap.objs.size L es ep t → Has ks ks.length L → (∀ b o, s.heap.get? b = some o → h'.get? b = some o) → Q (.ref s.heap.objs.size) { s with heap := h', toks := tk }) :
    wpAny (model P w) A (call (.type "set") [.ref l]) Q E s := by
  have isz : items.size = ks.length := by rw [← Array.length_toList, hit, List.length_map]
  obtain ⟨c, tl, hmro⟩ := F.called_set.mro
  have made := F.called_set.made
  have subt := F.called_set.sub
  apply wpAny_call
  apply codeAny_of_tree
  show wpAny _ _ (callAny (.type "set") _) _ _ _
  apply wpAny_pure
  refine ⟨Code.quiet_builtin _ (by decide +kernel), codeAny_builtin F.entry_type_call ?_⟩
  rw [Around.under_plain (weight_type_call_type "set" [.ref l] []) rfl]
  have z1 := F.called_set.notType
  have z2 := F.called_set.canCreate
  have z3 := F.typeCall_set_1 (.ref l)
  repeat (any_goals (first | assumption | wp_step))
  refine codeAny_mono (code_set_led1 (.ref l) (E := E) (Q₁ := fun ob s1 => ob = .ref s.heap.objs.size ∧ s1 = { s with heap := s.heap.push (newSet w) }) ⟨rfl, rfl⟩) fun r s1 hr => ?_
  cases r with
  | error e => exact hr
  | ok fl =>
    cases fl with
    | next => exact hr.elim
    | brk => exact hr.elim
    | cont => exact hr.elim
    | ret ob =>
      obtain ⟨rfl, rfl⟩ := hr
      have hS : (s.heap.push (newSet w)).get? s.heap.objs.size = some (newSet w) := Heap.get?_push_size _ rfl
      have hT : Shared.TypeIs { s with heap := s.heap.push (newSet w) } (.ref s.heap.objs.size) "set" := ⟨_, hS, rfl⟩
      have y1 := F.called_set.init.lookup
      have y2 := F.called_set.init.bind (.ref s.heap.objs.size)
      repeat (any_goals (first | assumption | wp_step))
      refine codeAny_mono (codeAny_call_builtin (R := wants (fun r s2 => r = .none ∧ ∃ h' tk L es ep t, s2 = { s with heap := h', toks := tk } ∧ SetK knd h' s.heap.objs.size L es ep t ∧ Has ks ks.length L ∧
          (∀ b o, s.heap.get? b = some o → h'.get? b = some o)) E) F.called_set.init.plain F.entry_set_init (check_set_init_1 hT ?_)) fun r2 s2 hr2 => ?_
      · obtain ⟨⟨ocls, odict, odata, oslots⟩, hol, hcl, nl, hdl⟩ := hl
        simp only at hcl hdl
        subst hcl; subst hdl
        have hol2 : (s.heap.push (newSet w)).get? l = some { cls := .type "list", dict := odict, data := .seq items nl, slots := oslots } := Heap.get?_push_of_some _ hol
        have x1 := F.sub_list_set
        have x2 := F.sub_list_frozenset
        have x3 : (Value.type "list" == Value.type "dict") = false := by decide
        have hl1 : (s.heap.push (newSet w)).IsList l items := ⟨_, hol2, rfl, nl, rfl⟩
        unfold Builtin.«set.__init__» noKeywords Builtin.Frozenset.updateFrom
        generalize hPI : pyIter = PI
        wp_walk
        subst hPI
        apply wpAny_pyIter_list hl1
        apply wpAny_bind
        apply wpAny_runValue
        have lS : l < s.heap.objs.size := Heap.lt_size hol
        have hh3 : A.in1.in1.in1.handled = none := by simp [hh]
        have neI : l ≠ (s.heap.push (newSet w)).objs.size := by
          rw [Heap.size_push]; exact Nat.ne_of_lt (Nat.lt_succ_of_lt lS)
        have Sf : s.heap.objs.size ∉ [(s.heap.push (newSet w)).objs.size, l] := by
          rw [Heap.size_push]
          simp only [List.mem_cons, List.not_mem_nil, or_false, not_or]
          exact ⟨Nat.ne_of_lt (Nat.lt_succ_self _), Nat.ne_of_gt lS⟩
        have hval : ∀ (i : Nat) (v : Value), items[i]? = some v → ∃ p, ks[i]? = some p ∧ v = .ref p.1 := by
          intro i v hv
          rw [← Array.getElem?_toList, hit, List.getElem?_map] at hv
          cases hq : ks[i]? with
          | none => rw [hq] at hv; cases hv
          | some p =>
            rw [hq] at hv
            exact ⟨p, rfl, (Option.some.inj hv).symm⟩
        have above : ∀ b, s.heap.objs.size ≤ b → s.heap.get? b = none := by
          intro b hb
          cases q : s.heap.get? b with
          | none => rfl
          | some o => exact absurd (Nat.lt_of_lt_of_le (Heap.lt_size q) hb) (Nat.lt_irrefl _)
        refine fill_loop S ((Walks.list hh3 _ l neI items).toS) s.heap.objs.size Sf ks isz few hval s.heap hk (above _ (Nat.le_refl _))
          (fun b hb => above b (by rw [List.mem_singleton.mp hb, Heap.size_push]; exact Nat.le_succ _)) hu (items.size - 0) 0 _ (by omega) (Nat.zero_le _)
          ⟨⟨_, Heap.get?_push_size _ rfl, rfl, rfl⟩, (hl1.push _)⟩ (fun b o e => Heap.get?_push_of_some _ (Heap.get?_push_of_some _ e)) ?start ?done
        case start =>
          have hget : ((s.heap.push (newSet w)).push { cls := .type "list_iterator", data := .fields #[.ref l, .int 0 0] }).get? s.heap.objs.size = some (newSet w) := Heap.get?_push_of_some _ hS
          exact ⟨[], #[], 0, _, fresh_set hget, ⟨(fun p h => by cases h), (fun p h => by simp at h), Nat.le_refl _⟩⟩
        case done =>
          rintro ⟨h', g2, d', tk', os'⟩ L es ep t hm hS' g' kp
          have eg : g2 = s.gens := hm.gens
          have ed : d' = s.drawn := hm.drawn
          have eo : os' = s.os := hm.os
          subst eg; subst ed; subst eo
          show wpAny _ _ _ _ _ _
          apply wpAny_pure
          show wpAny _ _ (ret Value.none) _ _ _
          rw [isz] at g'
          exact wpAny_pure ⟨rfl, h', tk', L, es, ep, t, rfl, hS', g', kp⟩
      · cases r2 with
        | error e => exact hr2
        | ok fl2 =>
          cases fl2 with
          | ret r =>
            obtain ⟨rfl, h', tk, L, es, ep, t, rfl, hS', g', kp⟩ := hr2
            repeat (any_goals (first | assumption | wp_step))
            exact h _ _ _ _ _ _ hS' g' kp
          | next => exact hr2.elim
          | brk => exact hr2.elim
          | cont => exact hr2.elim
end
end DS
namespace DS
open PySem PySem.Spec PyProof.Rows L2 PySem.W
section
variable {P : Program} {w : World} {A : Around} {E : Value → Shared → Prop} {s : Shared}
theorem items_read {h : Heap} {ks : List Key} {vs : List Value} (x : ItemsAre (mixKind P w) ks vs) : ReadsAll h vs (ks.map DL.keyD) [] := by
  induction x with
  | nil => exact .nil
  | cons h1 _ ih => exact ReadsAll.cons (as := []) (bs := []) (DL.key_read h1) ih
theorem key_reads {h : Heap} {k : List Key} {b : Addr} (x : IsTupleKey (mixKind P w) h k b) : Reads h (.ref b) (.tuple (k.map DL.keyD)) [] := by
  obtain ⟨o, its, n, ho, hc, hd, hi⟩ := x
  exact .tuple ho hc hd (items_read hi)
/-- a row as data -/
abbrev rowD (p : Addr × List Key) : PyData := .tuple (p.2.map DL.keyD)
def IsPair (p : Addr × List Key) : Prop := ∃ i x, p.2 = [.inl i, .inr x]
theorem pair_alike {p q : Addr × List Key} (hp : IsPair p) (hq : IsPair q) : alike (rowD p) (rowD q) = true := by
  obtain ⟨i, x, e⟩ := hp
  obtain ⟨j, y, f⟩ := hq
  unfold rowD
  rw [e, f]
  simp [alike, alikeAll, DL.keyD]
theorem each_rows {h : Heap} : ∀ {M : Rows Key}, (∀ p ∈ M, IsTupleKey (mixKind P w) h p.2 p.1) → EachIs (fun v p => ∃ as, Reads h v (rowD p) as) (M.map fun p => Value.ref p.1) M
  | [], _ => .nil
  | p :: M, k => .cons ⟨_, key_reads (k p (by simp))⟩ (each_rows fun q m => k q (by simp [m]))
theorem each_refs : ∀ (M : Rows Key), EachIs (fun (v : Value) (p : Addr × List Key) => v = .ref p.1) (M.map fun p => Value.ref p.1) M
  | [] => .nil
  | _ :: M => .cons rfl (each_refs M)
theorem refs_each : ∀ {vs : List Value} {M : Rows Key}, EachIs (fun (v : Value) (p : Addr × List Key) => v = .ref p.1) vs M → vs = M.map fun p => Value.ref p.1
  | _, _, .nil => rfl
  | _, _, .cons e r => by rw [e, refs_each r]; rfl
theorem perm_rows : ∀ (vs : List Value) (L : Rows Key), vs.Perm (L.map fun p => Value.ref p.1) → ∃ M : Rows Key, M.Perm L ∧ vs = M.map fun p => Value.ref p.1 := by
  intro vs
  induction vs with
  | nil =>
    intro L h
    have : L = [] := by simpa using h.length_eq.symm
    exact ⟨[], by rw [this], rfl⟩
  | cons v vs ih =>
    intro L h
    obtain ⟨p, hp, e⟩ := List.mem_map.mp (h.mem_iff.mp List.mem_cons_self)
    obtain ⟨l1, l2, e2⟩ := List.append_of_mem hp
    have h2 : vs.Perm ((l1 ++ l2).map fun p => Value.ref p.1) := by
      rw [e2, List.map_append, List.map_cons, e] at h
      have h3 := h.trans List.perm_middle
      rw [List.map_append]
      exact h3.cons_inv
    obtain ⟨M, h4, h5⟩ := ih _ h2
    refine ⟨p :: M, ?_, by rw [List.map_cons, ← h5, e]⟩
    rw [e2]
    exact (h4.cons p).trans List.perm_middle.symm
variable {a : Addr} {L : Rows Key} {es : Array (Int × Value)} {ep : Nat} {t : SetTable}
theorem call_sorted {Q : Value → Shared → Prop} (R : SetK (mixKind P w) s.heap a L es ep t) (pr : ∀ p ∈ L, IsPair p) (hh : A.handled = none) (hu : A.units + 8 < cLine)
    (hQ : ∀ s' p (out : Array Value) (c : Nat) (M : Rows Key), (∀ b o, s.heap.get? b = some o → s'.heap.get? b = some o) → s'.gens = s.gens → s'.os = s.os → s.heap.objs.size ≤ p →
      s'.heap.get? p = some (seqObj "list" out c) → out.toList = (M.mergeSort (dataLe false rowD)).map (fun q => Value.ref q.1) → M.Perm L → Q (.ref p) s') :
    wpAny (model P w) A (call (.builtin "sorted") [.ref a]) Q E s := by
  obtain ⟨o, ho, hex, hd⟩ := R.ob
  have sz := rows_size R.rows
  have few := R.few
  apply Calls.call_function_entry kind_sorted plain_sorted entry_sorted (args_sorted1 _)
  unfold Builtin.«sorted»
  apply wpAny_bind (m := checkCount "sorted" 1 1 _)
  apply wpAny_pure
  apply wpAny_bind
  apply collect_set (A := A.in1) hh ⟨o, ho, hex.1, hd⟩ R.fits (by unfold scanBound; omega) R.tab.ris R.led
  intro s1 vs k1 hz g1 o1 pm
  have e1 : es.toList.map (·.2) = L.map fun q => Value.ref q.1 := by rw [R.rows, List.map_map]; rfl
  rw [e1] at pm
  obtain ⟨M, pM, rfl⟩ := perm_rows vs L pm
  have lM : M.length < 2000 := by rw [pM.length_eq]; exact few
  apply wpAny_bind
  refine wpAny_newList ?_ (by rw [List.length_map, sizeLine_eq]; omega)
  have hoL : (s1.heap.push (seqObj "list" (M.map fun q => Value.ref q.1).toArray 0)).get? s1.heap.objs.size = some (seqObj "list" (M.map fun q => Value.ref q.1).toArray 0) := Heap.get?_push_size _ rfl
  apply wpAny_bind
  apply wpAny_holding
  refine wpAny_call_entry_kw slot_list_sort ⟨_, hoL, rfl⟩ entry_list_sort ?body (args_list_sort _)
  case body =>
    have er : EachIs (fun v p => ∃ as, Reads (sortingHeap (s1.heap.push (seqObj "list" (M.map fun q => Value.ref q.1).toArray 0)) s1.heap.objs.size (M.map fun q => Value.ref q.1)) v (rowD p) as) (M.map fun q => Value.ref q.1) M := by
      apply each_rows
      intro p hp
      apply key_keep (R.tup p (pM.mem_iff.mp hp))
      intro c u e
      have q := k1 c u e
      exact sortingHeap_old (Nat.ne_of_lt (Heap.lt_size q)) (Heap.get?_push_of_some _ q)
    have al : AllAlike (M.map rowD) := by
      intro d hd d' hd'
      obtain ⟨p, hp, rfl⟩ := List.mem_map.mp hd
      obtain ⟨q, hq, rfl⟩ := List.mem_map.mp hd'
      exact pair_alike (pr p (pM.mem_iff.mp hp)) (pr q (pM.mem_iff.mp hq))
    have so : Sortable (M.map rowD) := .inl fun d hd => by
      obtain ⟨p, hp, rfl⟩ := List.mem_map.mp hd
      obtain ⟨i, x, e⟩ := pr p (pM.mem_iff.mp hp)
      exact ⟨DL.keyD (.inl i), [DL.keyD (.inr x)], by unfold rowD; rw [e]; rfl⟩
    have dep : ∀ d, d ∈ M.map rowD → A.in1.in1.units + d.depth < cLine := by
      intro d hd
      obtain ⟨p, hp, rfl⟩ := List.mem_map.mp hd
      obtain ⟨i, x, e⟩ := pr p (pM.mem_iff.mp hp)
      have : (rowD p).depth ≤ 1 := by
        unfold rowD
        rw [e]
        simp [PyData.depth, PyData.depthAll, DL.keyD]
      show A.units + 1 + 1 + _ < cLine
      omega
    have fin := refs_each (sortVals_data (R := fun (v : Value) (p : Addr × List Key) => v = .ref p.1) (enc := rowD) false (each_refs M) er al)
    obtain ⟨h2, hh2⟩ : ∃ h2, h2 = sortedHeap (s1.heap.push (seqObj "list" (M.map fun q => Value.ref q.1).toArray 0)) s1.heap.objs.size (M.map fun q => Value.ref q.1) (sortVals (dataKind (sortingHeap (s1.heap.push (seqObj "list" (M.map fun q => Value.ref q.1).toArray 0)) s1.heap.objs.size (M.map fun q => Value.ref q.1)) (M.map rowD)) false (M.map fun q => Value.ref q.1) (M.map fun q => Value.ref q.1)).toArray := ⟨_, rfl⟩
    obtain ⟨c, hc⟩ := sortedHeap_at (vs := M.map fun q => Value.ref q.1) (out := (sortVals (dataKind (sortingHeap (s1.heap.push (seqObj "list" (M.map fun q => Value.ref q.1).toArray 0)) s1.heap.objs.size (M.map fun q => Value.ref q.1)) (M.map rowD)) false (M.map fun q => Value.ref q.1) (M.map fun q => Value.ref q.1)).toArray) hoL
    refine wpAny_mono (list_sort_vals (s := { s1 with heap := s1.heap.push (seqObj "list" (M.map fun q => Value.ref q.1).toArray 0) }) (P := fun f s' => f = .done (.ret .none) ∧ s' = { s1 with heap := h2 }) hoL
      (SortsAt.data (s := { s1 with heap := sortingHeap (s1.heap.push (seqObj "list" (M.map fun q => Value.ref q.1).toArray 0)) s1.heap.objs.size (M.map fun q => Value.ref q.1) }) (each_map (R := fun v d => ∃ as, Reads (sortingHeap (s1.heap.push (seqObj "list" (M.map fun q => Value.ref q.1).toArray 0)) s1.heap.objs.size (M.map fun q => Value.ref q.1)) v d as) rowD er) al so dep)
      (by rw [List.length_map, sizeLine_eq]; omega) ⟨rfl, by rw [hh2]⟩) (fun f s' hf => ?_) fun _ _ z => z
    obtain ⟨rfl, rfl⟩ := hf
    refine ⟨_, rfl, wpAny_pure ⟨_, rfl, hQ _ s1.heap.objs.size _ c M (fun b u e => ?_) g1 o1 hz (by rw [hh2]; exact hc) ?_ pM⟩⟩
    · have q := k1 b u e
      have lt := Heap.lt_size q
      show h2.get? b = some u
      rw [hh2, sortedHeap_old (Nat.ne_of_lt lt) (by rw [size_push']; exact Nat.lt_succ_of_lt lt)]
      exact Heap.get?_push_of_some _ q
    · exact fin
end
end DS
namespace DL
open PySem PySem.Spec PyProof.Rows L2
/-! ### rows of numbers and texts, in order, each once -/
abbrev NT := Int × Str
def ltP (a b : NT) : Prop := a.1 < b.1 ∨ (a.1 = b.1 ∧ a.2.cps.toList < b.2.cps.toList)
instance (a b : NT) : Decidable (ltP a b) := inferInstanceAs (Decidable (_ ∨ _))
theorem ltP_irrefl (a : NT) : ¬ ltP a a := by
  rintro (h | ⟨_, h⟩)
  · omega
  · exact List.lt_irrefl _ h
theorem ltP_trans {a b c : NT} : ltP a b → ltP b c → ltP a c := by
  rintro (h | ⟨h, k⟩) (h' | ⟨h', k'⟩)
  · exact .inl (by omega)
  · exact .inl (by omega)
  · exact .inl (by omega)
  · exact .inr ⟨by omega, List.lt_trans k k'⟩
theorem ltP_tri (a b : NT) : ltP a b ∨ a = b ∨ ltP b a := by
  rcases Int.lt_trichotomy a.1 b.1 with h | h | h
  · exact .inl (.inl h)
  · by_cases k : a.2.cps.toList < b.2.cps.toList
    · exact .inl (.inr ⟨h, k⟩)
    · by_cases k2 : b.2.cps.toList < a.2.cps.toList
      · exact .inr (.inr (.inr ⟨h.symm, k2⟩))
      · refine .inr (.inl (Prod.ext h ?_))
        exact PySem.W.str_of_cps (List.le_antisymm (List.not_lt.mp k2) (List.not_lt.mp k))
  · exact .inr (.inr (.inl h))
def insP (a : NT) : List NT → List NT
  | [] => [a]
  | b :: r => if ltP a b then a :: b :: r else if a = b then b :: r else b :: insP a r
def sortP (l : List NT) : List NT := l.foldr insP []
theorem mem_insP (a x : NT) : ∀ l, x ∈ insP a l ↔ x = a ∨ x ∈ l
  | [] => by simp [insP]
  | b :: r => by
    unfold insP
    split
    · simp
    · split
      · rename_i h; subst h; simp
      · simp only [List.mem_cons, mem_insP a x r]
        constructor
        · rintro (h | h | h)
          · exact .inr (.inl h)
          · exact .inl h
          · exact .inr (.inr h)
        · rintro (h | h | h)
          · exact .inr (.inl h)
          · exact .inl h
          · exact .inr (.inr h)
theorem mem_sortP (x : NT) : ∀ l, x ∈ sortP l ↔ x ∈ l
  | [] => by simp [sortP]
  | a :: l => by
    show x ∈ insP a (sortP l) ↔ _
    rw [mem_insP, mem_sortP x l, List.mem_cons]
theorem insP_sorted (a : NT) : ∀ l : List NT, l.Pairwise ltP → (insP a l).Pairwise ltP
  | [], _ => by simp [insP]
  | b :: r, h => by
    obtain ⟨h1, h2⟩ := List.pairwise_cons.mp h
    unfold insP
    split
    · rename_i hab
      refine List.pairwise_cons.mpr ⟨fun x hx => ?_, h⟩
      rcases List.mem_cons.mp hx with rfl | hx
      · exact hab
      · exact ltP_trans hab (h1 x hx)
    · split
      · exact h
      · rename_i n1 n2
        refine List.pairwise_cons.mpr ⟨fun x hx => ?_, insP_sorted a r h2⟩
        rcases (mem_insP a x r).mp hx with rfl | hx
        · rcases ltP_tri x b with z | z | z
          · exact absurd z n1
          · exact absurd z n2
          · exact z
        · exact h1 x hx
theorem sortP_sorted : ∀ l : List NT, (sortP l).Pairwise ltP
  | [] => List.Pairwise.nil
  | a :: l => insP_sorted a _ (sortP_sorted l)
theorem sorted_one : ∀ {l m : List NT}, l.Pairwise ltP → m.Pairwise ltP → (∀ x, x ∈ l ↔ x ∈ m) → l = m
  | [], [], _, _, _ => rfl
  | [], b :: m, _, _, h => absurd ((h b).mpr (by simp)) (by simp)
  | a :: l, [], _, _, h => absurd ((h a).mp (by simp)) (by simp)
  | a :: l, b :: m, h1, h2, h => by
    obtain ⟨p1, p2⟩ := List.pairwise_cons.mp h1
    obtain ⟨q1, q2⟩ := List.pairwise_cons.mp h2
    have e : a = b := by
      rcases List.mem_cons.mp ((h a).mp (by simp)) with z | z
      · exact z
      · rcases List.mem_cons.mp ((h b).mpr (by simp)) with y | y
        · exact y.symm
        · exact absurd (ltP_trans (q1 a z) (p1 b y)) (ltP_irrefl b)
    subst e
    rw [sorted_one p2 q2 fun x => ?_]
    constructor
    · intro hx
      rcases List.mem_cons.mp ((h x).mp (by simp [hx])) with rfl | z
      · exact absurd (p1 x hx) (ltP_irrefl x)
      · exact z
    · intro hx
      rcases List.mem_cons.mp ((h x).mpr (by simp [hx])) with rfl | z
      · exact absurd (q1 x hx) (ltP_irrefl x)
      · exact z
end DL
namespace DL
open PySem PySem.Spec PyProof.Rows L2 DS PySem.W
/-- a row's number and text -/
def pk (p : Addr × List Key) : NT := match p.2 with
  | [.inl i, .inr x] => (i, x)
  | _ => (0, ⟨#[]⟩)
theorem le_pk {p q : Addr × List Key} (hp : IsPair p) (hq : IsPair q) : dataLe false rowD p q = !decide (ltP (pk q) (pk p)) := by
  obtain ⟨i, x, hp⟩ := hp
  obtain ⟨j, y, hq⟩ := hq
  have e1 : rowD p = .tuple [.int i, .str x] := by unfold rowD; rw [hp]; rfl
  have e2 : rowD q = .tuple [.int j, .str y] := by unfold rowD; rw [hq]; rfl
  have f1 : pk p = (i, x) := by unfold pk; rw [hp]
  have f2 : pk q = (j, y) := by unfold pk; rw [hq]
  show (!dataLt (rowD q) (rowD p)) = _
  rw [e1, e2, f1, f2, dataLt_pair (by simp [alike]) (by simp [alike]), dataLt_int, dataLt_str]
  congr 1
  have c1 : PyData.eqv (.int j) (.int i) = decide (j = i) := by simp only [PyData.eqv]; by_cases z : j = i <;> simp [z]
  have c2 : PyData.eqv (.str y) (.str x) = decide (y = x) := by simp only [PyData.eqv]; by_cases z : y = x <;> simp [z]
  simp only [c1, c2, decide_eq_true_eq]
  by_cases h : j = i
  · subst h
    by_cases k : y = x
    · subst k
      have n : ¬ ltP (j, y) (j, y) := ltP_irrefl _
      simp [n]
    · simp [k, ltP]
  · simp [ltP, h]
theorem sorted_rows {M L : Rows Key} (pr : ∀ p ∈ L, IsPair p) (pm : M.Perm L) (nd : (L.map (·.2)).Nodup) (ps : List NT) (hm : ∀ x, x ∈ L.map pk ↔ x ∈ ps) : (M.mergeSort (dataLe false rowD)).map pk = sortP ps := by
  have inM : ∀ p ∈ M.mergeSort (dataLe false rowD), p ∈ L := fun p h => pm.mem_iff.mp ((List.mergeSort_perm _ _).mem_iff.mp h)
  refine sorted_one ?_ (sortP_sorted ps) fun x => ?_
  · have tot : (M.mergeSort (dataLe false rowD)).Pairwise fun a b => dataLe false rowD a b = true := sort_pairwise (sortLe_total _ _ _) M
    have nd2 : (M.mergeSort (dataLe false rowD)).Pairwise fun a b => a.2 ≠ b.2 := by
      have := ((List.mergeSort_perm M (dataLe false rowD)).trans pm).map (·.2)
      exact List.pairwise_map.mp (this.nodup_iff.mpr nd)
    refine List.pairwise_map.mpr ((tot.and nd2).imp_of_mem fun {a b} ha hb hab => ?_)
    have pa := pr a (inM a ha)
    have pb := pr b (inM b hb)
    have h1 := hab.1
    rw [le_pk pa pb] at h1
    have h1 : ¬ ltP (pk b) (pk a) := by simpa using h1
    rcases ltP_tri (pk a) (pk b) with z | z | z
    · exact z
    · exfalso
      apply hab.2
      obtain ⟨i, x, ea⟩ := pa
      obtain ⟨j, y, eb⟩ := pb
      have f1 : pk a = (i, x) := by unfold pk; rw [ea]
      have f2 : pk b = (j, y) := by unfold pk; rw [eb]
      rw [f1, f2] at z
      cases z
      rw [ea, eb]
    · exact absurd z h1
  · rw [mem_sortP, ← hm]
    have := (((List.mergeSort_perm M (dataLe false rowD)).trans pm).map pk).mem_iff (a := x)
    exact this
end DL
namespace DL
open PySem PySem.Spec PyProof.Rows L2 DS PySem.W
def pairsOf : List PyData → Option (List NT)
  | [] => some []
  | .tuple [.int i, .str x] :: r => (pairsOf r).map ((i, x) :: ·)
  | _ => none
abbrev pairD (p : NT) : PyData := .tuple [.int p.1, .str p.2]
/-- sorted(set(xs)) of rows of a number and a text -/
def oSortSet : PyData → Option PyData
  | .list xs => (pairsOf xs).bind fun ps => if (sortP ps).length < 1999 then some (.list ((sortP ps).map pairD)) else none
  | _ => none
theorem sub_len {α : Type} [DecidableEq α] : ∀ (l D : List α), l.Nodup → (∀ x ∈ l, x ∈ D) → l.length ≤ D.length
  | [], _, _, _ => Nat.zero_le _
  | x :: l, D, hn, hs => by
    obtain ⟨h1, h2⟩ := List.nodup_cons.mp hn
    have hx : x ∈ D := hs x List.mem_cons_self
    have ih := sub_len l (D.erase x) h2 fun y hy => by
      have hne : y ≠ x := fun e => h1 (e ▸ hy)
      exact (List.mem_erase_of_ne hne).2 (hs y (List.mem_cons_of_mem _ hy))
    have e := List.length_erase_of_mem hx
    have hp : 0 < D.length := List.length_pos_of_mem hx
    rw [List.length_cons]
    omega
theorem insP_len (a : NT) : ∀ l, (insP a l).length ≤ l.length + 1
  | [] => by simp [insP]
  | b :: r => by
    unfold insP
    split
    · simp
    · split
      · simp
      · have := insP_len a r; simp; omega
theorem sortP_len : ∀ l, (sortP l).length ≤ l.length
  | [] => by simp [sortP]
  | a :: l => by
    have h1 := insP_len a (sortP l)
    have h2 := sortP_len l
    show (insP a (sortP l)).length ≤ _
    simp only [List.length_cons]; omega
theorem rows_few {ks : Rows Key} {ps : List NT} (pr : ∀ p ∈ ks, IsPair p) (e : ks.map pk = ps) (h : (sortP ps).length < 1999) : Few ks := by
  intro L nd hs
  have nd2 : (L.map pk).Nodup := by
    rw [List.Nodup, List.pairwise_map] at nd ⊢
    refine nd.imp_of_mem fun {a b} ha hb hab z => hab ?_
    obtain ⟨i, x, ea⟩ := pr a (hs a ha)
    obtain ⟨j, y, eb⟩ := pr b (hs b hb)
    have f1 : pk a = (i, x) := by unfold pk; rw [ea]
    have f2 : pk b = (j, y) := by unfold pk; rw [eb]
    rw [f1, f2] at z
    cases z
    rw [ea, eb]
  have := sub_len (L.map pk) (sortP ps) nd2 fun x hx => by
    obtain ⟨p, hp, rfl⟩ := List.mem_map.mp hx
    rw [mem_sortP, ← e]
    exact List.mem_map.mpr ⟨p, hs p hp, rfl⟩
  rw [List.length_map] at this
  omega
theorem pairs_rows {K : KW} {F : Hp} : ∀ {ds : List PyData} {ps : List NT} {vs : List V}, pairsOf ds = some ps → RpAll K F vs ds →
    ∃ ks : Rows Key, vs = (ks.map fun p => V.ref p.1) ∧ ks.map pk = ps ∧ ks.length = ps.length ∧ (∀ p ∈ ks, IsPair p) ∧ ∀ p ∈ ks, SqT K F p.1 [.int (pk p).1, .str (pk p).2] ∧ (pk p).2.length ≤ sizeLine
  | [], _, _, h, .nil => by cases h; exact ⟨[], rfl, rfl, rfl, by simp, by simp⟩
  | d :: ds, ps, _, h, .cons a r => by
    unfold pairsOf at h
    split at h
    · rename_i e; cases e
    · rename_i i x r' e
      cases e
      obtain ⟨ps', h1, rfl⟩ := Option.map_eq_some_iff.mp h
      obtain ⟨ks, e1, e2, e3, e4, e5⟩ := pairs_rows h1 r
      cases a with
      | tup hs ha =>
        rename_i b xs
        cases ha with
        | cons u1 u2 =>
          cases u2 with
          | cons u3 u4 =>
            cases u4
            cases u1
            cases u3 with
            | str _ hx =>
            refine ⟨(b, [.inl i, .inr x]) :: ks, by rw [e1]; rfl, by rw [List.map_cons, e2]; rfl, by simp [e3], ?_, ?_⟩
            · intro p hp
              rcases List.mem_cons.mp hp with rfl | hp
              · exact ⟨i, x, rfl⟩
              · exact e4 p hp
            · intro p hp
              rcases List.mem_cons.mp hp with rfl | hp
              · exact ⟨hs, hx⟩
              · exact e5 p hp
    · cases h
theorem row_key {X : Cx} {pins : List (Addr × Obj)} {σ : L2.St} {H : Hp} {s : Shared} {p : Addr × List Key} (I : L2.Inv X pins σ H s) (hp : IsPair p) (h : SqT X.KW H p.1 [.int (pk p).1, .str (pk p).2]) : IsTupleKey (mixKind X.prog X.w) s.heap p.2 p.1 := by
  obtain ⟨its, r, ⟨o, ho, hc, n, hd⟩, _⟩ := I.tuple h
  obtain ⟨i, x, e⟩ := hp
  have f : pk p = (i, x) := by unfold pk; rw [e]
  rw [f] at r
  refine ⟨o, its.toArray, n, ho, hc, hd, ?_⟩
  rw [e, List.toList_toArray]
  cases r with
  | cons r1 r2 =>
    cases r2 with
    | cons r3 r4 =>
      cases r4
      obtain ⟨t1, rfl⟩ := r1
      obtain ⟨t2, rfl⟩ := r3
      exact .cons (by simp [mixKind, keyIs, Value.isInt]) (.cons (by simp [mixKind, keyIs, Value.isStrOf]) .nil)
section
variable {X : Cx} {W : WX} {pos : Pos}
def tSortSet (K : KW) (ta : TE) : TE := fun σ H Q => ta σ H fun x H1 => ∃ F d z, Same F H1 ∧ Rp K F x d ∧ oSortSet d = some z ∧ ∀ F' H' v, Grow F H1 F' H' → Rp K F' v z → Q v H'
theorem pe_sortSet {a : Expr} {ta : TE} {p p2 q : Pos} (hc : X.calm = true) (hu : X.A.units + 64 < cLine) (hg : Gl X "sorted") (hm : X.mg "sorted" = none) (hg2 : Gl X "set") (hm2 : X.mg "set" = none) (ha : PE X a ta)
    (na : starEach [a] X.env = (false, eval a X.env) :: starEach [] X.env := by rfl) : PE X (.Call (.Name "sorted" p) [.Call (.Name "set" p2) [a] [] q] [] pos) (tSortSet X.KW ta) := by
  constructor
  intro pins s σ H Q I h
  refine Call_ (ld_blt I hg hm PyProof.Rows.boot_sorted (PyProof.Rows.callWith_builtin1 (PyProof.Rows.args_cons ?_ rfl) rfl rfl))
  refine Call_ (ld_blt I hg2 hm2 PyProof.Rows.boot_set ?_)
  refine PyProof.Rows.callWith_type1 (PyProof.Rows.args_cons (thn (ha.run pins s σ H _ I h) fun v s1 ⟨x, H1, I1, r1, q1⟩ => PyProof.Rows.args_nil ?_) na) na rfl
  obtain ⟨F, d, z, e, rp, ho, q1⟩ := q1
  unfold oSortSet at ho
  split at ho
  · rename_i xs
    obtain ⟨ps, hps, ho⟩ := Option.bind_eq_some_iff.mp ho
    split at ho
    · rename_i few
      cases ho
      cases rp with
      | lst hs ra =>
        cases r1
        obtain ⟨its, rv, pl, hz⟩ := I1.list (e.seq hs)
        obtain ⟨ks, e1, e2, e3, e4, e5⟩ := pairs_rows hps ra
        have keys : ∀ p ∈ ks, IsTupleKey (mixKind X.prog X.w) s1.heap p.2 p.1 := fun p hp => row_key I1 (e4 p hp) (sqT_mono e (e5 p hp).1)
        have refs : ∀ {us : List Value} {l : Rows Key}, Vals (l.map fun p => V.ref p.1) us → us = l.map fun p => Value.ref p.1 := by
          intro us l
          induction l generalizing us with
          | nil => intro r; cases r; rfl
          | cons p l ih =>
            intro r
            cases r with
            | cons r1 r2 =>
              cases r1
              rw [ih r2]
              rfl
        rw [e1] at rv
        refine call_set still_mix ks (I1.ok.hd hc) pl.isList (by simpa using refs rv) keys (rows_few e4 e2 few) (by omega) fun h' tk L es ep t R g k => ?_
        apply PyProof.Rows.args_nil
        have inL : ∀ p ∈ L, p ∈ ks := fun p hp => List.mem_of_mem_take (g.sub p hp)
        refine call_sorted (s := { s1 with heap := h', toks := tk }) R (fun p hp => e4 p (inL p hp)) (I1.ok.hd hc) (by omega) fun s' a out c M k2 gg oo ha2 hat hout pm => ?_
        have inM : ∀ p ∈ M.mergeSort (dataLe false rowD), p ∈ ks := fun p hp => inL p (pm.mem_iff.mp ((List.mergeSort_perm _ _).mem_iff.mp hp))
        have ord := sorted_rows (fun p hp => e4 p (inL p hp)) pm R.nd ps fun y => by
          rw [← e2]
          constructor
          · intro hy
            obtain ⟨p, hp, rfl⟩ := List.mem_map.mp hy
            exact List.mem_map.mpr ⟨p, inL p hp, rfl⟩
          · intro hy
            obtain ⟨p, hp, rfl⟩ := List.mem_map.mp hy
            obtain ⟨q, hq, eq⟩ := List.mem_map.mp (g.all p (by rw [List.take_length]; exact hp))
            exact List.mem_map.mpr ⟨q, hq, by unfold pk; rw [eq]⟩
        have up : s1.heap.objs.size ≤ a := by
          obtain ⟨o, ho, _⟩ := R.ob
          exact Nat.le_trans (Nat.le_of_lt (Heap.lt_size ho)) ha2
        have na : H1 a = none := I1.hok.fresh up
        have kk : ∀ b o, s1.heap.get? b = some o → s'.heap.get? b = some o := fun b o w => k2 b o (k b o w)
        have lenM : (M.mergeSort (dataLe false rowD)).length < 2000 := by rw [(List.mergeSort_perm _ _).length_eq, pm.length_eq]; exact R.few
        have valsM : ∀ l : Rows Key, Vals (l.map fun p => V.ref p.1) (l.map fun p => Value.ref p.1) := fun l => by
          induction l with
          | nil => exact .nil
          | cons p l ih => exact .cons rfl ih
        have J : L2.Inv X pins σ (upd H1 a (.lst ((M.mergeSort (dataLe false rowD)).map fun p => V.ref p.1))) s' :=
          I1.call' (ch := []) oo (Un.laid kk up na) (I1.hok.laid kk up ⟨by rw [List.length_map, sizeLine_eq]; omega, out.toList, c, by rw [hout]; exact valsM _, hat⟩) (by rw [gg]; exact I1.bare) (fun _ z => nomatch z)
        have all : ∀ l : Rows Key, (∀ p ∈ l, p ∈ ks) → RpAll X.KW F (l.map fun p => V.ref p.1) ((l.map pk).map pairD) := fun l => by
          induction l with
          | nil => intro _; exact .nil
          | cons p l ih =>
            intro hl
            obtain ⟨w1, w2⟩ := e5 p (hl p (by simp))
            exact .cons (.tup w1 (.cons (.int _) (.cons (.str _ w2) .nil))) (ih fun q hq => hl q (by simp [hq]))
        have ra2 := all _ inM
        rw [ord] at ra2
        have gr := Grow.laid (o := .lst ((M.mergeSort (dataLe false rowD)).map fun p => V.ref p.1)) e na
        exact ⟨.ref a, _, J, rfl, q1 _ _ _ gr (.lst (.of upd_same) (ra2.mono gr.sub))⟩
    · cases ho
  · cases ho
theorem de_sortSet {a : Expr} {f : Mo PyData} {p p2 q : Pos} (hc : X.calm = true) (hu : X.A.units + 64 < cLine) (hg : Gl X "sorted") (hm : X.mg "sorted" = none) (hg2 : Gl X "set") (hm2 : X.mg "set" = none) (ha : DE X W a f)
    (na : starEach [a] X.env = (false, eval a X.env) :: starEach [] X.env := by rfl) : DE X W (.Call (.Name "sorted" p) [.Call (.Name "set" p2) [a] [] q] [] pos) (bnd f fun d δ => Res.of (oSortSet d) δ) := by
  obtain ⟨ta, pa, qa⟩ := ha
  refine ⟨_, pe_sortSet hc hu hg hm hg2 hm2 pa na, fun σ H F δ fp Q s h => qa σ H F δ fp _ s ((RPost.bind h).imp fun d δ1 F1 H1 fp1 e1 s1 h1 v rv => ?_)⟩
  obtain ⟨z, ez, h2⟩ := RPost.of h1
  exact ⟨F1, d, z, s1.inn, rv, ez, fun F' H' v' g r => h2 F' H' fp1 g.ext (s1.grow g) v' r⟩
end
end DL
namespace DL
open PySem PySem.Spec PyProof.Rows L2 PySem.W
section
variable {X : Cx} {pins : List (Addr × Obj)} {σ : L2.St} {H : Hp} {s : Shared}
/-- a name of its own, read: nothing changes -/
theorem ld_var {i : Nat} {x : Str} {pos : Pos} {v : V} {Q : Value → Shared → Prop} {E : Value → Shared → Prop} (I : L2.Inv X pins σ H s) (hN : X.N[i]? = some x) (hv : Vis X.env.scope x) (e : σ[i]? = some (some v)) (h : ∀ u, RelV v u → Q u s)
    (hd : (x == ("__debug__" : Str)) = false := by decide) (hcd : (x == ("__classdict__" : Str)) = false := by decide) : wpAny (model X.prog X.w) X.A (eval (.Name x pos) X.env) Q E s := by
  obtain ⟨m, hn, hl⟩ := I.loc
  obtain ⟨u, r, l⟩ := hl i x v hN e hv
  have fin := h u r
  rcases l with ⟨hk, hm⟩ | ⟨hk, c, hc, hcell⟩
  · exact wpAny_Name (wpAny_loadName_local I.ok.kind hk hn hm fin) hd
  · rcases hk with hk | hk
    · exact wpAny_Name (wpAny_loadName_cell I.ok.kind hk hc hcell fin) hd
    · exact wpAny_Name (wpAny_loadName_free I.ok.kind hk hc hcell fin hcd) hd
theorem ld_pair {i : Nat} {n : Str} {p1 p2 p3 p4 pos : Pos} {x1 : Nat} {z : Str} {E : Value → Shared → Prop} (I : L2.Inv X pins σ H s) (hN : X.N[i]? = some n) (hv : Vis X.env.scope n) (e : σ[i]? = some (some (.str z))) (hz : z.length ≤ sizeLine)
    (hg : Gl X "len") (hm : X.mg "len" = none) (hd : (n == ("__debug__" : Str)) = false := by decide) (hcd : (n == ("__classdict__" : Str)) = false := by decide) :
    wpAny (model X.prog X.w) X.A (eval (.Tuple [.Call (.Name "len" p1) [.Name n p2] [] p3, .Name n p4] x1 pos) X.env)
      (fun v s' => ∃ tk h', s' = { s with heap := h', toks := tk } ∧ (∀ b o, s.heap.get? b = some o → h'.get? b = some o) ∧ Reads h' v (.tuple [.int z.length, .str z]) []) E s := by
  have fit : ¬ (z.length : Int) ≥ 2 ^ 63 := by rw [sizeLine_eq] at hz; omega
  refine wpAny_Tuple_spliced (show wpAny _ _ (spliced ((false, eval (.Call (.Name "len" p1) [.Name n p2] [] p3) X.env) :: backTo pos (starEach [.Name n p4] X.env))) _ _ s from ?_)
  apply Calls.spliced_cons
  refine Call_ (ld_blt I hg hm PySem.boot_len ?_)
  refine PyProof.Rows.callWith_builtin1 (PyProof.Rows.args_cons (ld_var I hN hv e (fun u r => ?_) hd hcd) rfl) rfl rfl
  apply PyProof.Rows.args_nil
  obtain ⟨t, rfl⟩ := r
  apply PySem.P.len_str fit
  show wpAny _ _ (spliced ((false, eval (.Name n p4) X.env) :: backTo pos (starEach [] X.env))) _ _ _
  apply Calls.spliced_cons
  have I2 : L2.Inv X pins σ H { s with toks := s.toks + 1 + 1 } := (I.tok _)
  refine ld_var I2 hN hv e (fun u r => ?_) hd hcd
  obtain ⟨t2, rfl⟩ := r
  apply Calls.spliced_nil
  refine ⟨by rw [sizeLine_eq]; simp, s.toks + 1 + 1, _, rfl, fun b o q => Heap.get?_push_of_some _ q, ?_⟩
  exact Reads.tuple (as := []) (Heap.get?_push_size _ rfl) rfl rfl (ReadsAll.cons (as := []) (bs := []) (.int _ _) (ReadsAll.cons (as := []) (bs := []) (.str _ _) .nil))
/-- a def `return (len(n), n)`, called while a list is sorted: all that was there stays as it is -/
theorem key_call {A' : Around} {k : Nat} {f : Addr} {fd : FuncData} {x qual n : Str} {params : Arguments} {scope : Scope} {p1 p2 p3 p4 p5 p6 : Pos} {x1 : Nat} {z : Str} {t : Tok}
    (F : FunD X.K x qual params [.Return (some (.Tuple [.Call (.Name "len" p1) [.Name n p2] [] p3, .Name n p4] x1 p5)) p6] scope [] [] f fd) (S : FnScope [n] [n] scope)
    (hB : ∀ (s : Shared) (us : List Value), us.length = 1 → BindsTo s fd ⟨us, []⟩ ([n].zip us)) (hm : X.mg "len" = none) (hgl : ∀ cd A outer s H E, Gl (cxG X.prog X.w X.K X.mg X.base [n] qual scope f cd A outer s H E) "len") (hvis : Vis scope n)
    (hr : Room k A') (hf : A'.frames = X.A.frames) (hz : z.length ≤ sizeLine) (I : L2.Inv X pins σ H s) (hd : (n == ("__debug__" : Str)) = false := by decide) (hcd : (n == ("__classdict__" : Str)) = false := by decide) :
    wpAny (model X.prog X.w) A' (call (.ref f) [.str z t]) (KeyPure (.tuple [.int z.length, .str z]) s) (fun _ _ => False) s := by
  have e1 := I.env0
  have e0 : Env0 X.prog X.w X.K X.mg X.base A' X.stack s H := ⟨hf.trans e1.frames, e1.mod, e1.bs, e1.bsz, e1.funs, e1.frf, e1.hok, e1.bare⟩
  obtain ⟨oc, od, dV, kV, doc, pm, an, cdv, ct, osl, rfl, lk, hcode, _, _⟩ := F.ex
  have keep0 : ∀ b o, X.base.get? b = some o → s.heap.get? b = some o := fun b o e => (e0.bs b o e).1
  have inK : X.K.In s.heap := e0.mod.kin.keeps keep0
  apply wpAny_call
  refine codeAny_call_function hr.depth (inK _ _ lk) rfl S.co S.gen rfl (PySem.W.codeRec_of inK hcode) (hB s [.str z t] rfl _ _ _ _ ?_)
  have par : ∀ y ∈ [n].zip [Value.str z t], scope.names.lookup y.1 = some .local ∨ (scope.names.lookup y.1 = some .cell ∧ ((cellsFrom (s.heap.objs.size + 1) scope.names []).lookup y.1).isSome = true) := by
    rintro ⟨m, v⟩ hy
    exact (S.par m (List.of_mem_zip hy).1).imp id fun q => ⟨q, PySem.W.cellsFrom_some _ _ _ (.inl q)⟩
  apply wpAny_newFunctionEnv_cells S.kind par
  intro env he s1 ic
  subst he
  refine ⟨(e0.mod.nolimit.keeps keep0).keeps ic.toInCall.keep, codeAny_func ?_⟩
  have J : L2.Inv (cxG X.prog X.w X.K X.mg X.base [n] qual scope f cdv A' X.stack s H (fun _ _ _ => False)) [] (start [n] [.str z]) H s1 := inv_start S hr.hd e0 rfl (.cons ⟨t, rfl⟩ .nil) ic
  obtain ⟨h1, tk1, rfl, kp1⟩ := ic.done
  apply wpAny_execs_cons
  apply wpAny_Return_some
  refine wpAny_mono (ld_pair (i := 0) J rfl hvis rfl hz (hgl _ _ _ _ _ _) hm hd hcd) (fun v s2 hv => ?_) fun _ _ q => q
  obtain ⟨tk, h2, rfl, kp2, rd⟩ := hv
  exact ⟨h2, tk, rfl, fun b o q => kp2 b o (ic.toInCall.keep b o q), rd⟩
/-- what place_of gives -/
abbrev lenKey (z : Str) : PyData := .tuple [.int z.length, .str z]
theorem strs_each {vs : List Value} : ∀ {ks : List Str}, StrsAre vs ks → EachIs (fun (v : Value) (z : Str) => ∃ t, v = .str z t) vs ks := by
  intro ks h
  induction h with
  | nil => exact .nil
  | cons x t r ih => exact .cons ⟨t, rfl⟩ ih
theorem each_vals : ∀ {vs : List Value} {ks : List Str}, EachIs (fun (v : Value) (z : Str) => ∃ t, v = .str z t) vs ks → Vals (ks.map V.str) vs
  | _, _, .nil => .nil
  | _, _, .cons h r => .cons h (each_vals r)
def rSortKey (f : Addr) : List V → List V → Hp → VK → Prop := fun xs zs H Q => ∃ (a : Addr) (kvs : List (Key × V)) (ks : List Str), xs = [.ref a] ∧ zs = [.ref f] ∧ Rd H a (.dK kvs) ∧ kvs.map (·.1) = ks.map Sum.inr ∧ ks.length ≤ 1000000 ∧ (∀ z ∈ ks, z.length ≤ sizeLine) ∧
  ∀ p, H p = none → Q (.ref p) (upd H p (.lst ((ks.mergeSort (dataLe false lenKey)).map V.str)))
theorem cr_sortKey {k : Nat} {f : Addr} {fd : FuncData} {x qual n : Str} {params : Arguments} {scope : Scope} {p1 p2 p3 p4 p5 p6 : Pos} {x1 : Nat} (hcalm : X.calm = true) (hu : X.A.units + 64 < cLine)
    (F : FunD X.K x qual params [.Return (some (.Tuple [.Call (.Name "len" p1) [.Name n p2] [] p3, .Name n p4] x1 p5)) p6] scope [] [] f fd) (S : FnScope [n] [n] scope)
    (hB : ∀ (s : Shared) (us : List Value), us.length = 1 → BindsTo s fd ⟨us, []⟩ ([n].zip us)) (hm : X.mg "len" = none) (hgl : ∀ cd A outer s H E, Gl (cxG X.prog X.w X.K X.mg X.base [n] qual scope f cd A outer s H E) "len") (hvis : Vis scope n)
    (hr : Room k X.A.in1.in1) (hd : (n == ("__debug__" : Str)) = false := by decide) (hcd : (n == ("__classdict__" : Str)) = false := by decide) : CallRK X (.builtin "sorted") [Str.ofString "key"] (rSortKey f) := by
  intro pins s σ H xs zs us ws Q I r r2 q
  obtain ⟨a, kvs, ks, rfl, rfl, had, hks, few, fit, q⟩ := q
  obtain ⟨u, rfl, rx⟩ := vals1 r
  cases rx
  obtain ⟨u2, rfl, rx2⟩ := vals1 r2
  cases rx2
  obtain ⟨z, lo, vs, rel, dd⟩ := dk_rd I.hok had
  obtain ⟨ep, hat⟩ := dd.dictAt
  have hkeys : vs.map (·.1) = ks.map Sum.inr := rel.keys.symm.trans hks
  have hl : vs.length = ks.length := by
    have e := congrArg List.length hkeys
    rwa [List.length_map, List.length_map] at e
  have h16 : vs.length ≤ sizeLine := by rw [hl, sizeLine_eq]; omega
  show wpAny _ _ (call (.builtin "sorted") [.ref a] [(Str.ofString "key", .ref f)]) _ _ s
  refine call_function_entry_kw PyProof.Rows.kind_sorted PyProof.Rows.plain_sorted PyProof.Rows.entry_sorted (ksk_s1 _ _) ?_
  unfold Builtin.«sorted»
  apply wpAny_bind (m := checkCount "sorted" 1 1 _)
  apply wpAny_pure
  apply wpAny_bind
  apply PySem.W.kdu_collect (A := X.A.in1) (PySem.W.kdl_dict (knd := mixKind X.prog X.w) (kvs := vs) (ep := ep) lo) (I.ok.hd hcalm) hat h16
  intro h' tk acc hk hacc
  have hal : acc.toList.length = ks.length := by rw [Array.length_toList, hacc.1, hl]
  have hS : StrsAre acc.toList ks := strs_at hal fun j v e => by
    obtain ⟨y, v0, e1, e2⟩ := hacc.2 j v (by rw [← Array.getElem?_toList]; exact e)
    have e3 : (vs.map (·.1))[j]? = some y := by rw [List.getElem?_map, e1]; rfl
    rw [hkeys, List.getElem?_map] at e3
    cases e4 : ks[j]? with
    | none => rw [e4] at e3; cases e3
    | some w =>
      rw [e4] at e3
      obtain rfl : Sum.inr w = y := Option.some.inj e3
      obtain ⟨t, ev⟩ := Value.isStrOf_shape (x := w) (v := v) e2
      exact ⟨w, t, rfl, ev⟩
  have I1 : L2.Inv X pins σ H { s with heap := h', toks := tk } := I.kept hk
  apply wpAny_bind
  refine wpAny_newList ?_ (by rw [hal, sizeLine_eq]; omega)
  have hoL : (h'.push (seqObj "list" acc.toList.toArray 0)).get? h'.objs.size = some (seqObj "list" acc.toList.toArray 0) := Heap.get?_push_size _ rfl
  show wpAny _ _ _ _ _ { s with heap := h'.push (seqObj "list" acc.toList.toArray 0), toks := tk }
  apply wpAny_bind
  apply wpAny_holding
  refine wpAny_call_entry_kw PyProof.Rows.slot_list_sort ⟨_, hoL, rfl⟩ PyProof.Rows.entry_list_sort ?body (ksk_l1 _ _)
  case body =>
    have under : ∀ {g : Heap}, KeepsBut h'.objs.size (h'.push (seqObj "list" acc.toList.toArray 0)) g → ∀ b o, h'.get? b = some o → g.get? b = some o := by
      intro g kb b o e
      exact kb b o (Nat.ne_of_lt (Heap.lt_size e)) (Heap.get?_push_of_some _ e)
    rw [ksk_t1]
    refine keyH_tree (b := false) (kz := ks.map lenKey) (vs := acc.toList) (s := { s with heap := h'.push (seqObj "list" acc.toList.toArray 0), toks := tk }) hoL (by rw [List.length_map, hal]) (by rw [hal, sizeLine_eq]; omega)
      (AllAlike.of fun _ _ => by simp [alike, alikeAll]) (Sortable.tuples fun _ => ⟨_, _, rfl⟩) (fun d hd => ?_) (keyH_turns (k := lenKey) (s := { s with heap := h'.push (seqObj "list" acc.toList.toArray 0), toks := tk }) (strs_each hS) fun v w hv hw g tk2 kb => ?_) fun h2 tk2 out c kb hD ko => ?_
    · obtain ⟨w, _, rfl⟩ := List.mem_map.mp hd
      have : (lenKey w).depth = 1 := by simp [PyData.depth, PyData.depthAll]
      show X.A.units + 1 + 1 + _ < cLine
      omega
    · obtain ⟨t, rfl⟩ := hv
      exact key_call F S hB hm hgl hvis hr rfl (fit w hw) (I1.kept (t' := tk2) (under kb)) hd hcd
    · have eo := keyedOut_each lenKey ko (strs_each hS)
      have lo2 : ((ks.mergeSort (dataLe false lenKey)).map V.str).length ≤ sizeLine := by
        rw [List.length_map, (List.mergeSort_perm _ _).length_eq, sizeLine_eq]
        omega
      refine ⟨_, rfl, wpAny_pure ⟨_, rfl, .ref h'.objs.size, upd H h'.objs.size (.lst ((ks.mergeSort (dataLe false lenKey)).map V.str)), ?_, rfl, q _ (I1.hok.fresh (Nat.le_refl _))⟩⟩
      exact I1.laid (t' := tk2) (under kb) (Nat.le_refl _) ⟨lo2, out, c, each_vals eo, hD⟩
end
end DL
namespace DL
open PySem PySem.Spec PyProof.Rows L2 PySem.W
theorem lt_nt (j i : Int) (y x : Str) : dataLt (.tuple [.int j, .str y]) (.tuple [.int i, .str x]) = decide (ltP (j, y) (i, x)) := by
  rw [dataLt_pair (by simp [alike]) (by simp [alike]), dataLt_int, dataLt_str]
  have c1 : PyData.eqv (.int j) (.int i) = decide (j = i) := by simp only [PyData.eqv]; by_cases z : j = i <;> simp [z]
  have c2 : PyData.eqv (.str y) (.str x) = decide (y = x) := by simp only [PyData.eqv]; by_cases z : y = x <;> simp [z]
  simp only [c1, c2, decide_eq_true_eq]
  by_cases h : j = i
  · subst h
    by_cases k : y = x
    · subst k
      have n : ¬ ltP (j, y) (j, y) := ltP_irrefl _
      simp [n]
    · simp [k, ltP]
  · simp [ltP, h]
abbrev lenP (z : Str) : NT := ((z.length : Int), z)
theorem sort_lenKey {ks : List Str} (nd : ks.Nodup) : ks.mergeSort (dataLe false lenKey) = (sortP (ks.map lenP)).map (·.2) := by
  have e : (ks.mergeSort (dataLe false lenKey)).map lenP = sortP (ks.map lenP) := by
    refine sorted_one ?_ (sortP_sorted _) fun x => ?_
    · have tot : (ks.mergeSort (dataLe false lenKey)).Pairwise fun a b => dataLe false lenKey a b = true := sort_pairwise (sortLe_total _ _ _) ks
      have nd2 : (ks.mergeSort (dataLe false lenKey)).Pairwise fun a b => a ≠ b := (List.mergeSort_perm ks _).nodup_iff.mpr nd
      refine List.pairwise_map.mpr ((tot.and nd2).imp fun {a b} hab => ?_)
      have h1 : (!dataLt (lenKey b) (lenKey a)) = true := hab.1
      rw [lt_nt] at h1
      have h1 : ¬ ltP (lenP b) (lenP a) := by simpa using h1
      rcases ltP_tri (lenP a) (lenP b) with z | z | z
      · exact z
      · exact absurd (congrArg Prod.snd z) hab.2
      · exact absurd z h1
    · rw [mem_sortP]
      exact ((List.mergeSort_perm ks _).map lenP).mem_iff
  rw [← e, List.map_map]
  have : ((fun x : NT => x.2) ∘ lenP) = id := rfl
  rw [this, List.map_id]
/-- a dict's keys, all texts -/
def textKeys : List (PyData × PyData) → Option (List Str)
  | [] => some []
  | (.str z, _) :: r => (textKeys r).map (z :: ·)
  | _ => none
/-- sorted(d, key=place_of) -/
def oSortKey : PyData → Option PyData
  | .dict kvs => (textKeys kvs).bind fun ks => if ks.Nodup ∧ ks.length ≤ 1000000 ∧ (∀ z ∈ ks, z.length ≤ 16777216) then some (.list ((sortP (ks.map lenP)).map fun p => .str p.2)) else none
  | _ => none
theorem textKeys_kv {K : KW} {F : Hp} : ∀ {kvs : List (Key × V)} {ds : List (PyData × PyData)}, RpKV K F kvs ds → ∀ ks : List Str, textKeys ds = some ks → kvs.map (·.1) = ks.map Sum.inr
  | _, _, .nil, ks, h => by cases h; rfl
  | _, _, .cons (k := k) a b, ks, h => by
    cases k with
    | inl i => cases h
    | inr z =>
      obtain ⟨ks', h1, rfl⟩ := Option.map_eq_some_iff.mp (show (textKeys _).map (z :: ·) = some _ from h)
      rw [List.map_cons, textKeys_kv b ks' h1]
      rfl
theorem textKeys_plain : ∀ {kvs : List (PyData × PyData)} {ks : List Str}, textKeys kvs = some ks → (kvs.all fun p => plainKey p.1) = true
  | [], _, _ => rfl
  | (.str z, d) :: r, ks, h => by
    obtain ⟨ks', h1, rfl⟩ := Option.map_eq_some_iff.mp (show (textKeys r).map (z :: ·) = some _ from h)
    rw [List.all_cons, textKeys_plain h1]
    rfl
  | (.none, _) :: _, _, h => by cases h
  | (.bool _, _) :: _, _, h => by cases h
  | (.int _, _) :: _, _, h => by cases h
  | (.list _, _) :: _, _, h => by cases h
  | (.tuple _, _) :: _, _, h => by cases h
  | (.dict _, _) :: _, _, h => by cases h
theorem strs_rp {K : KW} {F : Hp} : ∀ {zs : List Str}, (∀ z ∈ zs, z.length ≤ sizeLine) → RpAll K F (zs.map V.str) (zs.map PyData.str)
  | [], _ => .nil
  | z :: zs, h => .cons (.str z (h z (by simp))) (strs_rp fun w hw => h w (by simp [hw]))
section
variable {X : Cx} {W : WX} {pos : Pos}
theorem de_sortKey {f : Addr} {kx : Str} {e : Expr} {g : DL.Env → Option PyData} {p q pk : Pos} (hc : CallRK X (.builtin "sorted") [Str.ofString "key"] (rSortKey f)) (hg : Gl X "sorted") (hm : X.mg "sorted" = none) (hk : Gl X kx) (hkm : X.mg kx = some (.ref f)) (hp : DPl X e g)
    (hkd : (kx == ("__debug__" : Str)) = false := by decide) (na : starEach [e] X.env = (false, eval e X.env) :: starEach [] X.env := by rfl) (na2 : backTo pos (starEach [e] X.env) = (false, eval e X.env) :: backTo pos (starEach [] X.env) := by rfl) (hpl : (backTo pos (starEach [e] X.env)).any (·.1) = false := by rfl)
    (hks : (backToKw pos (keywordEach [⟨some (Str.ofString "key"), .Name kx pk, q⟩] X.env)).filterMap (·.1) = [Str.ofString "key"] := by rfl) :
    DE X W (.Call (.Name "sorted" p) [e] [⟨some (Str.ofString "key"), .Name kx pk, q⟩] pos) (fun δ => Res.of ((g δ).bind oSortKey) δ) := by
  obtain ⟨t, pt, qt⟩ := hp
  refine ⟨_, pe_callBK hc hg hm PyProof.Rows.boot_sorted (pa_cons pt pa_nil na) (pk_cons (pe_glob (v := .ref f) hk hkm rfl hkd) pk_nil) (he := na2) (hpl := hpl) (hks := hks), fun σ H F δ fp Q s h => ?_⟩
  obtain ⟨z, ez, h2⟩ := RPost.of h
  obtain ⟨d, eg, ez⟩ := Option.bind_eq_some_iff.mp ez
  refine qt σ H F δ fp _ s ⟨d, eg, fun v hv => ?_⟩
  unfold oSortKey at ez
  split at ez
  · rename_i kvs
    obtain ⟨ks, hks2, ez⟩ := Option.bind_eq_some_iff.mp ez
    split at ez
    · rename_i cond
      cases ez
      obtain ⟨a, kv, rfl, ha, rk⟩ := hv.dict s.inn (textKeys_plain hks2)
      refine ⟨a, kv, ks, rfl, rfl, .of ha, textKeys_kv rk ks hks2, cond.2.1, fun z hz => by rw [sizeLine_eq]; exact cond.2.2 z hz, fun p hp => ?_⟩
      have gr := Grow.laid (o := .lst ((ks.mergeSort (dataLe false lenKey)).map V.str)) s.inn hp
      refine h2 _ _ _ gr.ext (s.grow gr) _ (.lst (.of upd_same) ?_)
      rw [sort_lenKey cond.1]
      have e2 : (sortP (ks.map lenP)).map (fun p => PyData.str p.2) = ((sortP (ks.map lenP)).map (·.2)).map PyData.str := by rw [List.map_map]; rfl
      rw [e2]
      refine strs_rp fun z hz => ?_
      obtain ⟨p, hp, rfl⟩ := List.mem_map.mp hz
      obtain ⟨w, hw, rfl⟩ := List.mem_map.mp ((mem_sortP _ _).mp hp)
      rw [sizeLine_eq]
      exact cond.2.2 w hw
    · cases ez
  · cases ez
end
end DL
namespace DL
open PySem PySem.Spec PyProof.Rows L2
/-! ### {k: v for target in iter} -/
abbrev KvD := List (Key × PyData)
abbrev kd (p : Key × PyData) : PyData × PyData := (keyD p.1, p.2)
def putKD (kvs : KvD) (k : Key) (d : PyData) : KvD := if (kvs.any fun p => decide (p.1 = k)) = true then kvs.map (fun p => if p.1 = k then (p.1, d) else p) else kvs ++ [(k, d)]
theorem keyD_inj {a b : Key} (h : keyD a = keyD b) : a = b := by
  cases a <;> cases b <;> simp [keyD] at h <;> simp [h]
theorem keys_inj : ∀ {vs : List (Key × V)} {acc : KvD}, (vs.map fun p => keyD p.1) = (acc.map fun p => keyD p.1) → vs.map (·.1) = acc.map (·.1)
  | [], [], _ => rfl
  | [], _ :: _, h => by simp at h
  | _ :: _, [], h => by simp at h
  | p :: vs, q :: acc, h => by
    simp only [List.map_cons, List.cons.injEq] at h ⊢
    exact ⟨keyD_inj h.1, keys_inj h.2⟩
theorem kv_keys {K : KW} {F : Hp} {vs : List (Key × V)} {acc : KvD} (h : RpKV K F vs (acc.map kd)) : vs.map (·.1) = acc.map (·.1) := by
  apply keys_inj
  have := h.fst
  rwa [List.map_map] at this
theorem kv_cons {K : KW} {F : Hp} {k : Key} {v : V} {d : PyData} {vs : List (Key × V)} {acc : KvD} (a : Rp K F v d) (b : RpKV K F vs (acc.map kd)) : RpKV K F ((k, v) :: vs) (((k, d) :: acc).map kd) := .cons a b
theorem kv_map {K : KW} {F : Hp} {k : Key} {v : V} {d : PyData} (r : Rp K F v d) : ∀ {vs : List (Key × V)} {acc : KvD}, RpKV K F vs (acc.map kd) → RpKV K F (vs.map fun p => if p.1 = k then (p.1, v) else p) ((acc.map fun p => if p.1 = k then (p.1, d) else p).map kd)
  | [], [], _ => .nil
  | [], _ :: _, h => nomatch h
  | _ :: _, [], h => nomatch h
  | (j, w) :: vs, (i, e) :: acc, h => by
    have hk := kv_keys h
    simp only [List.map_cons, List.cons.injEq] at hk
    obtain ⟨rfl, _⟩ := hk
    have ha : Rp K F w e := by
      cases h with
      | cons a b => exact a
    have hb : RpKV K F vs (acc.map kd) := by
      cases h with
      | cons a b => exact b
    rw [List.map_cons, List.map_cons]
    by_cases c : j = k
    · simp only [c, if_true]; exact kv_cons r (kv_map r hb)
    · simp only [c, if_false]; exact kv_cons ha (kv_map r hb)
theorem kv_app {K : KW} {F : Hp} {k : Key} {v : V} {d : PyData} (r : Rp K F v d) : ∀ {vs : List (Key × V)} {acc : KvD}, RpKV K F vs (acc.map kd) → RpKV K F (vs ++ [(k, v)]) ((acc ++ [(k, d)]).map kd)
  | [], [], _ => .cons r .nil
  | [], _ :: _, h => nomatch h
  | _ :: _, [], h => nomatch h
  | (j, w) :: vs, (i, e) :: acc, h => by
    have hk := kv_keys h
    simp only [List.map_cons, List.cons.injEq] at hk
    obtain ⟨rfl, _⟩ := hk
    have ha : Rp K F w e := by
      cases h with
      | cons a b => exact a
    have hb : RpKV K F vs (acc.map kd) := by
      cases h with
      | cons a b => exact b
    exact kv_cons ha (kv_app r hb)
theorem kv_put {K : KW} {F : Hp} {k : Key} {v : V} {d : PyData} (r : Rp K F v d) {vs : List (Key × V)} {acc : KvD} (h : RpKV K F vs (acc.map kd)) : RpKV K F (putK vs k v) ((putKD acc k d).map kd) := by
  have e : (vs.any fun p => decide (p.1 = k)) = acc.any fun p => decide (p.1 = k) := by
    have := congrArg (fun l : List Key => l.any fun y => decide (y = k)) (kv_keys h)
    simpa [List.any_map, Function.comp_def] using this
  unfold putK putKD
  rw [e]
  split
  · exact kv_map r h
  · exact kv_app r h
theorem putKD_len (acc : KvD) (k : Key) (d : PyData) : (putKD acc k d).length ≤ acc.length + 1 := by
  unfold putKD
  split <;> simp
def dcGo (own : List Nat) (τ : Tau) (fk fe : Mo PyData) : List PyData → KvD → Mo KvD
  | [], acc => fun δ => .ok acc δ
  | d :: ds, acc => fun δ => (Res.of (τ d δ) δ).bind fun δ1 _ => (noex (fk δ1)).bind fun y δ2 => (noex (fe δ2)).bind fun z δ3 => (Res.of (asKey y) δ3).bind fun k _ => dcGo own τ fk fe ds (putKD acc k z) (wipeE δ3 own)
theorem dcGo_cons (own : List Nat) (τ : Tau) (fk fe : Mo PyData) (d : PyData) (ds : List PyData) (acc : KvD) (δ : Env) : dcGo own τ fk fe (d :: ds) acc δ = (Res.of (τ d δ) δ).bind fun δ1 _ => (noex (fk δ1)).bind fun y δ2 => (noex (fe δ2)).bind fun z δ3 => (Res.of (asKey y) δ3).bind fun k _ => dcGo own τ fk fe ds (putKD acc k z) (wipeE δ3 own) := rfl
def mDc (own : List Nat) (τ : Tau) (fi : Mo (List PyData)) (fk fe : Mo PyData) : Mo Val := bnd fi fun ds δ => (dcGo own τ fk fe ds [] (wipeE δ own)).bind fun acc δ' => .ok (.dct (acc.map kd)) (backE δ δ' own)
section
variable {X : Cx} {W : WX} {pos : Pos}
structure DcInv (X : Cx) (W : WX) (own : List Nat) (δ0 : Env) (σ : L2.St) (D : Addr) (g : KvD → Mo KvD) (Q : VK) (F0 : Hp) (i : Nat) (F H : Hp) (fp : List Addr) (δ : Env) (acc : List (Key × V)) (accD : KvD) : Prop where
  st : St3 X.KW F H δ σ fp
  dl : H D = some (.dK acc)
  df : F D = none
  dn : D ∉ fp
  ra : RpKV X.KW F acc (accD.map kd)
  ln : acc.length ≤ i
  sub : Same F0 F
  wp : ∀ (j : Nat) (x : Val), δ[j]? = some (some x) → j ∉ own
  po : VPost X W σ F H (fp ++ [D]) ((g accD δ).bind fun r δ' => .ok (.dct (r.map kd)) (backE δ0 δ' own)) Q
theorem t_dc {own : List Nat} {τ : Tau} {fi : Mo (List PyData)} {fk fe : Mo PyData} {wi : TI} {is : List Nat} {tt : TT} (htt : ∀ σ H (Q : Bool → Hp → Prop), (∃ F δ fp, St3 X.KW F H δ σ fp) → Q true H → tt σ H Q) (hio : ∀ i ∈ is, i ∈ own)
    (qi : ∀ σ H F δ fp (R : It → Hp → Prop), St3 X.KW F H δ σ fp → RPost X W σ F H fp (fi δ) (fun ds _ F' H' _ => ∀ J, Walks X.KW J F' ds → R J H') → wi σ H R)
    {σ : L2.St} {H F : Hp} {δ : Env} {fp : List Addr} {Q : VK} (s : St3 X.KW F H δ σ fp) (h : VPost X W σ F H fp (mDc own τ fi fk fe δ) Q) :
    tDc wi (tDG X is τ) tt (tDE X W0 fk) (tDE X W0 fe) own σ H Q := by
  refine qi σ H F δ fp _ s ((VPost.bind h).imp fun ds δ1 F1 H1 fp1 e1 s1 h1 J wk => ?_)
  intro D hD
  obtain ⟨gm, ndm, nfm⟩ := own_new (o := .dK []) s1 hD
  have hFD : F1 D = none := nfm D (by simp)
  have hDn : D ∉ fp1 := fun z => s1.rep.live D z hD
  obtain ⟨fpw, sw, hw⟩ := (s1.grow gm).wipe own
  refine ⟨fun i m H => m = ds.length - i ∧ ∃ F2 fp2 δ2 acc accD, DcInv X W own δ1 σ D (dcGo own τ fk fe (ds.drop i)) Q F1 i F2 H fp2 δ2 acc accD, ⟨ds.length, by simp, F1, fpw, wipeE δ1 own, [], [], ⟨sw, upd_same, hFD, fun z => hDn (hw D z), .nil, Nat.zero_le _, Same.refl _, fun j x e => wipeE_none e, ?_⟩⟩, fun i m H2 ⟨em, F2, fp2, δ2, acc, accD, V⟩ => ?_⟩
  · have e3 : Ext F1 H1 fp1 F1 (upd H1 D (.dK [])) (fpw ++ [D]) := (Ext.made s1.inn hD).less fun a ha => by
      rcases List.mem_append.mp ha with z | z
      · simp [hw a z]
      · simp at z; simp [z]
    exact VPost.from h1 e3
  · by_cases hi : i < ds.length
    · refine .inr ⟨wk.go i H2 (V.sub.trans V.st.inn) hi, fun H' => ∃ F2 fp2 δ2 acc accD, DcInv X W own δ1 σ D (dcGo own τ fk fe (ds.drop (i + 1))) Q F1 (i + 1) F2 H' fp2 δ2 acc accD, fun H' hN => ⟨ds.length - (i + 1), by omega, rfl, hN⟩, fun x H3 hy => ?_⟩
      obtain ⟨F3, d, g3, hd, rd⟩ := wk.yld i F2 H2 x H3 V.sub V.st.inn hi hy
      have s3 := V.st.grow g3
      have hdrop : ds.drop i = d :: ds.drop (i + 1) := by
        rw [List.drop_eq_getElem_cons hi]
        congr 1
        rw [List.getElem?_eq_getElem hi] at hd
        exact Option.some.inj hd
      have po := V.po
      rw [hdrop, dcGo_cons, Res.bind_assoc] at po
      cases eτ : τ d δ2 with
      | none => rw [eτ] at po; exact False.elim po
      | some δ3 =>
        rw [eτ, Res.of_some, Res.bind_ok, Res.bind_assoc] at po
        obtain ⟨y, δ4, ey, po⟩ := noex_bind po
        rw [Res.bind_assoc] at po
        obtain ⟨z, δ5, ez, po⟩ := noex_bind po
        rw [Res.bind_assoc] at po
        cases ek : asKey y with
        | none => rw [ek] at po; exact False.elim po
        | some k =>
        rw [ek, Res.of_some, Res.bind_ok] at po
        have sW : St3 X.KW F3 H3 δ2 (wipe σ own) fp2 :=
          ⟨s3.rep.cong (wipe_off σ own).1 fun j x e => (wipe_off σ own).2 j (V.wp j x e), s3.inn, s3.nof, s3.nd⟩
        refine ⟨d, F3, δ2, fp2, sW, rd, δ3, eτ, fun σ4 fp4 s4 hs4 o4 => ⟨?_, ?_⟩⟩
        · rw [(o4.mono hio).wipe_eq]
          exact (wipe_off σ own).wipe_eq
        · refine htt _ _ _ ⟨F3, δ3, fp4, s4⟩ ?_
          refine iteT ⟨F3, δ3, fp4, s4, ?_⟩
          rw [ey]
          intro F5 H5 fp5 e5 s5 v rv
          refine ⟨F5, δ4, fp5, s5, ?_⟩
          rw [ez]
          intro F6 H6 fp6 e6 s6 w rw6
          have oo : Off own σ σ4 := (wipe_off σ own).trans (o4.mono hio)
          have hD3 : H3 D = some (.dK acc) := g3.same _ _ V.dl
          have hF3 : F3 D = none := (g3.ext (fp := fp2)).frz_none V.dl V.df V.dn
          have hn4 : D ∉ fp4 := fun z => V.dn (hs4 D z)
          have hD5 : H5 D = some (.dK acc) := e5.keep _ _ hD3 hn4
          have hF5 : F5 D = none := e5.frz_none hD3 hF3 hn4
          have hn5 : D ∉ fp5 := e5.not_mem hD3 hn4
          have hD6 : H6 D = some (.dK acc) := e6.keep _ _ hD5 hn5
          have hF6 : F6 D = none := e6.frz_none hD5 hF5 hn5
          have hn6 : D ∉ fp6 := e6.not_mem hD5 hn5
          have e36 : Ext F2 H2 (fp2 ++ [D]) F6 H6 (fp6 ++ [D]) := ((((g3.ext (fp := fp2)).less (gp := fp4) hs4).trans e5).trans e6).more
          obtain ⟨_, ev⟩ := asKey_ok ek rv
          refine ⟨acc, k, ev, hD6, by have := V.ln; have := wk.len; omega, ?_⟩
          have s7 := s6.upd_out (o := .dK (putK acc k w)) hF6 hn6
          obtain ⟨fp8, s8, h8⟩ := s7.back oo
          have ra6 : RpKV X.KW F6 acc (accD.map kd) := V.ra.mono (g3.sub.trans (e5.sub.trans e6.sub))
          refine ⟨F6, fp8, wipeE δ5 own, putK acc k w, putKD accD k z, ⟨s8, upd_same, hF6, fun z => hn6 (h8 D z), kv_put rw6 ra6, by have := V.ln; have := length_putK acc k w; omega, V.sub.trans (g3.sub.trans (e5.sub.trans e6.sub)), fun j x e => wipeE_none e, ?_⟩⟩
          refine VPost.from po ((e36.trans (Ext.upd_in s6.inn hF6)).less fun a ha => ?_)
          rcases List.mem_append.mp ha with q | q
          · simp [h8 a q]
          · simp at q; simp [q]
    · refine .inl ⟨wk.stop i H2 (V.sub.trans V.st.inn) (by omega), ?_⟩
      have po := V.po
      rw [List.drop_eq_nil_of_le (by omega)] at po
      have po : VPost X W σ F2 H2 (fp2 ++ [D]) (.ok (.dct (accD.map kd)) (backE δ1 δ2 own)) Q := po
      obtain ⟨fpz, sz, hz⟩ := St3.backE s1 V.st V.sub own
      have xz : Ext F2 H2 (fp2 ++ [D]) F2 H2 (fpz ++ [D]) := (Ext.refl V.st.inn).less fun a ha => by
        rcases List.mem_append.mp ha with z | z
        · simp [hz a z]
        · simp at z; simp [z]
      refine po F2 H2 fpz (.ref D) [D] xz sz (.dct V.dl V.ra) ?_ (fun a ha => by simp at ha; rw [ha]; exact V.df)
      rw [List.nodup_append]
      exact ⟨sz.nd, by simp, fun a ha b hb z => by simp at hb; subst hb; subst z; exact V.dn (hz _ ha)⟩
end
end DL
namespace DL
open PySem PySem.Spec PyProof.Rows L2
section
variable {X : Cx} {W : WX} {pos : Pos}
theorem dv_dc {kx vx tg iter : Expr} {scope : Scope} {own : List (Str × Nat)} {is : List Nat} {τ : Tau} {fi : Mo (List PyData)} {fk fe : Mo PyData} (hc : X.calm = true) (hN : X.N.Nodup) (hi : DI X W tg iter fi) (ok : BlkOk X.N X.env.scope scope own) (hio : ∀ i ∈ is, i ∈ own.map (·.2))
    (hg : ∀ (s : Shared) (H : Hp) (C : Addr) (cl : List (Str × Addr)) (fp : List Addr), DG (X.blk s H scope (compEnvC scope cl C X.env) fp) tg is τ)
    (hk : ∀ (s : Shared) (H : Hp) (C : Addr) (cl : List (Str × Addr)) (fp : List Addr), DE (X.blk s H scope (compEnvC scope cl C X.env) fp) W0 kx fk)
    (he : ∀ (s : Shared) (H : Hp) (C : Addr) (cl : List (Str × Addr)) (fp : List Addr), DE (X.blk s H scope (compEnvC scope cl C X.env) fp) W0 vx fe) (hs : ∀ x, foldedSetIterable iter X.env x = pure x := by intro _; rfl) :
    DV X W (.DictComp kx vx [⟨tg, iter, [], 0⟩] scope pos) (mDc (own.map (·.2)) τ fi fk fe) := by
  obtain ⟨wi, pi, qi⟩ := hi
  exact ⟨_, pe_dc (g := tDG X is τ) (tk := tDE X W0 fk) (tv := tDE X W0 fe) hc hN pi ok (fun s H C cl fp => (hg s H C cl fp).pg) (fun s H C cl fp => pts_nil) (fun s H C cl fp => (hk s H C cl fp).pe) (fun s H C cl fp => (he s H C cl fp).pe) hs,
    fun σ H F δ fp Q s h => t_dc (fun _ _ _ _ q => q) hio qi s h⟩
end
end DL
namespace DL
open PySem PySem.Spec PyProof.Rows L2
theorem roomK {A : Around} (r : Room 1 A) : Room 0 A.in1.in1 :=
  ⟨r.hd, by have := r.dp; show A.depth + 3 * 0 + 5 < _; omega, by have := r.un; show A.units + 1 + 1 + 16 * 0 + 200 < _; omega⟩
end DL
namespace DL
open PySem PySem.Spec PyProof.Rows L2
section
variable {X : Cx} {W : WX} {kp : List Nat} {pos : Pos}
theorem sw_dict {kx vx : Expr} {gs : List Comprehension} {scope : Scope} {pos py : Pos} {y : Str} {l : Nat} {env : PySem.Env} (hk : env.scope.kind = .function) (hy : env.scope.names.lookup y = some .local) (hl : (py.line == pos.line) = true)
    (ha : (scope.names.any fun (n, k) => n == y && (k == .local || k == .cell)) = false) : swapsWith (.DictComp kx vx gs scope pos) (some (.Name y py)) l env = pure true := by
  have ky : env.kindOf y = some .local := hy
  have bk : env.blockKind = .function := by
    simp only [Env.blockKind, hk]
    rfl
  simp only [swapsWith, bk, ky, ha, Expr.pos, hl]
  rfl
theorem ps_setDc {i : Nat} {y : Str} {py : Pos} {kx vx tg iter : Expr} {ifs : List Expr} {scope : Scope} {own : List (Str × Nat)} {pos spos : Pos} {wi : TI} {g : TG} {tt : TT} {tk tv : TE} (hc : X.calm = true) (hN : X.N.Nodup) (hy : X.N[i]? = some y) (hyl : X.env.scope.names.lookup y = some .local)
    (hsw : swapsWith (.DictComp kx vx [⟨tg, iter, ifs, 0⟩] scope pos) (some (.Name y py)) spos.line X.env = pure true) (hi : PI X tg iter wi) (ok : BlkOk X.N X.env.scope scope own)
    (hg : ∀ (s : Shared) (H : Hp) (C : Addr) (cl : List (Str × Addr)) (fp : List Addr), PG (X.blk s H scope (compEnvC scope cl C X.env) fp) tg g) (ht : ∀ (s : Shared) (H : Hp) (C : Addr) (cl : List (Str × Addr)) (fp : List Addr), PTs (X.blk s H scope (compEnvC scope cl C X.env) fp) ifs tt)
    (hk : ∀ (s : Shared) (H : Hp) (C : Addr) (cl : List (Str × Addr)) (fp : List Addr), PE (X.blk s H scope (compEnvC scope cl C X.env) fp) kx tk)
    (he : ∀ (s : Shared) (H : Hp) (C : Addr) (cl : List (Str × Addr)) (fp : List Addr), PE (X.blk s H scope (compEnvC scope cl C X.env) fp) vx tv) (hs : ∀ x, foldedSetIterable iter X.env x = pure x := by intro _; rfl) :
    PS X (.Assign [.Name y py] (.DictComp kx vx [⟨tg, iter, ifs, 0⟩] scope pos) spos) (tAsg (tDc wi g tt tk tv (own.map (·.2))) (gName i)) := by
  constructor
  intro pins s σ H D I h
  rw [exec_Assign_Name_used _ _ _ _ hsw]
  apply wpAny_bind
  apply wpAny_standAt
  apply wpAny_bind
  show wpAny _ X.A (do let _ ← comprehension (.DictComp kx vx [⟨tg, iter, ifs, 0⟩] scope pos) scope X.env (firstIterPos [⟨tg, iter, ifs, 0⟩] pos) newDict false (eval iter X.env) (some (assign (.Name y py) X.env))) _ _ s
  have h2 : tDc wi g tt tk tv (own.map (·.2)) σ H (fun x H1 => gName i x σ H1 D.nx) := h
  apply wpAny_bind
  refine wpAny_mono (dc_core (Qf := fun _ s' => SP X pins D .next s') hc hN I hi ok hg ht hk he hs h2 fun L C s' m H' I' q hn f => ?_) (fun _ s' hq => wpAny_pure (wpAny_pure hq)) fun _ _ z => z
  show wpAny _ _ (assign (.Name y py) X.env (.ref L)) _ _ _
  apply wpAny_assign_Name
  refine store_ok2 (v := V.ref L) I' hN hy (.inl hyl) rfl (fun s2 I2 hw => ?_) (.inr hyl)
  obtain ⟨a, sb, ha⟩ := hw
  obtain ⟨f0, f1, f2, f3, f4, f5⟩ := f
  have apart : C ≠ a := by
    rcases ha with z | z
    · rw [z]; exact f1
    · exact fun e => f4 y a z e.symm
  refine ⟨m, hn.sameBut sb apart, fun h3 sb3 => ⟨_, H', I2.turned (t' := s2.toks) (fun b o hb e => (sb3.2 b hb).trans e) f0 f1 f3 f4 f5, q⟩⟩
theorem ds_setDc {i : Nat} {y : Str} {py spos : Pos} {kx vx tg iter : Expr} {scope : Scope} {own : List (Str × Nat)} {is : List Nat} {τ : Tau} {fi : Mo (List PyData)} {fk fe : Mo PyData} (hc : X.calm = true) (hN : X.N.Nodup) (hy : X.N[i]? = some y) (hyl : X.env.scope.names.lookup y = some .local)
    (hsw : swapsWith (.DictComp kx vx [⟨tg, iter, [], 0⟩] scope pos) (some (.Name y py)) spos.line X.env = pure true) (hi : DI X W tg iter fi) (ok : BlkOk X.N X.env.scope scope own) (hio : ∀ i ∈ is, i ∈ own.map (·.2))
    (hg : ∀ (s : Shared) (H : Hp) (C : Addr) (cl : List (Str × Addr)) (fp : List Addr), DG (X.blk s H scope (compEnvC scope cl C X.env) fp) tg is τ)
    (hkk : ∀ (s : Shared) (H : Hp) (C : Addr) (cl : List (Str × Addr)) (fp : List Addr), DE (X.blk s H scope (compEnvC scope cl C X.env) fp) W0 kx fk)
    (he : ∀ (s : Shared) (H : Hp) (C : Addr) (cl : List (Str × Addr)) (fp : List Addr), DE (X.blk s H scope (compEnvC scope cl C X.env) fp) W0 vx fe) (hk : (!kp.contains i) = true := by rfl) (hs : ∀ x, foldedSetIterable iter X.env x = pure x := by intro _; rfl) :
    DS X W kp (.Assign [.Name y py] (.DictComp kx vx [⟨tg, iter, [], 0⟩] scope pos) spos) (sSetV i (mDc (own.map (·.2)) τ fi fk fe)) := by
  obtain ⟨wi, pi, qi⟩ := hi
  exact ⟨_, ps_setDc (g := tDG X is τ) (tk := tDE X W0 fk) (tv := tDE X W0 fe) hc hN hy hyl hsw pi ok (fun s H C cl fp => (hg s H C cl fp).pg) (fun s H C cl fp => pts_nil) (fun s H C cl fp => (hkk s H C cl fp).pe) (fun s H C cl fp => (he s H C cl fp).pe) hs,
    fun D σ H F δ fp s h => t_setV (fun σ H F δ fp Q s h => t_dc (fun _ _ _ _ q => q) hio qi s h) hk s h⟩
end
end DL
namespace DL
open PySem PySem.Spec PyProof.Rows L2
/-! ### f-strings of texts and numbers -/
/-- {e} -/
def oFmt : PyData → Option PyData
  | .str y => some (.str y)
  | .int i => if i.natAbs.log2 < 1920 ∧ ((toString i : String) : Str).length ≤ 16777216 then some (.str ((toString i : String) : Str)) else none
  | _ => none
section
variable {X : Cx} {W : WX} {pos : Pos}
theorem de_fmt {e : Expr} {f : Mo PyData} (h : DE X W e f) : DE X W (.FormattedValue e (-1) none pos) (bnd f fun d δ => Res.of (oFmt d) δ) := by
  obtain ⟨t, p, q⟩ := h
  refine ⟨_, pe_fmt p, fun σ H F δ fp Q s h => q σ H F δ fp _ s ((RPost.bind h).imp fun d δ1 F1 H1 fp1 e1 s1 h1 v rv => ?_)⟩
  obtain ⟨z, ez, h2⟩ := RPost.of h1
  unfold oFmt at ez
  split at ez
  · rename_i y
    cases ez
    cases rv with
    | str _ hy => exact .inl ⟨y, rfl, hy, h2 F1 H1 fp1 (Ext.refl s1.inn) s1 _ (.str y hy)⟩
  · rename_i i
    split at ez
    · rename_i hi
      cases ez
      cases rv
      exact .inr ⟨i, rfl, hi.1, h2 F1 H1 fp1 (Ext.refl s1.inn) s1 _ (.str _ (by rw [sizeLine_eq]; exact hi.2))⟩
    · cases ez
  · cases ez
def jNil (acc : Str) : Mo Str := fun δ => .ok acc δ
def jCons (fe : Mo PyData) (f : Str → Mo Str) (acc : Str) : Mo Str := bnd fe fun d => match d with
  | .str y => fun δ => if (acc ++ y).length ≤ 16777216 then f (acc ++ y) δ else .st
  | _ => fun _ => .st
def mJoined (f : Str → Mo Str) : Mo PyData := bnd (f Str.empty) fun z δ => if z.length ≤ 16777216 then .ok (.str z) δ else .st
def DJ (X : Cx) (W : WX) (es : List Expr) (f : Str → Mo Str) : Prop := ∃ ts, PJ X es ts ∧ ∀ (σ : L2.St) (H F : Hp) (δ : Env) (fp : List Addr) (acc : Str) (Q : Str → Hp → Prop), St3 X.KW F H δ σ fp → RPost X W σ F H fp (f acc δ) (fun z _ _ H' _ => Q z H') → tJs ts acc σ H Q
theorem dj_nil : DJ X W [] jNil := ⟨[], .nil, fun _ H F δ fp acc Q s h => h F H fp (Ext.refl s.inn) s⟩
theorem dj_cons {e : Expr} {es : List Expr} {fe : Mo PyData} {f : Str → Mo Str} (h : DE X W e fe) (r : DJ X W es f) : DJ X W (e :: es) (jCons fe f) := by
  obtain ⟨t, p, q⟩ := h
  obtain ⟨ts, ps, qs⟩ := r
  refine ⟨t :: ts, .cons p ps, fun σ H F δ fp acc Q s h => q σ H F δ fp _ s ((RPost.bind h).imp fun d δ1 F1 H1 fp1 e1 s1 h1 v rv => ?_)⟩
  cases d with
  | str y =>
    cases rv
    by_cases c : (acc ++ y).length ≤ 16777216
    · simp only [c, if_true] at h1
      exact ⟨y, rfl, by rw [sizeLine_eq]; exact c, qs σ H1 F1 δ1 fp1 (acc ++ y) Q s1 h1⟩
    · simp only [c, if_false] at h1
      exact h1.elim
  | _ => exact False.elim h1
theorem de_joined {v1 v2 : Expr} {rest : List Expr} {f : Str → Mo Str} (h : DJ X W (v1 :: v2 :: rest) f) : DE X W (.JoinedStr (v1 :: v2 :: rest) pos) (mJoined f) := by
  obtain ⟨ts, p, q⟩ := h
  refine ⟨_, pe_joined p, fun σ H F δ fp Q s h => q σ H F δ fp Str.empty _ s ((RPost.bind h).imp fun z δ1 F1 H1 fp1 e1 s1 h1 => ?_)⟩
  by_cases c : z.length ≤ 16777216
  · simp only [c, if_true] at h1
    exact h1 F1 H1 fp1 (Ext.refl s1.inn) s1 _ (.str z (by rw [sizeLine_eq]; exact c))
  · simp only [c, if_false] at h1
    exact h1.elim
end
end DL
/-! ### t[::-1] of tuples, at the library's level -/
namespace HT
open PySem PySem.Spec PyProof.Rows
section
variable {prog : Program} {w : World} {A : Around} {E : Value → Shared → Prop} {s : Shared}
theorem places_back (n : Nat) : Builtin.Slice.slicePlaces ((n : Int) - 1) (-1) (-1) = n := by
  unfold Builtin.Slice.slicePlaces
  have h1 : ¬ ((-1 : Int) > 0) := by omega
  simp only [h1, if_false]
  split
  · simp <;> omega
  · omega
theorem sliceApplied_back {sl : Addr} {n : Nat} {t : Tok} {vs : Value} {Q : Int × Int × Nat → Shared → Prop} (hs : s.heap.IsSliceOf sl .none .none vs) (ps : IsPart vs (some (-1)))
    (h : Q ((n : Int) - 1, -1, n) s) : wpAny (model prog w) A (Builtin.Slice.sliceApplied (.ref sl) (pure (n : Int))) Q E s := by
  obtain ⟨os, hos, hcs, hds⟩ := id hs
  unfold Builtin.Slice.sliceApplied Builtin.Slice.sliceFields
  refine wpAny_bind (wpAny_bind (wpAny_field hos hds (x := .none) rfl (wpAny_bind (wpAny_field hos hds (x := .none) rfl (wpAny_bind (wpAny_field hos hds (x := vs) rfl (wpAny_pure ?_)))))))
  refine wpAny_bind (slicePart_ ps ?_)
  show wpAny _ _ (if ((-1 : Int) == 0) = true then _ else _) _ _ s
  rw [if_neg (by decide)]
  refine wpAny_bind (slicePart_none (wpAny_bind (slicePart_none (wpAny_bind (wpAny_pure ?_)))))
  show wpAny _ _ (match Builtin.Slice.sliceAdjust none none (-1) (n : Int) with | (lo, hi) => pure (lo, (-1 : Int), Builtin.Slice.slicePlaces lo hi (-1))) _ _ s
  have e : Builtin.Slice.sliceAdjust none none (-1) (n : Int) = ((n : Int) - 1, -1) := rfl
  rw [e]
  show wpAny _ _ (pure ((n : Int) - 1, (-1 : Int), Builtin.Slice.slicePlaces ((n : Int) - 1) (-1) (-1))) _ _ s
  rw [places_back]
  exact wpAny_pure h
theorem pick_back (xs : Array Value) : ((List.range xs.size).filterMap fun (m : Nat) => xs[((xs.size : Int) - 1 + (m : Int) * -1).toNat]?).toArray = xs.toList.reverse.toArray := by
  congr 1
  apply List.ext_getElem?
  intro i
  by_cases h : i < xs.size
  · have h2 : (List.range xs.size).filterMap (fun (m : Nat) => xs[((xs.size : Int) - 1 + (m : Int) * -1).toNat]?) = (List.range xs.size).map fun m => xs[xs.size - 1 - m]! := by
      have go : ∀ l : List Nat, (∀ m ∈ l, m < xs.size) → l.filterMap (fun (m : Nat) => xs[((xs.size : Int) - 1 + (m : Int) * -1).toNat]?) = l.map fun m => xs[xs.size - 1 - m]! := by
        intro l
        induction l with
        | nil => intro _; rfl
        | cons m l ih =>
          intro hl
          have hm := hl m (by simp)
          have e : ((xs.size : Int) - 1 + (m : Int) * -1).toNat = xs.size - 1 - m := by omega
          have hlt : xs.size - 1 - m < xs.size := by omega
          rw [List.filterMap_cons, e, List.map_cons, ih fun m hm => hl m (by simp [hm])]
          simp [hlt]
      exact go _ fun m hm => List.mem_range.mp hm
    rw [h2, List.getElem?_map, List.getElem?_range h]
    have hlt : xs.size - 1 - i < xs.size := by omega
    rw [List.getElem?_reverse (by rw [Array.length_toList]; exact h), Array.length_toList]
    simp [hlt]
  · have l1 : ((List.range xs.size).filterMap (fun (m : Nat) => xs[((xs.size : Int) - 1 + (m : Int) * -1).toNat]?)).length ≤ xs.size := by
      have := List.length_filterMap_le (fun (m : Nat) => xs[((xs.size : Int) - 1 + (m : Int) * -1).toNat]?) (List.range xs.size)
      rwa [List.length_range] at this
    rw [List.getElem?_eq_none (by omega), List.getElem?_eq_none (by rw [List.length_reverse, Array.length_toList]; omega)]
theorem getItem_tuple_back {t sl : Addr} {items : Array Value} {vs : Value} {Q : Value → Shared → Prop} (ht : IsTup s.heap t items) (hs : s.heap.IsSliceOf sl .none .none vs) (ps : IsPart vs (some (-1)))
    (h : Q (.ref s.heap.objs.size) { s with heap := s.heap.push { cls := .type "tuple", data := .seq items.toList.reverse.toArray } })
    (hsz : items.size ≤ sizeLine) : wpAny (model prog w) A (getItem (.ref t) (.ref sl)) Q E s := by
  have htake : sizeOk (.seq items.toList.reverse.toArray) := by
    show items.toList.reverse.toArray.size ≤ sizeLine
    rw [List.size_toArray, List.length_reverse, Array.length_toList]
    exact hsz
  obtain ⟨os, hos, hcs, hds⟩ := id hs
  have hTs : s.TypeIs (.ref sl) "slice" := ⟨os, hos, hcs⟩
  unfold getItem
  try with_reducible refine wpAny_holding ?_
  first | refine wpAny_bind (wpAny_pure ?_) | skip
  refine wpAny_bind (wpAny_sequenceKey ht.typeIs (by decide) ?_)
  refine wpAny_bind (wpAny_callSpecial?_slot (name := Str.ofString "__getitem__") ht.typeIs PyProof.Rows.slot_tuple_getitem
    (wpAny_call_entry PyProof.Rows.slot_tuple_getitem ht.typeIs entry_tuple_getitem ?_ (args_tuple_getitem _ _)))
  show wpAny _ _ (Builtin.Tuple.tupleItemsOf (.ref t) >>= _) _ _ s
  refine wpAny_bind (tupleItemsOf_ ht ?_)
  refine wpAny_bind (wpAny_typeOf hTs ?_)
  rw [if_pos (by decide)]
  refine wpAny_bind (sliceApplied_back (t := 0) hs ps ?_)
  have hno : ¬ ((((items.size : Int) - 1) == 0 && (-1 : Int) == 1 && items.size == items.size) = true) := by
    intro q
    rw [Bool.and_eq_true, Bool.and_eq_true] at q
    exact absurd q.1.2 (by decide)
  show wpAny _ _ (if (((items.size : Int) - 1) == 0 && (-1 : Int) == 1 && items.size == items.size) = true then _ else _) _ _ s
  rw [if_neg hno, pick_back]
  first
    | exact wpAny_bind (m := Builtin.Tuple.tupleExact _) (wpAny_newObj_type (wpAny_pure ⟨_, rfl, wpAny_pure h⟩) htake)
    | exact wpAny_bind (m := Builtin.Tuple.tupleExact _) (wpAny_newObj_type (wpAny_bind (wpAny_pure (wpAny_pure ⟨_, rfl, wpAny_pure h⟩))) htake)
    | exact wpAny_bind (wpAny_bind (m := Builtin.Tuple.tupleExact _) (wpAny_newObj_type (wpAny_pure (wpAny_pure ⟨_, rfl, wpAny_pure h⟩)) htake))
    | exact wpAny_bind (wpAny_bind (m := Builtin.Tuple.tupleExact _) (wpAny_newObj_type (wpAny_pure ⟨_, rfl, wpAny_pure h⟩) htake))
end
end HT
namespace DL
open PySem PySem.Spec PyProof.Rows L2
section
variable {X : Cx} {W : WX} {pos : Pos}
/-! ### x[::-1] -/
def oRev : PyData → Option PyData
  | .list xs => some (.list xs.reverse)
  | .tuple xs => some (.tuple xs.reverse)
  | _ => none
theorem RpAll.rev {K : KW} {F : Hp} : ∀ {vs : List V} {ds : List PyData}, RpAll K F vs ds → RpAll K F vs.reverse ds.reverse
  | _, _, .nil => .nil
  | _, _, .cons a b => by
    rw [List.reverse_cons, List.reverse_cons]
    exact b.rev.append (.cons a .nil)
def tRevD (K : KW) (te : TE) : TE := fun σ H Q => te σ H fun x H1 => ∃ F d z, Same F H1 ∧ Rp K F x d ∧ oRev d = some z ∧ ∀ F' H' v, Grow F H1 F' H' → Rp K F' v z → Q v H'
theorem pe_revD {e : Expr} {te : TE} {k : Nat} {p1 p2 p3 pos : Pos} (he : PE X e te) : PE X (.Subscript e (.Slice none none (some (.UnaryOp .USub (.Constant (.int 1) k p1) p2)) p3) pos) (tRevD X.KW te) := by
  refine ⟨fun pins s σ H Q I h => ?_⟩
  refine Subscript_ (thn (he.run pins s σ H _ I h) fun v s1 ⟨x, H1, I1, r1, F, d, z, eF, rx, ho, q⟩ => ?_)
  have hst : PO X (some (.UnaryOp .USub (.Constant (.int 1) k p1) p2)) (tPart (tUn (rU fun i => .int (-i)) (tC (.int 1)))) := po_some (pe_un un_neg pe_int)
  refine wpAny_Slice (thn (po_none.run pins s1 σ H1 (fun o H2 => o = none ∧ H2 = H1) I1 ⟨rfl, rfl⟩) fun vl s2 ⟨l, H2, I2, pl, el, e2⟩ => ?_)
  subst el e2
  refine thn (po_none.run pins s2 σ H2 (fun o H3 => o = none ∧ H3 = H2) I2 ⟨rfl, rfl⟩) fun vu s3 ⟨u, H3, I3, pu, eu, e3⟩ => ?_
  subst eu e3
  refine thn (hst.run pins s3 σ H3 (fun o H4 => o = some (-1) ∧ H4 = H3) I3 ⟨1, rfl, -1, rfl, rfl, rfl⟩) fun vs s4 ⟨o, H4, I4, ps, eo, e4⟩ => ?_
  subst eo e4
  have I5 : L2.Inv X pins σ H4 { s4 with heap := s4.heap.push { cls := .type "slice", data := .fields #[vl, vu, vs] } } := I4.kept (t' := s4.toks) fun b ob q => Heap.get?_push_of_some _ q
  cases rx with
  | lst hs ra =>
    rename_i a0 xs0 ds0
    cases ho
    cases r1
    obtain ⟨its, r, ht, hz⟩ := I5.list (eF.seq hs)
    have hlen := r.length
    show wpAny (model X.prog X.w) X.A (subscriptTail e (.Slice none none (some (.UnaryOp .USub (.Constant (.int 1) k p1) p2)) p3) (.ref _) (.ref s4.heap.objs.size)) (EP X pins σ Q) X.xe { s4 with heap := s4.heap.push { cls := .type "slice", data := .fields #[vl, vu, vs] } }
    refine tail_any (ops := [.ref _, .ref s4.heap.objs.size]) ht.isList.typeIs (PySem.slot_list_getitem.lookup) ?_ (by with_unfolding_all rfl)
    refine wpAny_getItem_list_slice ht.isList (Heap.IsSliceOf.new _ vl vu vs) pl pu ps (by decide) ?_ (by rw [List.size_toArray]; omega)
    rw [PySem.W.krv_pick]
    have hp := I5.hok.fresh (Nat.le_refl _)
    have g := Grow.laid (o := .lst xs0.reverse) eF hp
    refine ⟨.ref _, _, I5.laid (t' := s4.toks) (o := .lst xs0.reverse) (fun b ob q => Heap.get?_push_of_some _ q) (Nat.le_refl _) ?_, rfl, q _ _ _ g (.lst (.of upd_same) (ra.rev.mono g.sub))⟩
    exact ⟨by rw [List.length_reverse]; exact hz, _, 0, r.reverse, Heap.get?_push_size _ rfl⟩
  | tup hs ra =>
    rename_i a0 xs0 ds0
    cases ho
    cases r1
    obtain ⟨its, r, ht, hz⟩ := I5.tuple (sqT_mono eF hs)
    have hlen := r.length
    show wpAny (model X.prog X.w) X.A (subscriptTail e (.Slice none none (some (.UnaryOp .USub (.Constant (.int 1) k p1) p2)) p3) (.ref _) (.ref s4.heap.objs.size)) (EP X pins σ Q) X.xe { s4 with heap := s4.heap.push { cls := .type "slice", data := .fields #[vl, vu, vs] } }
    refine tail_any (ops := [.ref _, .ref s4.heap.objs.size]) ht.typeIs (PyProof.Rows.slot_tuple_getitem.lookup) ?_ (by with_unfolding_all rfl)
    cases pl
    cases pu
    refine HT.getItem_tuple_back ht (Heap.IsSliceOf.new _ .none .none vs) ps ?_ (by rw [List.size_toArray]; omega)
    have hp := I5.hok.fresh (Nat.le_refl _)
    have g := Grow.laid (o := .tup xs0.reverse) eF hp
    refine ⟨.ref _, _, I5.laid (t' := s4.toks) (o := .tup xs0.reverse) (fun b ob q => Heap.get?_push_of_some _ q) (Nat.le_refl _) ?_, rfl, q _ _ _ g (.tup (.of upd_same) (ra.rev.mono g.sub))⟩
    exact ⟨by rw [List.length_reverse]; exact hz, _, r.reverse, IsTup.new _ _⟩
  | non => cases ho
  | bl _ => cases ho
  | int _ => cases ho
  | str _ _ => cases ho
  | dct _ _ => cases ho
  | dcn _ _ _ => cases ho
  | ex0 _ _ => cases ho
  | exn _ _ _ _ => cases ho
theorem de_rev {e : Expr} {f : Mo PyData} {k : Nat} {p1 p2 p3 : Pos} (h : DE X W e f) : DE X W (.Subscript e (.Slice none none (some (.UnaryOp .USub (.Constant (.int 1) k p1) p2)) p3) pos) (bnd f fun d δ => Res.of (oRev d) δ) := by
  obtain ⟨t, p, q⟩ := h
  refine ⟨_, pe_revD p, fun σ H F δ fp Q s h => q σ H F δ fp _ s ((RPost.bind h).imp fun d δ1 F1 H1 fp1 e1 s1 h1 v rv => ?_)⟩
  obtain ⟨z, ez, h2⟩ := RPost.of h1
  exact ⟨F1, d, z, s1.inn, rv, ez, fun F' H' v' g r => h2 F' H' fp1 g.ext (s1.grow g) v' r⟩
/-! ### row * n -/
def repD (xs : List PyData) (n : Nat) : List PyData := (List.replicate n xs).flatten
/-- also of rows -/
def oMulG : Op2 := fun x y => match x, y with
  | .tuple xs, .int n => if xs ≠ [] ∧ 2 ≤ n ∧ n ≤ 1000 ∧ xs.length ≤ 1000 then some (.tuple (repD xs n.toNat)) else none
  | x, y => oMulS x y
theorem RpAll.rep {K : KW} {F : Hp} {vs : List V} {ds : List PyData} (r : RpAll K F vs ds) : ∀ n : Nat, RpAll K F (List.replicate n vs).flatten (List.replicate n ds).flatten
  | 0 => .nil
  | n + 1 => by
    rw [List.replicate_succ, List.replicate_succ, List.flatten_cons, List.flatten_cons]
    exact r.append (r.rep n)
theorem ok_mulG : OpR X (binaryOp .Mult) (rV X.KW oMulG) := by
  intro pins s σ H x y v u Q I rx ry ⟨F, dx, dy, z, e, vx, vy, ho, q⟩
  unfold oMulG at ho
  split at ho
  · rename_i xs n
    split at ho
    · rename_i h
      cases ho
      obtain ⟨a, ws, rfl, ha, ra⟩ := vx.tup e
      obtain rfl := vy.int
      refine op_repT pins s σ H _ _ v u Q I rx ry ⟨a, n, ws, rfl, rfl, ha, fun e => h.1 ?_, h.2.1, h.2.2.1, by rw [ra.length]; exact h.2.2.2, fun p hp => q _ _ _ (Grow.laid e hp) (.tup (.of upd_same) ((ra.rep n.toNat).mono (Grow.laid e hp).sub))⟩
      subst e
      cases ra
      rfl
    · cases ho
  · exact ok_mulS pins s σ H x y v u Q I rx ry ⟨F, _, _, z, e, vx, vy, ho, q⟩
/-! ### a list of one's own: row + row -/
def oCatL : PyData → PyData → Option (List PyData)
  | .list xs, .list ys => if xs.length + ys.length ≤ sizeLine then some (xs ++ ys) else none
  | _, _ => none
def vCat (fa fb : Mo PyData) : Mo Val := bnd fa fun x => bnd fb fun y δ => (Res.of (oCatL x y) δ).bind fun zs δ => .ok (.lst zs) δ
def rCatV (K : KW) : R2 := fun x y H Q => ∃ F dx dy zs, Same F H ∧ Rp K F x dx ∧ Rp K F y dy ∧ oCatL dx dy = some zs ∧ ∀ p vs, H p = none → RpAll K F vs zs → Q (.ref p) (upd H p (.lst vs))
theorem ok_catV : OpR X (binaryOp .Add) (rCatV X.KW) := by
  intro pins s σ H x y v u Q I rx ry ⟨F, dx, dy, zs, e, vx, vy, ho, q⟩
  unfold oCatL at ho
  split at ho
  · split at ho
    · rename_i hz
      cases ho
      obtain ⟨a, xs, rfl, ha, ra⟩ := vx.vw.list e
      obtain ⟨b, ys, rfl, hb, rb⟩ := vy.vw.list e
      cases rx
      cases ry
      exact cat_list I ha hb (by rw [ra.length, rb.length]; exact hz) fun p hp => q p _ hp (ra.append rb)
    · cases ho
  · cases ho
theorem dv_cat {a b : Expr} {fa fb : Mo PyData} (ha : DE X W a fa) (hb : DE X W b fb) : DV X W (.BinOp a .Add b pos) (vCat fa fb) := by
  obtain ⟨ta, pa, qa⟩ := ha
  obtain ⟨tb, pb, qb⟩ := hb
  refine ⟨_, pe_op ok_catV pa pb, fun σ H F δ fp Q s h => ?_⟩
  refine qa σ H F δ fp _ s ((VPost.bind h).imp fun x δ1 F1 H1 fp1 e1 s1 h1 v rv => ?_)
  refine qb σ H1 F1 δ1 fp1 _ s1 ((VPost.bind h1).imp fun y δ2 F2 H2 fp2 e2 s2 h2 w rw => ?_)
  have h2 : VPost X W σ F2 H2 fp2 ((Res.of (oCatL x y) δ2).bind fun zs δ => Res.ok (Val.lst zs) δ) Q := h2
  cases ez : oCatL x y with
  | none => rw [ez] at h2; exact h2.elim
  | some zs =>
    rw [ez] at h2
    refine ⟨F2, x, y, zs, s2.inn, rv.mono e2.sub, rw, ez, fun p vs hp r => ?_⟩
    obtain ⟨g, nd, nf⟩ := own_new (o := .lst vs) s2 hp
    exact h2 _ _ fp2 _ [p] (Ext.made s2.inn hp) (s2.grow g) (.lst upd_same r) nd nf
end
end DL
namespace DL
open PySem PySem.Spec PyProof.Rows L2
/-! ### error classes with an own __init__: facts -/
/-- what the written part says of such a class -/
def oexB (K : PySem.W.Frag) (C : Addr) : Bool := (match K.lookup C with
  | some ⟨.type "type", _, .cls cd, sl⟩ => (match cd.mro, sl.toList with
    | .ref C' :: bm, [_, _, _, _, some (.builtin n), _] => C' == C && n == "ValueError.__new__" && !cd.hasDel && cd.hasDict && PySem.HandSPX.refsVE bm
    | _, _ => false)
  | _ => false) && (decide (PySem.W.findIn K (.ref C) "__setattr__" = some (some (.builtin "object.__setattr__"))) && (decide (PySem.W.subIn K (.ref C) (.type "BaseException") = some true) &&
    (decide (PySem.W.typeIn K (.ref C) = some (.type "type")) && (PySem.W.keepIn K (.ref C) && (xfB K C && (decide (PySem.W.findIn K (.ref C) "__init__" = some (some (.ref (He.ma K C "__init__")))) &&
    decide (PySem.W.typeIn K (.ref (He.ma K C "__init__")) = some (.type "function"))))))))
structure ErrI (K : PySem.W.Frag) (mg : Str → Option Value) (x : Str) (C : Addr) : Prop where
  at_ : mg x = some (.ref C)
  oex : OexC K C
  xf : XfC K C
  iC : PySem.W.findIn K (.ref C) "__init__" = some (some (.ref (He.ma K C "__init__")))
  tI : PySem.W.typeIn K (.ref (He.ma K C "__init__")) = some (.type "function")
theorem errI_of {K : PySem.W.Frag} {mg : Str → Option Value} {x : Str} {C : Addr} (h : mg x = some (.ref C)) (q : oexB K C = true) : ErrI K mg x C := by
  unfold oexB at q
  simp only [Bool.and_eq_true, decide_eq_true_eq] at q
  obtain ⟨q, h1, h2, h3, h4, h5, h6, h7⟩ := q
  refine ⟨h, ⟨?_, h1, h2, h3, h4⟩, xfB_ok h5, h6, h7⟩
  split at q
  · rename_i dd cd sl ho
    split at q
    · rename_i C' bm k0 k1 k2 k3 n k5 hm hs
      simp only [Bool.and_eq_true, beq_iff_eq, Bool.not_eq_true'] at q
      obtain ⟨⟨⟨⟨rfl, rfl⟩, hdel⟩, hd⟩, hr⟩ := q
      obtain ⟨nm, bs, mro, ns, qn, hd', sn, sub, ab, col, del⟩ := cd
      dsimp only at hm hdel hd
      subst hm hdel hd
      have hsl : sl = #[k0, k1, k2, k3, some (.builtin "ValueError.__new__"), k5] := by
        obtain ⟨l⟩ := sl
        simp only at hs
        rw [hs]
      subst hsl
      exact ⟨nm, qn, ns, bs, bm, sn, sub, ab, col, dd, k0, k1, k2, k3, k5, ho, hr⟩
    · cases q
  · cases q
/-- the class whose __init__ they call by its name: it has none of its own -/
def parB (K : PySem.W.Frag) (C : Addr) : Bool := PySem.W.readsIn K C (.type "type") && (decide (PySem.W.specialIn K (.ref C) "__getattribute__" = some (some (.builtin "type.__getattribute__"))) &&
  (match PySem.W.findCls K (.ref C) (.type "type") "__init__" with
    | some (.val v) => decide (v = .builtin "ValueError.__init__")
    | _ => false))
structure ParI (K : PySem.W.Frag) (mg : Str → Option Value) (x : Str) (C : Addr) : Prop where
  at_ : mg x = some (.ref C)
  cr : ClX.CRead K C (.type "type")
  cv : PySem.W.findCls K (.ref C) (.type "type") "__init__" = some (.val (.builtin "ValueError.__init__"))
theorem parI_of {K : PySem.W.Frag} {mg : Str → Option Value} {x : Str} {C : Addr} (h : mg x = some (.ref C)) (q : parB K C = true) : ParI K mg x C := by
  unfold parB at q
  simp only [Bool.and_eq_true, decide_eq_true_eq] at q
  obtain ⟨h1, h2, h3⟩ := q
  refine ⟨h, ⟨h1, h2⟩, ?_⟩
  split at h3
  · rename_i v e
    rw [e, of_decide_eq_true h3]
  · cases h3
def exAll (K : PySem.W.Frag) (xs : List Str) (p : Option Str) : Bool := xs.all (fun x => oexB K (He.ga K x)) && match p with
  | some y => parB K (He.ga K y)
  | none => true
/-! ### Parent.__init__(self, ..) -/
section
variable {X : Cx} {e : Expr} {es : List Expr} {ta : TA} {p1 p2 pos : Pos}
theorem pe_cinit {x : Str} {C : Addr} {pl : Sem Bool} (P : ParI X.K X.mg x C) (ha : PA X (e :: es) ta) (hg : Gl X x := by rfl) (hdb : (x == ("__debug__" : Str)) = false := by decide)
    (hc : eval (.Call (.Attribute (.Name x p1) "__init__" p2) (e :: es) [] pos) X.env = (do
      let ov ← eval (.Name x p1) X.env
      standAt p2.atName
      let (f, first) ← holding [ov] (getMethod ov "__init__" pl)
      callWith pos f first (backTo pos (starEach (e :: es) X.env)) (backToKw pos (keywordEach [] X.env))) := by rfl)
    (he : starEach (e :: es) X.env = (false, eval e X.env) :: starEach es X.env := by rfl) (hpl : (backTo pos (starEach es X.env)).any (·.1) = false := by rfl) :
    PE X (.Call (.Attribute (.Name x p1) "__init__" p2) (e :: es) [] pos) (tVeI X.K ta) := by
  refine ⟨fun pins s σ H Q I h => ?_⟩
  refine PySem.W.methodCall_KW (ld_glob I hg P.at_ ?_ hdb) hc
  refine PySem.W.method_cls I.kIn P.cr.ga (PySem.W.cls_value I.kIn P.cr.rd P.cv (by decide +kernel) ?_)
  show wpAny _ _ (callWith pos (Value.builtin "ValueError.__init__") [] (backTo pos (starEach (e :: es) X.env)) []) _ _ _
  refine PyProof.Rows.callWith_method1 (thn (ha.run pos pins _ σ H _ (I.tok _) h) fun us s1 ⟨vs, H1, I1, r1, a, C, ws, ev, hl, T, ea, q⟩ => ?_) he hpl
  subst ev
  cases r1 with
  | @cons _ u0 _ ur ra rw' =>
    obtain rfl : u0 = Value.ref a := ra
    have hlen : ur.length ≤ sizeLine := by
      rw [← Paired.length rw', sizeLine_eq]
      omega
    exact oinit_ok T I1 ea hlen fun s' J => ⟨.non, H1, J, rfl, q⟩
end
/-! ### what such an __init__ does -/
/-- a number that an f-string shows, in at most 1000 signs -/
def fmtI (i : Int) : Bool := decide (i.natAbs.log2 < 1920) && decide (((toString i : String) : Str).length ≤ 1000)
def spI (K : PySem.W.Frag) (C : Addr) (ns : List Str) : Sp := fun vs H Q _ => ∃ (a : Addr) (xs : List V), vs = .ref a :: xs ∧ xs.length = ns.length ∧ (∀ x ∈ xs, ∃ i, x = .int i ∧ fmtI i = true) ∧ H a = some (exo a C none) ∧
  ∀ (dx : Addr) (G : Hp), H dx = none → dx ≠ a → G a = some (exo a C (some dx)) → G dx = some (exd dx (ns.zip xs).reverse) → (∀ b, b ≠ a → b ≠ dx → G b = H b) → Q .non G
theorem spI_len {K : PySem.W.Frag} {C : Addr} {ns : List Str} (vs : List V) (H : Hp) (Q : VK) (E : XK) (h : spI K C ns vs H Q E) : vs.length = ns.length + 1 := by
  obtain ⟨a, xs, rfl, e, _⟩ := h
  simp [e]
abbrev tJs' (ts : List TE) : TE := fun σ H Q => tJs ts Str.empty σ H fun out H1 => Q (.str out) H1
section
variable {K : PySem.W.Frag} {C : Addr} {Q : VK} {E : XK} {H : Hp} {vs : List V}
theorem jl {a b : Str} {n m : Nat} (h : a.length ≤ n) (k : b.length ≤ m) : (a ++ b).length ≤ n + m := by
  rw [Str.length_append]; omega
theorem t_ini1 {f1 c1 : Str} {rest : L2.St} (T : OexC K C) (n1 : PySem.W.findIn K (.ref C) f1 = some none) (h1 : c1.length ≤ 1000) (h : spI K C [f1] vs H Q E) :
    tSeq (tDrop (tVeI K (tCons (tVar 0) (tCons (tJs' [tC (.str c1), tFmt (tVar 1)]) tNil)))) (tSeq (tOst K f1 (tVar 0) (tVar 1)) tNext) { nx := fun _ H' => Q .non H', rt := Q } (vs.map some ++ rest) H := by
  obtain ⟨a, xs, rfl, hl, hi, ha, k⟩ := h
  match xs, hl with
  | [x1], _ =>
    obtain ⟨i1, rfl, o1⟩ := hi x1 (by simp)
    unfold fmtI at o1
    simp only [Bool.and_eq_true, decide_eq_true_eq] at o1
    have l0 : (Str.empty ++ c1).length ≤ 0 + 1000 := jl (by simp [Str.empty, Str.length]) h1
    have l1 := jl l0 o1.2
    refine ⟨.ref a, rfl, c1, rfl, by rw [sizeLine_eq]; omega, .int i1, rfl, .inr ⟨i1, rfl, o1.1, _, rfl, by rw [sizeLine_eq]; omega, ?_⟩⟩
    refine ⟨a, C, [.str (Str.empty ++ c1 ++ toString i1)], rfl, by simp, T, ha, ?_⟩
    refine ⟨.int i1, rfl, .ref a, rfl, a, C, rfl, T, n1, .inl ⟨ha, fun dx hd hne => ?_⟩⟩
    refine k dx _ hd hne upd_same ?_ fun b b1 b2 => by rw [upd_ne b1, upd_ne b2]
    rw [upd_ne hne, upd_same]
    rfl
theorem t_ini2 {f1 f2 c1 c2 : Str} {rest : L2.St} (T : OexC K C) (n1 : PySem.W.findIn K (.ref C) f1 = some none) (n2 : PySem.W.findIn K (.ref C) f2 = some none) (h1 : c1.length ≤ 1000) (h2 : c2.length ≤ 1000) (h : spI K C [f1, f2] vs H Q E) :
    tSeq (tDrop (tVeI K (tCons (tVar 0) (tCons (tJs' [tC (.str c1), tFmt (tVar 1), tC (.str c2), tFmt (tVar 2)]) tNil)))) (tSeq (tOst K f1 (tVar 0) (tVar 1)) (tSeq (tOst K f2 (tVar 0) (tVar 2)) tNext)) { nx := fun _ H' => Q .non H', rt := Q } (vs.map some ++ rest) H := by
  obtain ⟨a, xs, rfl, hl, hi, ha, k⟩ := h
  match xs, hl with
  | [x1, x2], _ =>
    obtain ⟨i1, rfl, o1⟩ := hi x1 (by simp)
    obtain ⟨i2, rfl, o2⟩ := hi x2 (by simp)
    unfold fmtI at o1 o2
    simp only [Bool.and_eq_true, decide_eq_true_eq] at o1 o2
    have l0 : (Str.empty ++ c1).length ≤ 0 + 1000 := jl (by simp [Str.empty, Str.length]) h1
    have l1 := jl l0 o1.2
    have l2 := jl l1 h2
    have l3 := jl l2 o2.2
    refine ⟨.ref a, rfl, c1, rfl, by rw [sizeLine_eq]; omega, .int i1, rfl, .inr ⟨i1, rfl, o1.1, _, rfl, by rw [sizeLine_eq]; omega, c2, rfl, by rw [sizeLine_eq]; omega, .int i2, rfl, .inr ⟨i2, rfl, o2.1, _, rfl, by rw [sizeLine_eq]; omega, ?_⟩⟩⟩
    refine ⟨a, C, [.str (Str.empty ++ c1 ++ toString i1 ++ c2 ++ toString i2)], rfl, by simp, T, ha, ?_⟩
    refine ⟨.int i1, rfl, .ref a, rfl, a, C, rfl, T, n1, .inl ⟨ha, fun dx hd hne => ?_⟩⟩
    refine ⟨.int i2, rfl, .ref a, rfl, a, C, rfl, T, n2, .inr ⟨dx, [(f1, .int i1)], upd_same, by rw [upd_ne hne, upd_same], by simp, ?_⟩⟩
    refine k dx _ hd hne (by rw [upd_ne (Ne.symm hne), upd_same]) ?_ fun b b1 b2 => by rw [upd_ne b2, upd_ne b1, upd_ne b2]
    rw [upd_same]
    rfl
end
/-! ### raise X(e, ..) -/
/-- the def X.__init__, walked -/
structure IniD (P : Program) (w : World) (K : PySem.W.Frag) (mg : Str → Option Value) (base : Heap) (x : Str) (C : Addr) (ns : List Str) : Prop where
  err : ErrI K mg x C
  fn : ∃ fd ps, ps.length = ns.length + 1 ∧ FnOk P w K mg base (L2.CX P w) 1 (He.ma K C "__init__") fd ps (spI K C ns) ∧ Binds K fd ps []
def okI (ns : List Str) (ds : List PyData) : Bool := ds.length == ns.length && ds.all fun d => match d with
  | .int i => fmtI i
  | _ => false
def sRaiseI (c : Addr) (ns : List Str) (f : Mo (List PyData)) : Mo Fl := bnd f fun ds δ => if okI ns ds then .ex c (ns.zip ds).reverse δ else .st
section
variable {X : Cx} {W : WX} {kp : List Nat} {pos : Pos}
theorem rpAll_ints {K : KW} {F : Hp} : ∀ {vs : List V} {ds : List PyData}, RpAll K F vs ds → (ds.all fun d => match d with
  | .int i => fmtI i
  | _ => false) = true → ∀ x ∈ vs, ∃ i, x = .int i ∧ fmtI i = true
  | [], [], _, _ => fun _ h => nomatch h
  | v :: vs, d :: ds, .cons a b, h => by
    simp only [List.all_cons, Bool.and_eq_true] at h
    intro x hx
    rcases List.mem_cons.mp hx with rfl | hx
    · cases d with
      | int i => cases a; exact ⟨i, rfl, h.1⟩
      | _ => exact absurd h.1 (by simp)
    · exact rpAll_ints b h.2 x hx
theorem rpAll_zip {K : KW} {F : Hp} : ∀ {ns : List Str} {vs : List V} {ds : List PyData}, RpAll K F vs ds → ds.length = ns.length → RpAll K F ((ns.zip vs).map (·.2)) ((ns.zip ds).map (·.2)) ∧ (ns.zip vs).map (·.1) = (ns.zip ds).map (·.1)
  | [], _, _, _, _ => ⟨.nil, rfl⟩
  | n :: ns, v :: vs, d :: ds, .cons a b, h => by
    obtain ⟨q1, q2⟩ := rpAll_zip (ns := ns) b (by simpa using h)
    exact ⟨.cons a q1, by simp [q2]⟩
  | n :: ns, [], [], .nil, h => by simp at h
theorem rpAll_app {K : KW} {F : Hp} : ∀ {vs ws : List V} {ds es : List PyData}, RpAll K F vs ds → RpAll K F ws es → RpAll K F (vs ++ ws) (ds ++ es)
  | _, _, _, _, .nil, h => h
  | _, _, _, _, .cons a b, h => .cons a (rpAll_app b h)
theorem rpAll_rev {K : KW} {F : Hp} : ∀ {vs : List V} {ds : List PyData}, RpAll K F vs ds → RpAll K F vs.reverse ds.reverse
  | _, _, .nil => .nil
  | _, _, .cons a b => by
    rw [List.reverse_cons, List.reverse_cons]
    exact rpAll_app (rpAll_rev b) (.cons a .nil)
theorem rpAll_len {K : KW} {F : Hp} : ∀ {vs : List V} {ds : List PyData}, RpAll K F vs ds → vs.length = ds.length
  | _, _, .nil => rfl
  | _, _, .cons _ b => by simp [rpAll_len b]
theorem ds_raiseI {x : Str} {C : Addr} {e : Expr} {es : List Expr} {f : Mo (List PyData)} {n0 : Str} {ns : List Str} {p pos' : Pos} (hc : X.calm = true) (tk : Takes X W) (hr : Room 2 X.A) (I : IniD X.prog X.w X.K X.mg X.base x C (n0 :: ns)) (ha : DA X W (e :: es) f) (hg : Gl X x := by rfl)
    (hdb : (x == ("__debug__" : Str)) = false := by decide) (hlen : (n0 :: ns).length ≤ 900 := by decide) (he : starEach (e :: es) X.env = (false, eval e X.env) :: starEach es X.env := by rfl) (hpl : (backTo pos' (starEach es X.env)).any (·.1) = false := by rfl) :
    DS X W kp (.Raise (some (.Call (.Name x p) (e :: es) [] pos')) none pos) (sRaiseI C (n0 :: ns) f) := by
  obtain ⟨fd, ps, hps, F, hb⟩ := I.fn
  obtain ⟨t, pt, qt⟩ := ha
  refine ⟨_, ps_raise hc tk (pmk_oex I.err.oex I.err.iC I.err.tI F hr hb .nil (fun _ _ _ _ _ _ _ h => ?_) hg I.err.at_ pt hdb he hpl), fun D σ H F0 δ fp s h => ?_⟩
  · obtain ⟨_, _, _, _, _, _, _, _, _, _, _, _, _, _, _, _, _, z⟩ := h
  refine qt σ H F0 δ fp _ s ((SPost.bind h).imp fun ds δ1 F1 H1 fp1 e1 s1 h1 vs rv => ?_)
  by_cases ok : okI (n0 :: ns) ds = true
  · simp only [ok, if_true] at h1
    unfold okI at ok
    simp only [Bool.and_eq_true, beq_iff_eq] at ok
    obtain ⟨ok1, ok2⟩ := ok
    have lv := rpAll_len rv
    refine ⟨by omega, fun a na => ⟨a, vs, by simp, by omega, rpAll_ints rv ok2, upd_same, fun dx G hd hne g1 g2 g3 => ?_⟩⟩
    have hd1 : H1 dx = none := by rw [upd_ne hne] at hd; exact hd
    refine ⟨rfl, dx, _, g1, g2, hd1, ?_⟩
    have eG : upd (del G a) dx (.xd ((n0 :: ns).zip vs).reverse) = upd H1 dx (.xd ((n0 :: ns).zip vs).reverse) := by
      funext b
      by_cases b2 : b = dx
      · rw [b2, upd_same, upd_same]
      · rw [upd_ne b2, upd_ne b2]
        by_cases b1 : b = a
        · rw [b1, del_same, na]
        · rw [del_ne b1, g3 b b1 b2, upd_ne b1]
    rw [eG]
    have gr := Grow.made (F := F1) (o := .xd ((n0 :: ns).zip vs).reverse) s1.inn hd1
    refine h1 F1 _ fp1 σ (some dx) gr.ext (s1.grow gr) (Kept.refl _ _) ?_
    obtain ⟨z1, z2⟩ := rpAll_zip rv ok1
    have nf : F1 dx = none := by
      cases q : F1 dx with
      | none => rfl
      | some o => have := s1.inn _ _ q; rw [hd1] at this; cases this
    have res : ∀ l : List (Str × PyData), l = ((n0 :: ns).zip ds).reverse → ExR X.KW F1 (upd H1 dx (.xd ((n0 :: ns).zip vs).reverse)) l (some dx) := by
      intro l hl
      cases l with
      | nil =>
        have : ((n0 :: ns).zip ds).reverse.length = 0 := by rw [← hl]; rfl
        simp at this
        simp [this] at ok1
      | cons y ys =>
        refine ⟨dx, _, rfl, upd_same, nf, ?_, ?_⟩
        · rw [hl, List.map_reverse, List.map_reverse, z2]
        · rw [hl, List.map_reverse, List.map_reverse]
          exact rpAll_rev z1
    exact res _ rfl
  · simp only [ok, if_false] at h1
    exact h1.elim
end
end DL
/-! DLSysX: the own hook, with the facts about error classes that have an own __init__ -/
namespace DL
open PySem PySem.Spec PyProof.Rows L2
def obsX (n : Nat) (fa : List He.Fa) (fn : List He.DefD) (xs : List Str) (p : Option Str) (g : Addr → Option Obj) : AlE :=
  (He.obsD fa fn (He.frG g (cStatics :: sysModules :: He.asD g n)), sysOk (He.frG g (cStatics :: sysModules :: He.asD g n)) && exAll (He.frG g (cStatics :: sysModules :: He.asD g n)) xs p)
def hookX (n : Nat) (fa : List He.Fa) (fn : List He.DefD) (xs : List Str) (p : Option Str) : PySem.W.Hook where
  α := AlE
  obs := fun s => obsX n fa fn xs p s.heap.get?
  val := fun _ => (He.valD fn, true)
  says := fun _ h => ∃ K : PySem.W.Frag, K.In h ∧ He.SaysD fa fn K ∧ sysOk K = true ∧ exAll K xs p = true
  of := fun _ _ e => ⟨_, He.frG_in, congrArg Prod.fst e, (Bool.and_eq_true_iff.mp (congrArg Prod.snd e)).1, (Bool.and_eq_true_iff.mp (congrArg Prod.snd e)).2⟩
  keeps := fun _ _ _ ⟨K, a, b⟩ k => ⟨K, PySem.W.Frag.In.keeps a k, b⟩
theorem obsX_eq {n : Nat} {fa : List He.Fa} {fn : List He.DefD} {xs : List Str} {p : Option Str} {g : Addr → Option Obj} {s : Shared} (h : ∀ a, g a = s.heap.get? a) : obsX n fa fn xs p g = (hookX n fa fn xs p).obs s := by
  have e : g = s.heap.get? := funext h
  subst e
  rfl
theorem exAll_at {K : PySem.W.Frag} {xs : List Str} {p : Option Str} (h : exAll K xs p = true) (x : Str) (hx : x ∈ xs) : oexB K (He.ga K x) = true :=
  List.all_eq_true.mp (Bool.and_eq_true_iff.mp h).1 x hx
theorem exAll_par {K : PySem.W.Frag} {xs : List Str} {y : Str} (h : exAll K xs (some y) = true) : parB K (He.ga K y) = true := (Bool.and_eq_true_iff.mp h).2
end DL
namespace DL
open PySem PySem.Spec PyProof.Rows L2
/-! f(): a def without parameters is called -/
theorem pe_callG0 {X : Cx} {k : Nat} {f : Addr} {fd : FuncData} {ps : List Str} {sp : Sp} {E : L2.St → XK} {x : Str} {p pos : Pos} (F : FnG X.prog X.w X.K X.mg X.base k f fd ps sp) (hgd : X.A.guards = some []) (hr : Room k X.A) (hg : Gl X x) (hm : X.mg x = some (.ref f)) (hk : PySem.W.keepIn X.KW (.ref f) = true) (hb : Binds X.KW fd ps []) (hx : ∀ σ, PassesAt (L2.CX X.prog X.w) X σ (E σ))
    (hdb : (x == ("__debug__" : Str)) = false := by decide) :
    PE X (.Call (.Name x p) [] [] pos) (tCallS sp E tNil) := by
  refine ⟨fun pins s σ H Q I h => ?_⟩
  refine wpAny_Call_Name_kw (ld_glob I hg hm ?_ hdb)
  exact PySem.W.callWith_K0 I.kIn hk (run_G (us := []) F hgd hr hb (hx σ) I .nil h)
theorem dv_callC0 {X : Cx} {W : WX} {pos : Pos} {x : Str} {p : Pos} {fn : FnD} {k : Nat} (C : CallD X.prog X.w X.K X.mg X.base k x [] fn) (hgd : X.A.guards = some []) (hr : Room k X.A) (tk : Takes X W)
    (hg : Gl X x := by rfl) (hdb : (x == ("__debug__" : Str)) = false := by decide) : DV X W (.Call (.Name x p) [] [] pos) (mCallD fn aNil) := by
  obtain ⟨f, fd, hm, F, hk, hb, _⟩ := C
  obtain ⟨⟨t, pt, q⟩, la⟩ := (ar_nil : DAr X W [] aNil)
  refine ⟨_, pe_callG0 (E := WE W) F hgd hr hg hm hk hb (fun σ => passAt tk σ) hdb, fun σ H F δ fp Q s h => ?_⟩
  have h2 : VPost X W σ F H fp (mCall2 fn [] δ) Q := h
  exact t_callD (vs := []) s h2 .nil rfl
end DL
/-! DLErrV: errors as values: made, asked for their class, their fields read. -/
namespace DL
open PySem PySem.Spec PyProof.Rows L2
abbrev exD (C : Addr) (ds : List (PyData × PyData)) : PyData := .dict ((.bool true, .int (Int.ofNat C)) :: ds)
/-! ### what such data is -/
section
variable {K : KW} {F : Hp} {v : V} {C : Addr} {ds : List (PyData × PyData)}
theorem Rp.err (h : Rp K F v (exD C ds)) : ∃ a, v = .ref a ∧ ExcC K.f C ∧ ((ds = [] ∧ F a = some (ExO (.ref C) a)) ∨ ∃ (d : Addr) (xs : List (Str × V)), F a = some (exo a C (some d)) ∧ F d = some (exd d xs) ∧ RpKV K F (xs.map fun p => (Sum.inr p.1, p.2)) ds) := by
  generalize hD : exD C ds = D at h
  cases h with
  | non => cases hD
  | bl _ => cases hD
  | int _ => cases hD
  | str _ _ => cases hD
  | lst _ _ => cases hD
  | tup _ _ => cases hD
  | dct s r => cases hD; have := r.plain (ks := []); simp [plainKey] at this
  | dcn s n r => cases hD; cases r with | cons h1 _ _ _ _ => cases h1
  | ex0 c s => cases hD; exact ⟨_, rfl, c, .inl ⟨rfl, s⟩⟩
  | exn c s t r => cases hD; exact ⟨_, rfl, c, .inr ⟨_, _, s, t, r⟩⟩
end
section
variable {X : Cx} {pins : List (Addr × Obj)} {σ : L2.St} {H F : Hp} {s : Shared} {C a : Addr} {ds : List (PyData × PyData)}
theorem err_inst (I : Inv X pins σ H s) (e : Same F H) (h : Rp X.KW F (.ref a) (exD C ds)) : ∃ P : Heap → Prop, PySem.W.KitX X.K (.ref a) (.ref C) P ∧ P s.heap := by
  obtain ⟨a', ea, c, h⟩ := h.err
  cases ea
  have hcl : (PySem.W.clsIn X.K C).isSome = true := by obtain ⟨cd, hc, _⟩ := PySem.W.any_some c.hd; rw [hc]; rfl
  rcases h with ⟨_, h⟩ | ⟨d, xs, h1, h2, _⟩
  · obtain ⟨⟨oe, vs, ho, hz, hd, _⟩, _, _⟩ := I.hok a _ (e _ _ h)
    refine ⟨_, PySem.W.kitx_exc (od := none) (ox := oe) hcl c.hg c.hk c.hs c.ha c.hn c.ht c.hm, ?_⟩
    obtain ⟨oc, od, oda, osl⟩ := oe
    obtain ⟨z1, z2⟩ := hz
    dsimp only at z1 z2 hd
    subst z1 z2 hd
    exact ⟨ho, rfl, rfl, trivial⟩
  · obtain ⟨t1, ho⟩ := exo_at I.hok (e _ _ h1)
    obtain ⟨mA, hns, rel⟩ := exd_at I.hok (e _ _ h2)
    obtain ⟨od, hod, _⟩ := lookIn_ns hns
    exact ⟨_, PySem.W.kitx_exc (od := some od) hcl c.hg c.hk c.hs c.ha c.hn c.ht c.hm, ⟨ho, rfl, rfl, hod⟩⟩
end
/-! ### X(".."), X(e, ..) -/
section
variable {X : Cx} {W : WX} {pos : Pos}
def mErr0 (C : Addr) : Mo PyData := fun δ => .ok (exD C []) δ
theorem de_err0 {x m : Str} {C : Addr} {j : Nat} {p p2 : Pos} (e : ErrC X.K X.mg x C) (c : ExcC X.K C) (hg : Gl X x := by rfl) (hdb : (x == ("__debug__" : Str)) = false := by decide) :
    DE X W (.Call (.Name x p) [.Constant (.str m) j p2] [] pos) (mErr0 C) :=
  ⟨_, pe_exc1 PySem.F.excBase_ValueError e.exc e.at_ e.keep hg pe_str (by rfl) hdb, fun σ H F δ fp Q s h a ha => h _ _ fp (Grow.laid s.inn ha).ext (s.grow (Grow.laid s.inn ha)) _ (.ex0 c upd_same)⟩
def tMkV (C : Addr) (sp : Sp) (ta : TA) : TE := fun σ H Q => ta σ H fun vs H1 => vs.length ≤ 1000 ∧ ∀ a, H1 a = none → sp (.ref a :: vs) (upd H1 a (exo a C none)) (fun v H2 => v = .non ∧ Q (.ref a) H2) (fun _ _ _ => False)
theorem pe_oexV {x : Str} {C fI : Addr} {k : Nat} {fd : FuncData} {ps : List Str} {sp : Sp} {e : Expr} {es : List Expr} {ta : TA} {p : Pos} (T : OexC X.K C) (iC : PySem.W.findIn X.K (.ref C) "__init__" = some (some (.ref fI))) (tI : PySem.W.typeIn X.K (.ref fI) = some (.type "function"))
    (F1 : FnOk X.prog X.w X.K X.mg X.base (L2.CX X.prog X.w) k fI fd ps sp) (hr : Room (k + 1) X.A) (hb : Binds X.K fd ps []) (hx : Passes (L2.CX X.prog X.w) X (fun _ _ _ => False)) (hg : Gl X x) (hm : X.mg x = some (.ref C)) (ha : PA X (e :: es) ta)
    (hdb : (x == ("__debug__" : Str)) = false := by decide) (he : starEach (e :: es) X.env = (false, eval e X.env) :: starEach es X.env := by rfl) (hpl : (backTo pos (starEach es X.env)).any (·.1) = false := by rfl) :
    PE X (.Call (.Name x p) (e :: es) [] pos) (tMkV C sp ta) := by
  refine ⟨fun pins s σ H Q I h => ?_⟩
  obtain ⟨nm, q, N, bs, bm, sn, sub, ab, col, dd, k0, k1, k2, k3, k5, hC, hbm⟩ := T.cls
  refine wpAny_Call_Name_kw (ld_glob I hg hm ?_ hdb)
  refine PySem.W.callWith_K (h₀ := X.base) I.ok.mod.kin T.kC (thn (ha.run pos pins s σ H _ I h) fun us s1 ⟨vs, H1, I1, r1, hz, q1⟩ => ⟨I1.kIn, ?_⟩) he hpl
  show wpAny _ _ (call (.ref C) us) _ _ _
  obtain ⟨hp, g, dr, tk, os⟩ := s1
  have hsz : hp.objs.size ≤ hp.objs.size + 1 := Nat.le_succ _
  have hn : H1 (hp.objs.size + 1) = none := I1.hok.fresh hsz
  have hq := q1 (hp.objs.size + 1) hn
  have kk : ∀ b o, hp.get? b = some o → ((hp.push (PySem.W.kdv_tup us)).push (PySem.HandSPX.excO C hp.objs.size)).get? b = some o := fun b o e => Heap.get?_push_of_some _ (Heap.get?_push_of_some _ e)
  have hget : ((hp.push (PySem.W.kdv_tup us)).push (PySem.HandSPX.excO C hp.objs.size)).get? (hp.objs.size + 1) = some (PySem.HandSPX.excO C hp.objs.size) := by heap_get
  have I2 : Inv X pins σ (upd H1 (hp.objs.size + 1) (exo (hp.objs.size + 1) C none)) ⟨(hp.push (PySem.W.kdv_tup us)).push (PySem.HandSPX.excO C hp.objs.size), g, dr, tk, os⟩ :=
    I1.laid (t' := tk) (a := hp.objs.size + 1) (o := exo (hp.objs.size + 1) C none) (h' := (hp.push (PySem.W.kdv_tup us)).push (PySem.HandSPX.excO C hp.objs.size)) kk hsz (exo_ok hget)
  have r2 : Vals (V.ref (hp.objs.size + 1) :: vs) (Value.ref (hp.objs.size + 1) :: us) := .cons rfl r1
  have hl : (Value.ref (hp.objs.size + 1) :: us ++ []).length = ps.length := by
    have e := r2.length
    rw [F1.len _ _ _ _ hq] at e
    simpa using e.symm
  have hus : us.length ≤ sizeLine := by
    rw [← Paired.length r1, sizeLine_eq]
    omega
  refine wpAny_call (PySem.HandSPX.call_own F.excBase_ValueError (fun Y => PySem.HandSPX.refsVE_contains Y bm hbm) (I1.kIn _ _ hC) (PySem.W.looks_findIn I1.kIn iC) (fun self => PySem.W.bind_fn I1.kIn self tI) hus
    (codeAny_mono (F1.run _ X.stack _ _ ⟨Value.ref (hp.objs.size + 1) :: us, []⟩ (Value.ref (hp.objs.size + 1) :: us ++ []) _ _ (fun _ _ _ => False) (hr.make C us []) (I2.env0.make C us []) (hb _ (Value.ref (hp.objs.size + 1) :: us) I2.kIn hl) (by simpa using r2) hq) fun r s' hq' => ?_))
  cases r with
  | error er => exact hx pins σ _ _ er s' I2 hq'
  | ok fl =>
    cases fl with
    | ret u =>
      obtain ⟨v, H2, os2, bare2, un2, hok2, rv, ev, q2⟩ := hq'
      subst ev
      obtain ⟨h2, g2, d2, t2, os'⟩ := s'
      have J : Inv X pins σ H2 ⟨h2, g2, d2, t2, os'⟩ := I2.call' (ch := []) os2 un2 hok2 bare2 (fun b z => absurd z (by simp))
      exact ⟨rv, .ref _, H2, J, rfl, q2⟩
    | next => exact False.elim hq'
    | brk => exact False.elim hq'
    | cont => exact False.elim hq'
def fldsD (fs : List (Str × PyData)) : List (PyData × PyData) := fs.map fun p => (.str p.1, p.2)
theorem kv_of {K : KW} {F : Hp} : ∀ {xs : List (Str × V)} {fs : List (Str × PyData)}, xs.map (·.1) = fs.map (·.1) → RpAll K F (xs.map (·.2)) (fs.map (·.2)) → RpKV K F (xs.map fun p => (Sum.inr p.1, p.2)) (fldsD fs)
  | [], [], _, _ => .nil
  | (n, v) :: xs, (n', d) :: fs, e, .cons a b => by
    simp only [List.map_cons, List.cons.injEq] at e
    obtain ⟨rfl, e⟩ := e
    exact .cons (k := .inr n) a (kv_of e b)
  | [], _ :: _, e, _ => by simp at e
  | _ :: _, [], e, _ => by simp at e
def mErrI (c : Addr) (ns : List Str) (f : Mo (List PyData)) : Mo PyData := bnd f fun ds δ => if okI ns ds then .ok (exD c (fldsD (ns.zip ds).reverse)) δ else .st
theorem de_errI {x : Str} {C : Addr} {e : Expr} {es : List Expr} {f : Mo (List PyData)} {n0 : Str} {ns : List Str} {p : Pos} (hr : Room 2 X.A) (I : IniD X.prog X.w X.K X.mg X.base x C (n0 :: ns)) (c : ExcC X.K C) (ha : DA X W (e :: es) f) (hg : Gl X x := by rfl)
    (hdb : (x == ("__debug__" : Str)) = false := by decide) (hlen : (n0 :: ns).length ≤ 900 := by decide) (he : starEach (e :: es) X.env = (false, eval e X.env) :: starEach es X.env := by rfl) (hpl : (backTo pos (starEach es X.env)).any (·.1) = false := by rfl) :
    DE X W (.Call (.Name x p) (e :: es) [] pos) (mErrI C (n0 :: ns) f) := by
  obtain ⟨fd, ps, hps, F, hb⟩ := I.fn
  obtain ⟨t, pt, qt⟩ := ha
  refine ⟨_, pe_oexV I.err.oex I.err.iC I.err.tI F hr hb (fun _ _ _ _ _ _ _ h => ?_) hg I.err.at_ pt hdb he hpl, fun σ H F0 δ fp Q s h => ?_⟩
  · obtain ⟨_, _, _, _, _, _, _, _, _, _, _, _, _, _, _, _, _, z⟩ := h
  refine qt σ H F0 δ fp _ s ((RPost.bind h).imp fun ds δ1 F1 H1 fp1 e1 s1 h1 vs rv => ?_)
  by_cases ok : okI (n0 :: ns) ds = true
  · simp only [ok, if_true] at h1
    unfold okI at ok
    simp only [Bool.and_eq_true, beq_iff_eq] at ok
    obtain ⟨ok1, ok2⟩ := ok
    have lv := rpAll_len rv
    refine ⟨by omega, fun a na => ⟨a, vs, rfl, by omega, rpAll_ints rv ok2, upd_same, fun dx G hd hne g1 g2 g3 => ?_⟩⟩
    have hd1 : H1 dx = none := by rw [upd_ne hne] at hd; exact hd
    refine ⟨rfl, ?_⟩
    have eG : upd (upd H1 dx (exd dx ((n0 :: ns).zip vs).reverse)) a (exo a C (some dx)) = G := by
      funext b
      by_cases b1 : b = a
      · rw [b1, upd_same, g1]
      · rw [upd_ne b1]
        by_cases b2 : b = dx
        · rw [b2, upd_same, g2]
        · rw [upd_ne b2, g3 b b1 b2, upd_ne b1]
    rw [← eG]
    have gr1 := Grow.laid (o := exd dx ((n0 :: ns).zip vs).reverse) s1.inn hd1
    have gr := gr1.trans (Grow.laid (p := a) (o := exo a C (some dx)) gr1.inn (by rw [upd_ne (Ne.symm hne)]; exact na))
    obtain ⟨z1, z2⟩ := rpAll_zip rv ok1
    refine h1 _ _ fp1 gr.ext (s1.grow gr) _ (.exn c upd_same (by rw [upd_ne hne, upd_same]) (kv_of ?_ ?_))
    · rw [List.map_reverse, List.map_reverse, z2]
    · rw [List.map_reverse, List.map_reverse]
      exact (rpAll_rev z1).mono gr.sub
  · simp only [ok, if_false] at h1
    exact h1.elim
/-! ### isinstance(error, ..) -/
def oIsM (k : Addr → Addr → Option Bool) (C : Addr) : PyData → Option PyData
  | .dict ((.bool true, .int (.ofNat c)) :: _) => (k c C).map .bool
  | _ => none
def oIsL (L : List Addr) (b : Bool) : PyData → Option PyData
  | .dict ((.bool true, .int (.ofNat c)) :: _) => if c ∈ L then some (.bool b) else none
  | _ => none
theorem oIsM_spec {k : Addr → Addr → Option Bool} {C : Addr} {d z : PyData} (h : oIsM k C d = some z) : ∃ c ds b, d = exD c ds ∧ k c C = some b ∧ z = .bool b := by
  unfold oIsM at h
  split at h
  · rename_i c ds
    obtain ⟨b, h1, rfl⟩ := Option.map_eq_some_iff.mp h
    exact ⟨c, ds, b, rfl, h1, rfl⟩
  · cases h
theorem oIsL_spec {L : List Addr} {b : Bool} {d z : PyData} (h : oIsL L b d = some z) : ∃ c ds, d = exD c ds ∧ c ∈ L ∧ z = .bool b := by
  unfold oIsL at h
  split at h
  · rename_i c ds
    split at h
    · cases h; exact ⟨c, ds, rfl, by assumption, rfl⟩
    · cases h
  · cases h
def rIsX (K : KW) : List V → Hp → VK → Prop := fun xs H Q => ∃ (F : Hp) (a C : Addr) (ds : List (PyData × PyData)) (c : V) (u : Value) (b : Bool), xs = [.ref a, c] ∧ Same F H ∧ Rp K F (.ref a) (exD C ds) ∧ ClsV c u ∧ PySem.W.kitOne K.f (.ref C) u = some b ∧ Q (.bl b) H
def rIsXT (K : KW) : List V → Hp → VK → Prop := fun xs H Q => ∃ (F : Hp) (a C tp : Addr) (ds : List (PyData × PyData)) (cs : List V) (us : List Value) (b : Bool), xs = [.ref a, .ref tp] ∧ Same F H ∧ Rp K F (.ref a) (exD C ds) ∧ H tp = some (.tup cs) ∧ Paired ClsV cs us ∧ PySem.W.kitAny K.f (.ref C) us = some b ∧ Q (.bl b) H
theorem call_isX : CallR X (.builtin "isinstance") (rIsX X.KW) := by
  intro pins s σ H xs us Q I r ⟨F, a, C, ds, c, u, b, ex, e, rp, k, kb, q⟩
  subst ex
  obtain ⟨u1, u2, rfl, r1, r2⟩ := vals2 r
  obtain rfl := k.eq r2
  cases (show u1 = Value.ref a from r1)
  obtain ⟨P, Z, p⟩ := err_inst I e rp
  exact PySem.W.kia_one Z I.kIn p kb (fun z => nomatch z) fun tk => ⟨.bl b, H, I.tok tk, rfl, q⟩
theorem call_isXT : CallR X (.builtin "isinstance") (rIsXT X.KW) := by
  intro pins s σ H xs us Q I r ⟨F, a, C, tp, ds, cs, ws, b, ex, e, rp, hT, k, kb, q⟩
  subst ex
  obtain ⟨u1, u2, rfl, r1, r2⟩ := vals2 r
  cases (show u1 = Value.ref a from r1)
  cases (show u2 = Value.ref tp from r2)
  obtain ⟨P, Z, p⟩ := err_inst I e rp
  obtain ⟨_, its, rv, o, h1, h2, n, h3⟩ := (show ObjOk X.prog X.w H s.heap tp (.tup cs) from I.hok tp _ hT)
  obtain rfl := ClsV.all k rv
  obtain ⟨oc, od, dt, sl⟩ := o
  simp only at h2 h3
  subst h2 h3
  exact PySem.W.kia_tup Z I.kIn p h1 kb (fun z => nomatch z) fun tk => ⟨.bl b, H, I.tok tk, rfl, q⟩
/-- isinstance(e, C), C a class of the program -/
theorem de_isM {e : Expr} {f : Mo PyData} {k : Addr → Addr → Option Bool} {x : Str} {C : Addr} {p p2 : Pos} (hm : X.mg "isinstance" = none) (hC : X.mg x = some (.ref C)) (hk : ∀ c C, k c C = PySem.W.kitOne X.K (.ref c) (.ref C)) (ha : DE X W e f)
    (hg : Gl X "isinstance" := by rfl) (hgT : Gl X x := by rfl) (hdb : (x == ("__debug__" : Str)) = false := by decide) (he : starEach [e, .Name x p2] X.env = (false, eval e X.env) :: starEach [.Name x p2] X.env := by rfl) (he2 : starEach [.Name x p2] X.env = (false, eval (.Name x p2) X.env) :: starEach [] X.env := by rfl) (hpl : (backTo pos (starEach [.Name x p2] X.env)).any (·.1) = false := by rfl) :
    DE X W (.Call (.Name "isinstance" p) [e, .Name x p2] [] pos) (bnd f fun d δ => Res.of (oIsM k C d) δ) := by
  obtain ⟨t, pt, q⟩ := ha
  refine ⟨_, pe_callB call_isX hg hm (by decide +kernel) (pa_cons pt (pa_cons (pe_glob (v := .ref C) hgT hC rfl hdb) pa_nil he2) he) (by decide) (by decide) he hpl, fun σ H F δ fp Q s h => ?_⟩
  refine q σ H F δ fp _ s ((RPost.bind h).imp fun d δ1 F1 H1 fp1 e1 s1 h1 v rv => ?_)
  obtain ⟨z, ez, h2⟩ := RPost.of h1
  obtain ⟨c, ds, b, rfl, kb, rfl⟩ := oIsM_spec ez
  obtain ⟨a, rfl, _⟩ := rv.err
  rw [hk] at kb
  exact ⟨F1, a, c, ds, .ref C, .ref C, b, rfl, s1.inn, rv, .own C, kb, h2 F1 H1 fp1 (Ext.refl s1.inn) s1 _ (.bl b)⟩
/-- isinstance(e, T), T a built-in class -/
theorem de_isL1 {e : Expr} {f : Mo PyData} {L : List Addr} {b : Bool} {x : Str} {Ts : String} {p p2 : Pos} (hm : X.mg "isinstance" = none) (hmT : X.mg x = none) (hk : ∀ c ∈ L, PySem.W.kitOne X.K (.ref c) (.type Ts) = some b) (ha : DE X W e f) (hv : bootBuiltins x = some (.type Ts) := by decide +kernel)
    (hg : Gl X "isinstance" := by rfl) (hgT : Gl X x := by rfl) (hn : x ≠ "__name__" := by decide) (hdb : (x == ("__debug__" : Str)) = false := by decide) (he : starEach [e, .Name x p2] X.env = (false, eval e X.env) :: starEach [.Name x p2] X.env := by rfl) (he2 : starEach [.Name x p2] X.env = (false, eval (.Name x p2) X.env) :: starEach [] X.env := by rfl) (hpl : (backTo pos (starEach [.Name x p2] X.env)).any (·.1) = false := by rfl) :
    DE X W (.Call (.Name "isinstance" p) [e, .Name x p2] [] pos) (bnd f fun d δ => Res.of (oIsL L b d) δ) := by
  obtain ⟨t, pt, q⟩ := ha
  refine ⟨_, pe_callB call_isX hg hm (by decide +kernel) (pa_cons pt (pa_cons (pe_bltn (v := .ty Ts) hgT hmT hv rfl hn hdb) pa_nil he2) he) (by decide) (by decide) he hpl, fun σ H F δ fp Q s h => ?_⟩
  refine q σ H F δ fp _ s ((RPost.bind h).imp fun d δ1 F1 H1 fp1 e1 s1 h1 v rv => ?_)
  obtain ⟨z, ez, h2⟩ := RPost.of h1
  obtain ⟨c, ds, rfl, hc, rfl⟩ := oIsL_spec ez
  obtain ⟨a, rfl, _⟩ := rv.err
  exact ⟨F1, a, c, ds, .ty Ts, .type Ts, b, rfl, s1.inn, rv, .ty Ts, hk c hc, h2 F1 H1 fp1 (Ext.refl s1.inn) s1 _ (.bl b)⟩
/-- names of built-in classes -/
inductive TyNames (X : Cx) : List Expr → List String → Prop
  | nil : TyNames X [] []
  | cons {x : Str} {Ts : String} {p : Pos} {es : List Expr} {ts : List String} (hm : X.mg x = none) (hv : bootBuiltins x = some (.type Ts)) (hg : Gl X x) (hn : x ≠ "__name__") (hdb : (x == ("__debug__" : Str)) = false)
      (hs : starEach (.Name x p :: es) X.env = (false, eval (.Name x p) X.env) :: starEach es X.env) (r : TyNames X es ts) : TyNames X (.Name x p :: es) (Ts :: ts)
def tTys : List String → TA
  | [] => tNil
  | t :: ts => tCons (tC (.ty t)) (tTys ts)
theorem TyNames.pa : ∀ {es : List Expr} {ts : List String}, TyNames X es ts → PA X es (tTys ts)
  | _, _, .nil => pa_nil
  | _, _, .cons hm hv hg hn hdb hs r => pa_cons (pe_bltn (v := .ty _) hg hm hv rfl hn hdb) r.pa hs
theorem tTys_at {σ : L2.St} {H : Hp} : ∀ {ts : List String} {Q : List V → Hp → Prop}, Q (ts.map .ty) H → tTys ts σ H Q
  | [], _, h => h
  | t :: ts, _, h => tTys_at (ts := ts) h
theorem tys_cls : ∀ ts : List String, Paired ClsV (ts.map .ty) (ts.map .type)
  | [] => .nil
  | t :: ts => .cons (.ty t) (tys_cls ts)
theorem de_isLT {e : Expr} {es : List Expr} {x1 : Nat} {f : Mo PyData} {L : List Addr} {b : Bool} {ts : List String} {p p2 : Pos} (hm : X.mg "isinstance" = none) (ht : TyNames X es ts) (hk : ∀ c ∈ L, PySem.W.kitAny X.K (.ref c) (ts.map .type) = some b) (ha : DE X W e f) (hl : ts.length ≤ 1000 := by decide)
    (hg : Gl X "isinstance" := by rfl) (he : starEach [e, .Tuple es x1 p2] X.env = (false, eval e X.env) :: starEach [.Tuple es x1 p2] X.env := by rfl) (he2 : starEach [.Tuple es x1 p2] X.env = (false, eval (.Tuple es x1 p2) X.env) :: starEach [] X.env := by rfl) (hpl : (backTo pos (starEach [.Tuple es x1 p2] X.env)).any (·.1) = false := by rfl) :
    DE X W (.Call (.Name "isinstance" p) [e, .Tuple es x1 p2] [] pos) (bnd f fun d δ => Res.of (oIsL L b d) δ) := by
  obtain ⟨t, pt, q⟩ := ha
  refine ⟨_, pe_callB call_isXT hg hm (by decide +kernel) (pa_cons pt (pa_cons (pe_tup ht.pa) pa_nil he2) he) (by decide) (by decide) he hpl, fun σ H F δ fp Q s h => ?_⟩
  refine q σ H F δ fp _ s ((RPost.bind h).imp fun d δ1 F1 H1 fp1 e1 s1 h1 v rv => ?_)
  obtain ⟨z, ez, h2⟩ := RPost.of h1
  obtain ⟨c, ds, rfl, hc, rfl⟩ := oIsL_spec ez
  obtain ⟨a, rfl, _⟩ := rv.err
  refine tTys_at ⟨by rw [List.length_map, sizeLine_eq]; omega, fun tp htp => ?_⟩
  have gr := Grow.made (F := F1) (o := .tup (ts.map .ty)) s1.inn htp
  exact ⟨F1, a, c, tp, ds, _, _, b, rfl, gr.inn, rv, upd_same, tys_cls ts, hk c hc, h2 F1 _ fp1 gr.ext (s1.grow gr) _ (.bl b)⟩
/-! ### e.f -/
def fldOf (f : Str) : List (PyData × PyData) → Option PyData
  | (.str g, d) :: r => if f = g then some d else fldOf f r
  | _ => none
def oFldE (C : Addr) (f : Str) : PyData → Option PyData
  | .dict ((.bool true, .int (.ofNat c)) :: ds) => if c = C then fldOf f ds else none
  | _ => none
theorem oFldE_spec {C : Addr} {f : Str} {d z : PyData} (h : oFldE C f d = some z) : ∃ ds, d = exD C ds ∧ fldOf f ds = some z := by
  unfold oFldE at h
  split at h
  · rename_i c ds
    split at h
    · rename_i e; subst e; exact ⟨ds, rfl, h⟩
    · cases h
  · cases h
theorem fldOf_rp {K : KW} {F : Hp} {f : Str} {y : PyData} : ∀ {xs : List (Str × V)} {ds : List (PyData × PyData)}, RpKV K F (xs.map fun p => (Sum.inr p.1, p.2)) ds → fldOf f ds = some y → ∃ v, xs.lookup f = some v ∧ Rp K F v y
  | [], _, .nil, h => by cases h
  | (n, v) :: xs, _, .cons a b, h => by
    have h : (if f = n then some _ else fldOf f _) = some y := h
    by_cases e : f = n
    · rw [if_pos e] at h
      cases h
      exact ⟨v, by simp [List.lookup, e], a⟩
    · rw [if_neg e] at h
      obtain ⟨w, h1, h2⟩ := fldOf_rp b h
      exact ⟨w, by rw [List.lookup, beq_false_of_ne e]; exact h1, h2⟩
def tFldE (K : PySem.W.Frag) (f : Str) (te : TE) : TE := fun σ H Q => te σ H fun x H1 => ∃ (a C d : Addr) (xs : List (Str × V)) (v : V), x = .ref a ∧ XfC K C ∧ PySem.W.findIn K (.ref C) f = some none ∧ H1 a = some (exo a C (some d)) ∧ H1 d = some (exd d xs) ∧ xs.lookup f = some v ∧ Q v H1
theorem pe_fldE {e : Expr} {te : TE} {n : Str} (he : PE X e te) (hb : attributeBase e n X.env (eval e X.env) = eval e X.env := by rfl) : PE X (.Attribute e n pos) (tFldE X.K n te) := by
  refine ⟨fun pins s σ H Q I h => ?_⟩
  refine attr_of hb (thn (he.run pins s σ H _ I h) fun u s1 hh => ?_)
  obtain ⟨x, H1, I1, rx, a, C, d, xs, v, ex, T, hno, h1, h2, l, q⟩ := hh
  subst ex
  obtain rfl : u = Value.ref a := rx
  obtain ⟨t1, ho⟩ := exo_at I1.hok h1
  obtain ⟨mA, hns, rel⟩ := exd_at I1.hok h2
  obtain ⟨od, hod, hl⟩ := lookIn_ns hns
  obtain ⟨u, hu, ru⟩ := RelO.some_of (v := v) (o := mA n) (by rw [← l]; exact rel n)
  have J : PySem.W.InstAt s1.heap a _ C (some od) := ⟨ho, rfl, rfl, hod⟩
  exact HandSPX.exc_get I1.kIn J T.ga T.gg T.exC (PySem.W.findObj_own T.hdC hno rfl (by rw [hl, hu])) (handed_of ru) ⟨v, H1, I1.tok _, ru, q⟩
theorem de_fldE {e : Expr} {g : Mo PyData} {C : Addr} {f : Str} (he : DE X W e g) (T : XfC X.K C) (hno : PySem.W.findIn X.K (.ref C) f = some none) (hb : attributeBase e f X.env (eval e X.env) = eval e X.env := by rfl) :
    DE X W (.Attribute e f pos) (bnd g fun d δ => Res.of (oFldE C f d) δ) := by
  obtain ⟨t, pt, q⟩ := he
  refine ⟨_, pe_fldE pt hb, fun σ H F δ fp Q s h => ?_⟩
  refine q σ H F δ fp _ s ((RPost.bind h).imp fun d δ1 F1 H1 fp1 e1 s1 h1 v rv => ?_)
  obtain ⟨z, ez, h2⟩ := RPost.of h1
  obtain ⟨ds, rfl, hf⟩ := oFldE_spec ez
  obtain ⟨a, rfl, c, ⟨h3, _⟩ | ⟨d, xs, h3, h4, h5⟩⟩ := rv.err
  · subst h3; cases hf
  · obtain ⟨w, h6, h7⟩ := fldOf_rp h5 hf
    exact ⟨a, C, d, xs, w, rfl, T, hno, s1.inn _ _ h3, s1.inn _ _ h4, h6, h2 F1 H1 fp1 (Ext.refl s1.inn) s1 _ h7⟩
end
/-! ### the hook: what the written part says of these classes -/
def excB (K : PySem.W.Frag) (C : Addr) : Bool := decide (PySem.W.findIn K (.ref C) "__getattribute__" = some (some (.builtin "BaseException.__getattribute__"))) && (decide (PySem.W.findIn K (.ref C) "__getattr__" = some none) && (decide (PySem.W.subIn K (.ref C) (.type "BaseException") = some true) &&
  (PySem.W.hasDictIn K C && (decide (PySem.W.findIn K (.ref C) "__class__" = some (some (.builtin "object.__class__"))) && (decide (PySem.W.specialIn K (.builtin "object.__class__") "__get__" = some (some (.builtin "getset_descriptor.__get__"))) &&
  (decide (PySem.W.takesIn K (.builtin "object.__class__") = some true) && decide (PySem.W.mroIn K C (.type "object") = some true)))))))
theorem excB_ok {K : PySem.W.Frag} {C : Addr} (h : excB K C = true) : ExcC K C := by
  unfold excB at h
  simp only [Bool.and_eq_true, decide_eq_true_eq] at h
  obtain ⟨h1, h2, h3, h4, h5, h6, h7, h8⟩ := h
  exact ⟨h1, h2, h3, h4, h5, h6, h7, h8⟩
def errAll (K : PySem.W.Frag) (ys : List Str) (tb : List (Str × Str × Bool)) (bo : List (String × Bool)) (bt : List (List String × Bool)) : Bool :=
  ys.all (fun x => excB K (He.ga K x)) && (tb.all (fun t => decide (PySem.W.kitOne K (.ref (He.ga K t.1)) (.ref (He.ga K t.2.1)) = some t.2.2)) &&
  (bo.all (fun p => ys.all fun x => decide (PySem.W.kitOne K (.ref (He.ga K x)) (.type p.1) = some p.2)) && bt.all (fun p => ys.all fun x => decide (PySem.W.kitAny K (.ref (He.ga K x)) (p.1.map .type) = some p.2))))
section
variable {K : PySem.W.Frag} {ys : List Str} {tb : List (Str × Str × Bool)} {bo : List (String × Bool)} {bt : List (List String × Bool)}
theorem ec_at (h : errAll K ys tb bo bt = true) (x : Str) (hx : x ∈ ys) : ExcC K (He.ga K x) := by
  unfold errAll at h
  simp only [Bool.and_eq_true] at h
  exact excB_ok (List.all_eq_true.mp h.1 x hx)
theorem tb_at (h : errAll K ys tb bo bt = true) (x y : Str) (b : Bool) (hx : (x, y, b) ∈ tb) : PySem.W.kitOne K (.ref (He.ga K x)) (.ref (He.ga K y)) = some b := by
  unfold errAll at h
  simp only [Bool.and_eq_true] at h
  exact of_decide_eq_true (List.all_eq_true.mp h.2.1 _ hx)
theorem bo_at (h : errAll K ys tb bo bt = true) (T : String) (b : Bool) (hx : (T, b) ∈ bo) : ∀ c ∈ ys.map (He.ga K), PySem.W.kitOne K (.ref c) (.type T) = some b := by
  unfold errAll at h
  simp only [Bool.and_eq_true] at h
  intro c hc
  obtain ⟨x, h1, rfl⟩ := List.mem_map.mp hc
  exact of_decide_eq_true (List.all_eq_true.mp (List.all_eq_true.mp h.2.2.1 _ hx) x h1)
theorem bt_at (h : errAll K ys tb bo bt = true) (Ts : List String) (b : Bool) (hx : (Ts, b) ∈ bt) : ∀ c ∈ ys.map (He.ga K), PySem.W.kitAny K (.ref c) (Ts.map .type) = some b := by
  unfold errAll at h
  simp only [Bool.and_eq_true] at h
  intro c hc
  obtain ⟨x, h1, rfl⟩ := List.mem_map.mp hc
  exact of_decide_eq_true (List.all_eq_true.mp (List.all_eq_true.mp h.2.2.2 _ hx) x h1)
end
def obsY (n : Nat) (fa : List He.Fa) (fn : List He.DefD) (xs : List Str) (p : Option Str) (ys : List Str) (tb : List (Str × Str × Bool)) (bo : List (String × Bool)) (bt : List (List String × Bool)) (g : Addr → Option Obj) : AlE :=
  (He.obsD fa fn (He.frG g (cStatics :: sysModules :: He.asD g n)), sysOk (He.frG g (cStatics :: sysModules :: He.asD g n)) && (exAll (He.frG g (cStatics :: sysModules :: He.asD g n)) xs p && errAll (He.frG g (cStatics :: sysModules :: He.asD g n)) ys tb bo bt))
def hookY (n : Nat) (fa : List He.Fa) (fn : List He.DefD) (xs : List Str) (p : Option Str) (ys : List Str) (tb : List (Str × Str × Bool)) (bo : List (String × Bool)) (bt : List (List String × Bool)) : PySem.W.Hook where
  α := AlE
  obs := fun s => obsY n fa fn xs p ys tb bo bt s.heap.get?
  val := fun _ => (He.valD fn, true)
  says := fun _ h => ∃ K : PySem.W.Frag, K.In h ∧ He.SaysD fa fn K ∧ sysOk K = true ∧ exAll K xs p = true ∧ errAll K ys tb bo bt = true
  of := fun _ _ e => by
    have h := Bool.and_eq_true_iff.mp (congrArg Prod.snd e)
    have h2 := Bool.and_eq_true_iff.mp h.2
    exact ⟨_, He.frG_in, congrArg Prod.fst e, h.1, h2.1, h2.2⟩
  keeps := fun _ _ _ ⟨K, a, b⟩ k => ⟨K, PySem.W.Frag.In.keeps a k, b⟩
theorem obsY_eq {n : Nat} {fa : List He.Fa} {fn : List He.DefD} {xs : List Str} {p : Option Str} {ys : List Str} {tb : List (Str × Str × Bool)} {bo : List (String × Bool)} {bt : List (List String × Bool)} {g : Addr → Option Obj} {s : Shared} (h : ∀ a, g a = s.heap.get? a) : obsY n fa fn xs p ys tb bo bt g = (hookY n fa fn xs p ys tb bo bt).obs s := by
  have e : g = s.heap.get? := funext h
  subst e
  rfl
def clsSt (s : Stmt) (j : Nat) : Stmt := match s with
  | .ClassDef _ _ _ b _ _ _ _ _ _ _ => b.getD j (.Pass ⟨0, 0, 0, 0⟩)
  | _ => .Pass ⟨0, 0, 0, 0⟩
end DL
namespace Lw
open PySem PySem.Spec PyProof.Rows L2 DL
def top (i : Nat) : Stmt := PySem.Challenge.pw_stemrules_k01_errors.main.body.getD i (.Pass ⟨0, 0, 0, 0⟩)
abbrev s__law_kneaded : Stmt := top 12
theorem sc__law_kneaded : FnScope ["seed", "lap", "prime", "amount", "again"] ["seed", "lap"] (defScope s__law_kneaded) := ⟨rfl, rfl, rfl, by decide +kernel, rfl, by decide +kernel, by decide +kernel⟩
abbrev s__law_pot_of : Stmt := top 13
theorem sc__law_pot_of : FnScope ["script", "cells", "place", "cell"] ["script"] (defScope s__law_pot_of) := ⟨rfl, rfl, rfl, by decide +kernel, rfl, by decide +kernel, by decide +kernel⟩
abbrev s__law_below : Stmt := top 14
theorem sc__law_below : FnScope ["pot", "bound", "cells", "place", "amount", "found"] ["pot", "bound"] (defScope s__law_below) := ⟨rfl, rfl, rfl, by decide +kernel, rfl, by decide +kernel, by decide +kernel⟩
abbrev s__law_made : Stmt := top 15
theorem sc__law_made : FnScope ["limit", "line", "found"] ["limit", "line"] (defScope s__law_made) := ⟨rfl, rfl, rfl, by decide +kernel, rfl, by decide +kernel, by decide +kernel⟩
abbrev s__law_classes : Stmt := top 16
theorem sc__law_classes : FnScope ["error", "found"] ["error"] (defScope s__law_classes) := ⟨rfl, rfl, rfl, by decide +kernel, rfl, by decide +kernel, by decide +kernel⟩
abbrev s_law : Stmt := top 17
theorem sc_law : FnScope ["script", "pot", "limit", "line", "errors", "at", "error", "fields", "spot"] ["script"] (defScope s_law) := ⟨rfl, rfl, rfl, by decide +kernel, rfl, by decide +kernel, by decide +kernel⟩
abbrev s_TooMany___init__ : Stmt := clsSt (top 2) 0
theorem sc_TooMany___init__ : FnScope ["self", "limit"] ["self", "limit"] (defScope s_TooMany___init__) := ⟨rfl, rfl, rfl, by decide +kernel, rfl, by decide +kernel, by decide +kernel⟩
abbrev s_SyntaxProblem___init__ : Stmt := clsSt (top 3) 0
theorem sc_SyntaxProblem___init__ : FnScope ["self", "line", "column"] ["self", "line", "column"] (defScope s_SyntaxProblem___init__) := ⟨rfl, rfl, rfl, by decide +kernel, rfl, by decide +kernel, by decide +kernel⟩
abbrev eM (K : PySem.W.Frag) (c k : Addr) : Option Bool := PySem.W.kitOne K (.ref c) (.ref k)
structure MOk (g : PySem.Str → Addr) (m : Addr → Addr → Option Bool) : Prop where
  m_NoName_TooMany : m (g (PySem.Str.ofString "NoName")) (g (PySem.Str.ofString "TooMany")) = some false
  m_NoName_SyntaxProblem : m (g (PySem.Str.ofString "NoName")) (g (PySem.Str.ofString "SyntaxProblem")) = some false
  m_NoName_NoName : m (g (PySem.Str.ofString "NoName")) (g (PySem.Str.ofString "NoName")) = some true
  m_NoName_NoBook : m (g (PySem.Str.ofString "NoName")) (g (PySem.Str.ofString "NoBook")) = some false
  m_NoName_NoFiles : m (g (PySem.Str.ofString "NoName")) (g (PySem.Str.ofString "NoFiles")) = some false
  m_NoName_NoRule : m (g (PySem.Str.ofString "NoName")) (g (PySem.Str.ofString "NoRule")) = some false
  m_NoName_NoMark : m (g (PySem.Str.ofString "NoName")) (g (PySem.Str.ofString "NoMark")) = some false
  m_NoName_Mismatch : m (g (PySem.Str.ofString "NoName")) (g (PySem.Str.ofString "Mismatch")) = some false
  m_NoName_InvalidCommand : m (g (PySem.Str.ofString "NoName")) (g (PySem.Str.ofString "InvalidCommand")) = some false
  m_NoName_RuleError : m (g (PySem.Str.ofString "NoName")) (g (PySem.Str.ofString "RuleError")) = some true
  m_NoBook_TooMany : m (g (PySem.Str.ofString "NoBook")) (g (PySem.Str.ofString "TooMany")) = some false
  m_NoBook_SyntaxProblem : m (g (PySem.Str.ofString "NoBook")) (g (PySem.Str.ofString "SyntaxProblem")) = some false
  m_NoBook_NoName : m (g (PySem.Str.ofString "NoBook")) (g (PySem.Str.ofString "NoName")) = some false
  m_NoBook_NoBook : m (g (PySem.Str.ofString "NoBook")) (g (PySem.Str.ofString "NoBook")) = some true
  m_NoBook_NoFiles : m (g (PySem.Str.ofString "NoBook")) (g (PySem.Str.ofString "NoFiles")) = some false
  m_NoBook_NoRule : m (g (PySem.Str.ofString "NoBook")) (g (PySem.Str.ofString "NoRule")) = some false
  m_NoBook_NoMark : m (g (PySem.Str.ofString "NoBook")) (g (PySem.Str.ofString "NoMark")) = some false
  m_NoBook_Mismatch : m (g (PySem.Str.ofString "NoBook")) (g (PySem.Str.ofString "Mismatch")) = some false
  m_NoBook_InvalidCommand : m (g (PySem.Str.ofString "NoBook")) (g (PySem.Str.ofString "InvalidCommand")) = some false
  m_NoBook_RuleError : m (g (PySem.Str.ofString "NoBook")) (g (PySem.Str.ofString "RuleError")) = some true
  m_NoFiles_TooMany : m (g (PySem.Str.ofString "NoFiles")) (g (PySem.Str.ofString "TooMany")) = some false
  m_NoFiles_SyntaxProblem : m (g (PySem.Str.ofString "NoFiles")) (g (PySem.Str.ofString "SyntaxProblem")) = some false
  m_NoFiles_NoName : m (g (PySem.Str.ofString "NoFiles")) (g (PySem.Str.ofString "NoName")) = some false
  m_NoFiles_NoBook : m (g (PySem.Str.ofString "NoFiles")) (g (PySem.Str.ofString "NoBook")) = some false
  m_NoFiles_NoFiles : m (g (PySem.Str.ofString "NoFiles")) (g (PySem.Str.ofString "NoFiles")) = some true
  m_NoFiles_NoRule : m (g (PySem.Str.ofString "NoFiles")) (g (PySem.Str.ofString "NoRule")) = some false
  m_NoFiles_NoMark : m (g (PySem.Str.ofString "NoFiles")) (g (PySem.Str.ofString "NoMark")) = some false
  m_NoFiles_Mismatch : m (g (PySem.Str.ofString "NoFiles")) (g (PySem.Str.ofString "Mismatch")) = some false
  m_NoFiles_InvalidCommand : m (g (PySem.Str.ofString "NoFiles")) (g (PySem.Str.ofString "InvalidCommand")) = some false
  m_NoFiles_RuleError : m (g (PySem.Str.ofString "NoFiles")) (g (PySem.Str.ofString "RuleError")) = some true
  m_NoRule_TooMany : m (g (PySem.Str.ofString "NoRule")) (g (PySem.Str.ofString "TooMany")) = some false
  m_NoRule_SyntaxProblem : m (g (PySem.Str.ofString "NoRule")) (g (PySem.Str.ofString "SyntaxProblem")) = some false
  m_NoRule_NoName : m (g (PySem.Str.ofString "NoRule")) (g (PySem.Str.ofString "NoName")) = some false
  m_NoRule_NoBook : m (g (PySem.Str.ofString "NoRule")) (g (PySem.Str.ofString "NoBook")) = some false
  m_NoRule_NoFiles : m (g (PySem.Str.ofString "NoRule")) (g (PySem.Str.ofString "NoFiles")) = some false
  m_NoRule_NoRule : m (g (PySem.Str.ofString "NoRule")) (g (PySem.Str.ofString "NoRule")) = some true
  m_NoRule_NoMark : m (g (PySem.Str.ofString "NoRule")) (g (PySem.Str.ofString "NoMark")) = some false
  m_NoRule_Mismatch : m (g (PySem.Str.ofString "NoRule")) (g (PySem.Str.ofString "Mismatch")) = some false
  m_NoRule_InvalidCommand : m (g (PySem.Str.ofString "NoRule")) (g (PySem.Str.ofString "InvalidCommand")) = some false
  m_NoRule_RuleError : m (g (PySem.Str.ofString "NoRule")) (g (PySem.Str.ofString "RuleError")) = some true
  m_NoMark_TooMany : m (g (PySem.Str.ofString "NoMark")) (g (PySem.Str.ofString "TooMany")) = some false
  m_NoMark_SyntaxProblem : m (g (PySem.Str.ofString "NoMark")) (g (PySem.Str.ofString "SyntaxProblem")) = some false
  m_NoMark_NoName : m (g (PySem.Str.ofString "NoMark")) (g (PySem.Str.ofString "NoName")) = some false
  m_NoMark_NoBook : m (g (PySem.Str.ofString "NoMark")) (g (PySem.Str.ofString "NoBook")) = some false
  m_NoMark_NoFiles : m (g (PySem.Str.ofString "NoMark")) (g (PySem.Str.ofString "NoFiles")) = some false
  m_NoMark_NoRule : m (g (PySem.Str.ofString "NoMark")) (g (PySem.Str.ofString "NoRule")) = some false
  m_NoMark_NoMark : m (g (PySem.Str.ofString "NoMark")) (g (PySem.Str.ofString "NoMark")) = some true
  m_NoMark_Mismatch : m (g (PySem.Str.ofString "NoMark")) (g (PySem.Str.ofString "Mismatch")) = some false
  m_NoMark_InvalidCommand : m (g (PySem.Str.ofString "NoMark")) (g (PySem.Str.ofString "InvalidCommand")) = some false
  m_NoMark_RuleError : m (g (PySem.Str.ofString "NoMark")) (g (PySem.Str.ofString "RuleError")) = some true
  m_Mismatch_TooMany : m (g (PySem.Str.ofString "Mismatch")) (g (PySem.Str.ofString "TooMany")) = some false
  m_Mismatch_SyntaxProblem : m (g (PySem.Str.ofString "Mismatch")) (g (PySem.Str.ofString "SyntaxProblem")) = some false
  m_Mismatch_NoName : m (g (PySem.Str.ofString "Mismatch")) (g (PySem.Str.ofString "NoName")) = some false
  m_Mismatch_NoBook : m (g (PySem.Str.ofString "Mismatch")) (g (PySem.Str.ofString "NoBook")) = some false
  m_Mismatch_NoFiles : m (g (PySem.Str.ofString "Mismatch")) (g (PySem.Str.ofString "NoFiles")) = some false
  m_Mismatch_NoRule : m (g (PySem.Str.ofString "Mismatch")) (g (PySem.Str.ofString "NoRule")) = some false
  m_Mismatch_NoMark : m (g (PySem.Str.ofString "Mismatch")) (g (PySem.Str.ofString "NoMark")) = some false
  m_Mismatch_Mismatch : m (g (PySem.Str.ofString "Mismatch")) (g (PySem.Str.ofString "Mismatch")) = some true
  m_Mismatch_InvalidCommand : m (g (PySem.Str.ofString "Mismatch")) (g (PySem.Str.ofString "InvalidCommand")) = some false
  m_Mismatch_RuleError : m (g (PySem.Str.ofString "Mismatch")) (g (PySem.Str.ofString "RuleError")) = some true
  m_InvalidCommand_TooMany : m (g (PySem.Str.ofString "InvalidCommand")) (g (PySem.Str.ofString "TooMany")) = some false
  m_InvalidCommand_SyntaxProblem : m (g (PySem.Str.ofString "InvalidCommand")) (g (PySem.Str.ofString "SyntaxProblem")) = some false
  m_InvalidCommand_NoName : m (g (PySem.Str.ofString "InvalidCommand")) (g (PySem.Str.ofString "NoName")) = some false
  m_InvalidCommand_NoBook : m (g (PySem.Str.ofString "InvalidCommand")) (g (PySem.Str.ofString "NoBook")) = some false
  m_InvalidCommand_NoFiles : m (g (PySem.Str.ofString "InvalidCommand")) (g (PySem.Str.ofString "NoFiles")) = some false
  m_InvalidCommand_NoRule : m (g (PySem.Str.ofString "InvalidCommand")) (g (PySem.Str.ofString "NoRule")) = some false
  m_InvalidCommand_NoMark : m (g (PySem.Str.ofString "InvalidCommand")) (g (PySem.Str.ofString "NoMark")) = some false
  m_InvalidCommand_Mismatch : m (g (PySem.Str.ofString "InvalidCommand")) (g (PySem.Str.ofString "Mismatch")) = some false
  m_InvalidCommand_InvalidCommand : m (g (PySem.Str.ofString "InvalidCommand")) (g (PySem.Str.ofString "InvalidCommand")) = some true
  m_InvalidCommand_RuleError : m (g (PySem.Str.ofString "InvalidCommand")) (g (PySem.Str.ofString "RuleError")) = some true
  m_RuleError_TooMany : m (g (PySem.Str.ofString "RuleError")) (g (PySem.Str.ofString "TooMany")) = some false
  m_RuleError_SyntaxProblem : m (g (PySem.Str.ofString "RuleError")) (g (PySem.Str.ofString "SyntaxProblem")) = some false
  m_RuleError_NoName : m (g (PySem.Str.ofString "RuleError")) (g (PySem.Str.ofString "NoName")) = some false
  m_RuleError_NoBook : m (g (PySem.Str.ofString "RuleError")) (g (PySem.Str.ofString "NoBook")) = some false
  m_RuleError_NoFiles : m (g (PySem.Str.ofString "RuleError")) (g (PySem.Str.ofString "NoFiles")) = some false
  m_RuleError_NoRule : m (g (PySem.Str.ofString "RuleError")) (g (PySem.Str.ofString "NoRule")) = some false
  m_RuleError_NoMark : m (g (PySem.Str.ofString "RuleError")) (g (PySem.Str.ofString "NoMark")) = some false
  m_RuleError_Mismatch : m (g (PySem.Str.ofString "RuleError")) (g (PySem.Str.ofString "Mismatch")) = some false
  m_RuleError_InvalidCommand : m (g (PySem.Str.ofString "RuleError")) (g (PySem.Str.ofString "InvalidCommand")) = some false
  m_RuleError_RuleError : m (g (PySem.Str.ofString "RuleError")) (g (PySem.Str.ofString "RuleError")) = some true
  m_TooMany_TooMany : m (g (PySem.Str.ofString "TooMany")) (g (PySem.Str.ofString "TooMany")) = some true
  m_TooMany_SyntaxProblem : m (g (PySem.Str.ofString "TooMany")) (g (PySem.Str.ofString "SyntaxProblem")) = some false
  m_TooMany_NoName : m (g (PySem.Str.ofString "TooMany")) (g (PySem.Str.ofString "NoName")) = some false
  m_TooMany_NoBook : m (g (PySem.Str.ofString "TooMany")) (g (PySem.Str.ofString "NoBook")) = some false
  m_TooMany_NoFiles : m (g (PySem.Str.ofString "TooMany")) (g (PySem.Str.ofString "NoFiles")) = some false
  m_TooMany_NoRule : m (g (PySem.Str.ofString "TooMany")) (g (PySem.Str.ofString "NoRule")) = some false
  m_TooMany_NoMark : m (g (PySem.Str.ofString "TooMany")) (g (PySem.Str.ofString "NoMark")) = some false
  m_TooMany_Mismatch : m (g (PySem.Str.ofString "TooMany")) (g (PySem.Str.ofString "Mismatch")) = some false
  m_TooMany_InvalidCommand : m (g (PySem.Str.ofString "TooMany")) (g (PySem.Str.ofString "InvalidCommand")) = some false
  m_TooMany_RuleError : m (g (PySem.Str.ofString "TooMany")) (g (PySem.Str.ofString "RuleError")) = some true
  m_SyntaxProblem_TooMany : m (g (PySem.Str.ofString "SyntaxProblem")) (g (PySem.Str.ofString "TooMany")) = some false
  m_SyntaxProblem_SyntaxProblem : m (g (PySem.Str.ofString "SyntaxProblem")) (g (PySem.Str.ofString "SyntaxProblem")) = some true
  m_SyntaxProblem_NoName : m (g (PySem.Str.ofString "SyntaxProblem")) (g (PySem.Str.ofString "NoName")) = some false
  m_SyntaxProblem_NoBook : m (g (PySem.Str.ofString "SyntaxProblem")) (g (PySem.Str.ofString "NoBook")) = some false
  m_SyntaxProblem_NoFiles : m (g (PySem.Str.ofString "SyntaxProblem")) (g (PySem.Str.ofString "NoFiles")) = some false
  m_SyntaxProblem_NoRule : m (g (PySem.Str.ofString "SyntaxProblem")) (g (PySem.Str.ofString "NoRule")) = some false
  m_SyntaxProblem_NoMark : m (g (PySem.Str.ofString "SyntaxProblem")) (g (PySem.Str.ofString "NoMark")) = some false
  m_SyntaxProblem_Mismatch : m (g (PySem.Str.ofString "SyntaxProblem")) (g (PySem.Str.ofString "Mismatch")) = some false
  m_SyntaxProblem_InvalidCommand : m (g (PySem.Str.ofString "SyntaxProblem")) (g (PySem.Str.ofString "InvalidCommand")) = some false
  m_SyntaxProblem_RuleError : m (g (PySem.Str.ofString "SyntaxProblem")) (g (PySem.Str.ofString "RuleError")) = some true
def errN : List Str := [(PySem.Str.ofString "TooMany"), (PySem.Str.ofString "SyntaxProblem"), (PySem.Str.ofString "NoName"), (PySem.Str.ofString "NoBook"), (PySem.Str.ofString "NoFiles"), (PySem.Str.ofString "NoRule"), (PySem.Str.ofString "NoMark"), (PySem.Str.ofString "Mismatch"), (PySem.Str.ofString "InvalidCommand"), (PySem.Str.ofString "RuleError")]
def errL (g : PySem.Str → Addr) : List Addr := errN.map g
structure Tx (K : PySem.W.Frag) (mg : Str → Option Value) : Prop where
  g__law_kneaded : mg "_law_kneaded" = some (.ref (He.ga K "_law_kneaded"))
  f__law_kneaded : ∃ fd, FunD K "_law_kneaded" "_law_kneaded" (defArgs s__law_kneaded) (defBody s__law_kneaded) (defScope s__law_kneaded) [] [] (He.ga K "_law_kneaded") fd
  g__law_pot_of : mg "_law_pot_of" = some (.ref (He.ga K "_law_pot_of"))
  f__law_pot_of : ∃ fd, FunD K "_law_pot_of" "_law_pot_of" (defArgs s__law_pot_of) (defBody s__law_pot_of) (defScope s__law_pot_of) [] [] (He.ga K "_law_pot_of") fd
  g__law_below : mg "_law_below" = some (.ref (He.ga K "_law_below"))
  f__law_below : ∃ fd, FunD K "_law_below" "_law_below" (defArgs s__law_below) (defBody s__law_below) (defScope s__law_below) [] [] (He.ga K "_law_below") fd
  g__law_made : mg "_law_made" = some (.ref (He.ga K "_law_made"))
  f__law_made : ∃ fd, FunD K "_law_made" "_law_made" (defArgs s__law_made) (defBody s__law_made) (defScope s__law_made) [] [] (He.ga K "_law_made") fd
  g__law_classes : mg "_law_classes" = some (.ref (He.ga K "_law_classes"))
  f__law_classes : ∃ fd, FunD K "_law_classes" "_law_classes" (defArgs s__law_classes) (defBody s__law_classes) (defScope s__law_classes) [] [] (He.ga K "_law_classes") fd
  g_law : mg "law" = some (.ref (He.ga K "law"))
  f_law : ∃ fd, FunD K "law" "law" (defArgs s_law) (defBody s_law) (defScope s_law) [] [] (He.ga K "law") fd
  f_TooMany___init__ : ∃ fd, FunD K "__init__" "TooMany.__init__" (defArgs s_TooMany___init__) (defBody s_TooMany___init__) (defScope s_TooMany___init__) [] [] (He.ma K (He.ga K "TooMany") "__init__") fd
  x_TooMany : ErrI K mg "TooMany" (He.ga K "TooMany")
  nx_TooMany_limit : PySem.W.findIn K (.ref (He.ga K "TooMany")) "limit" = some none
  f_SyntaxProblem___init__ : ∃ fd, FunD K "__init__" "SyntaxProblem.__init__" (defArgs s_SyntaxProblem___init__) (defBody s_SyntaxProblem___init__) (defScope s_SyntaxProblem___init__) [] [] (He.ma K (He.ga K "SyntaxProblem") "__init__") fd
  x_SyntaxProblem : ErrI K mg "SyntaxProblem" (He.ga K "SyntaxProblem")
  nx_SyntaxProblem_line : PySem.W.findIn K (.ref (He.ga K "SyntaxProblem")) "line" = some none
  nx_SyntaxProblem_column : PySem.W.findIn K (.ref (He.ga K "SyntaxProblem")) "column" = some none
  par_ : ParI K mg "RuleError" (He.ga K "RuleError")
  e_NoName : ErrC K mg "NoName" (He.ga K "NoName")
  e_NoBook : ErrC K mg "NoBook" (He.ga K "NoBook")
  e_NoFiles : ErrC K mg "NoFiles" (He.ga K "NoFiles")
  e_NoRule : ErrC K mg "NoRule" (He.ga K "NoRule")
  e_NoMark : ErrC K mg "NoMark" (He.ga K "NoMark")
  e_Mismatch : ErrC K mg "Mismatch" (He.ga K "Mismatch")
  e_InvalidCommand : ErrC K mg "InvalidCommand" (He.ga K "InvalidCommand")
  e_RuleError : ErrC K mg "RuleError" (He.ga K "RuleError")
  ec_TooMany : ExcC K (He.ga K "TooMany")
  ec_SyntaxProblem : ExcC K (He.ga K "SyntaxProblem")
  ec_NoName : ExcC K (He.ga K "NoName")
  ec_NoBook : ExcC K (He.ga K "NoBook")
  ec_NoFiles : ExcC K (He.ga K "NoFiles")
  ec_NoRule : ExcC K (He.ga K "NoRule")
  ec_NoMark : ExcC K (He.ga K "NoMark")
  ec_Mismatch : ExcC K (He.ga K "Mismatch")
  ec_InvalidCommand : ExcC K (He.ga K "InvalidCommand")
  ec_RuleError : ExcC K (He.ga K "RuleError")
  b_ValueError : ∀ c ∈ errL (He.ga K), PySem.W.kitOne K (.ref c) (.type "ValueError") = some true
  bt_0 : ∀ c ∈ errL (He.ga K), PySem.W.kitAny K (.ref c) ((["KeyError", "IndexError", "TypeError"] : List String).map .type) = some false
  sys : sysOk K = true
  n_IndexError : mg "IndexError" = none
  n_KeyError : mg "KeyError" = none
  n_TypeError : mg "TypeError" = none
  n_ValueError : mg "ValueError" = none
  n_abs : mg "abs" = none
  n_enumerate : mg "enumerate" = none
  n_int : mg "int" = none
  n_isinstance : mg "isinstance" = none
  n_len : mg "len" = none
  n_range : mg "range" = none
noncomputable section
variable {P : Program} {w : World} {K : PySem.W.Frag} {mg : Str → Option Value} {base : Heap}
theorem ini_TooMany (T : Tx K mg) : IniD P w K mg base "TooMany" (He.ga K "TooMany") [(PySem.Str.ofString "limit")] := by
  obtain ⟨fd, F⟩ := T.f_TooMany___init__
  refine ⟨T.x_TooMany, fd, ["self", "limit"], rfl, F.ok (k := 0) sc_TooMany___init__ spI_len (fun cdv A outer s H vs Q E hr h => ⟨_, pss_cons (ps_expr (pe_cinit T.par_ (pa_cons (pv 0) (pa_cons (pe_joined (.cons pe_str (.cons (pe_fmt (pv 1)) (.nil)))) pa_nil)))) (pss_cons (ps_ost (pv 0) (pv 1)) (pss_nil)), ?_⟩), F.bindsN (fun _ _ _ _ _ _ us hl => match us, hl with | [_, _], _ => rfl)⟩
  have e : L2.start ["self", "limit"] vs = vs.map some ++ [] := by unfold L2.start; rw [spI_len _ _ _ _ h]; rfl
  rw [e]
  exact t_ini1 (rest := []) T.x_TooMany.oex T.nx_TooMany_limit (by decide) h
theorem ini_SyntaxProblem (T : Tx K mg) : IniD P w K mg base "SyntaxProblem" (He.ga K "SyntaxProblem") [(PySem.Str.ofString "line"), (PySem.Str.ofString "column")] := by
  obtain ⟨fd, F⟩ := T.f_SyntaxProblem___init__
  refine ⟨T.x_SyntaxProblem, fd, ["self", "line", "column"], rfl, F.ok (k := 0) sc_SyntaxProblem___init__ spI_len (fun cdv A outer s H vs Q E hr h => ⟨_, pss_cons (ps_expr (pe_cinit T.par_ (pa_cons (pv 0) (pa_cons (pe_joined (.cons pe_str (.cons (pe_fmt (pv 1)) (.cons pe_str (.cons (pe_fmt (pv 2)) (.nil)))))) pa_nil)))) (pss_cons (ps_ost (pv 0) (pv 1)) (pss_cons (ps_ost (pv 0) (pv 2)) (pss_nil))), ?_⟩), F.bindsN (fun _ _ _ _ _ _ us hl => match us, hl with | [_, _, _], _ => rfl)⟩
  have e : L2.start ["self", "line", "column"] vs = vs.map some ++ [] := by unfold L2.start; rw [spI_len _ _ _ _ h]; rfl
  rw [e]
  exact t_ini2 (rest := []) T.x_SyntaxProblem.oex T.nx_SyntaxProblem_line T.nx_SyntaxProblem_column (by decide) (by decide) h
-- _law_kneaded: 0=seed 1=lap 2=prime 3=amount 4=again
def b__law_kneaded : Mo Fl :=
  sSeq (sSetN 2 (mC (.int 2305843009213693907))) (sSeq (sSetN 3 (op2 oMod (mCall cInt (mCons (op2 oAdd (op2 oAdd (op2 oMulS (mVar 0) (mC (.int 2862933555777941757))) (op2 oMulS (mVar 1) (mC (.int 3037000493)))) (mC (.int 29))) (mNil))) (mVar 2))) (sSeq (sFor (tauN 4) (mRng (mCons (mC (.int 4)) (mNil))) (sSetN 3 (op2 oMod (mCall cInt (mCons (op2 oAdd (op2 oAdd (op2 oAdd (op2 oMulS (mVar 3) (mVar 3)) (op2 oMulS (mC (.int 11)) (mVar 3))) (op2 oMulS (mC (.int 4099)) (mVar 4))) (mVar 1)) (mNil))) (mVar 2)))) (sRet (op2 oAdd (op2 oMulS (mVar 3) (mVar 2)) (op2 oMod (mCall cInt (mCons (op2 oAdd (op2 oMulS (mVar 3) (mC (.int 69621))) (mVar 1)) (mNil))) (mVar 2))))))
def fn__law_kneaded : FnD := fnOfB [] 2 3 b__law_kneaded
theorem ok__law_kneaded (T : Tx K mg) : CallD P w K mg base 1 "_law_kneaded" ["seed", "lap"] (fn__law_kneaded) := by
  obtain ⟨fd, F⟩ := T.f__law_kneaded
  exact callD_mk (k := 0) (kp := []) (m := 3) F T.g__law_kneaded sc__law_kneaded rfl (fun _ _ _ _ _ _ us hl => match us, hl with | [_, _], _ => rfl) fun cdv A outer s H E hg hr tk =>
    ds_cons (ds_setN (i := 2) sc__law_kneaded.nd rfl (by first | exact Or.inl rfl | exact Or.inr rfl) (de_int)) (ds_cons (ds_setN (i := 3) sc__law_kneaded.nd rfl (by first | exact Or.inl rfl | exact Or.inr rfl) (de_op ok_mod (de_callTy ok_int (by rfl) T.n_int (by decide +kernel) (da_cons (de_op ok_add (de_op ok_add (de_op ok_mulS (de_var 0 (pv 0)) (de_int)) (de_op ok_mulS (de_var 1 (pv 1)) (de_int))) (de_int)) (da_nil))) (de_var 2 (pv 2)))) (ds_cons (ds_for (passes_of rfl) rfl (di_range1 T.n_range (da_cons (de_int) (da_nil))) (dg_name 4 (pg_name (i := 4) sc__law_kneaded.nd rfl (by first | exact Or.inl rfl | exact Or.inr rfl))) (ds_one (ds_setN (i := 3) sc__law_kneaded.nd rfl (by first | exact Or.inl rfl | exact Or.inr rfl) (de_op ok_mod (de_callTy ok_int (by rfl) T.n_int (by decide +kernel) (da_cons (de_op ok_add (de_op ok_add (de_op ok_add (de_op ok_mulS (de_var 3 (pv 3)) (de_var 3 (pv 3))) (de_op ok_mulS (de_int) (de_var 3 (pv 3)))) (de_op ok_mulS (de_int) (de_var 4 (pv 4)))) (de_var 1 (pv 1))) (da_nil))) (de_var 2 (pv 2)))))) (ds_one (ds_ret (de_op ok_add (de_op ok_mulS (de_var 3 (pv 3)) (de_var 2 (pv 2))) (de_op ok_mod (de_callTy ok_int (by rfl) T.n_int (by decide +kernel) (da_cons (de_op ok_add (de_op ok_mulS (de_var 3 (pv 3)) (de_int)) (de_var 1 (pv 1))) (da_nil))) (de_var 2 (pv 2))))))))
-- _law_pot_of: 0=script 1=cells 2=place 3=cell
def b__law_pot_of : Mo Fl :=
  sSeq (sSetV 1 (mLc [3] (tauN 3) (mItems (mSlice (mVar 0) (oNo) (oSo (mC (.int 17))))) (mYes) (mCall cAbs (mCons (mVar 3) (mNil))))) (sSeq (sFor (tauT 2 (tausCons (tauN 2) (tausCons (tauN 3) (tausNil)))) (mEnum (mCons (mSlice (mVar 0) (oSo (mC (.int 17))) (oSo (mC (.int 60)))) (mNil))) (sSetItem 1 (op2 oMod (mVar 2) (mC (.int 17))) (op2 oAdd (op2N oIx 1 (op2 oMod (mVar 2) (mC (.int 17)))) (mCall cAbs (mCons (mVar 3) (mNil)))))) (sRetV (vLst (mCons (mFrz 1) (mCons (mC (.int 0)) (mCons (mC (.int 0)) (mCons (mC (.int 0)) (mNil))))))))
def fn__law_pot_of : FnD := fnOfB [] 1 3 b__law_pot_of
theorem ok__law_pot_of (T : Tx K mg) : CallD P w K mg base 1 "_law_pot_of" ["script"] (fn__law_pot_of) := by
  obtain ⟨fd, F⟩ := T.f__law_pot_of
  exact callD_mk (k := 0) (kp := []) (m := 3) F T.g__law_pot_of sc__law_pot_of rfl (fun _ _ _ _ _ _ us hl => match us, hl with | [_], _ => rfl) fun cdv A outer s H E hg hr tk =>
    ds_cons (ds_setLc (i := 1) (own := [((PySem.Str.ofString "cell"), 3)]) rfl sc__law_pot_of.nd rfl rfl (sw_true rfl rfl rfl (by decide +kernel)) (di_data (de_slice (de_var 0 (pv 0)) (do_none) (do_some (de_int)))) (blkOk_by (own := [((PySem.Str.ofString "cell"), 3)]) (by kernel_rfl)) (by decide) (fun _ _ _ _ _ => dg_name 3 (pg_name (i := 3) sc__law_pot_of.nd rfl (by first | exact Or.inl rfl | exact Or.inr rfl))) (fun _ _ _ _ _ => dts_nil) (fun _ _ _ _ _ => de_callB ok_abs (by rfl) T.n_abs (by decide +kernel) (da_cons (de_var 3 (pv 3)) (da_nil)))) (ds_cons (ds_for (passes_of rfl) rfl (di_enum T.n_enumerate (da_cons (de_slice (de_var 0 (pv 0)) (do_some (de_int)) (do_some (de_int))) (da_nil))) (dg_tup rfl (dgs_cons (dg_name 2 (pg_name (i := 2) sc__law_pot_of.nd rfl (by first | exact Or.inl rfl | exact Or.inr rfl))) (dgs_cons (dg_name 3 (pg_name (i := 3) sc__law_pot_of.nd rfl (by first | exact Or.inl rfl | exact Or.inr rfl))) (dgs_nil)))) (ds_one (ds_setItem (pv 1) (de_op ok_mod (de_var 2 (pv 2)) (de_int)) (de_op ok_add (de_ixN ok_ix (pv 1) (de_op ok_mod (de_var 2 (pv 2)) (de_int))) (de_callB ok_abs (by rfl) T.n_abs (by decide +kernel) (da_cons (de_var 3 (pv 3)) (da_nil))))))) (ds_one (ds_retV (dv_lst (da_cons (de_frzN 1 (pv 1)) (da_cons (de_int) (da_cons (de_int) (da_cons (de_int) (da_nil)))))))))
-- _law_below: 0=pot 1=bound 2=cells 3=place 4=amount 5=found
def b__law_below : Mo Fl :=
  sSeq (sIf (tst (op2 oLt (op2N oIx 0 (mC (.int 3))) (mVar 1))) (sSeq (sPar 2 3 (mCons (op2N oIx 0 (mC (.int 0))) (mCons (op2N oIx 0 (mC (.int 1))) (mNil)))) (sSeq (sSetN 4 (mIf (tst (op2 oNe (mVar 2) (mLst (mNil)))) (op2 oIx (mVar 2) (op2 oMod (mVar 3) (mCall cLen (mCons (mVar 2) (mNil))))) (mC (.int 0)))) (sSeq (sIf (mOr (tst (op2 oGe (mVar 3) (mCall cLen (mCons (mVar 2) (mNil))))) (tst (op2 oLt (mVar 4) (op2 oPow (mC (.int 10)) (mC (.int 16)))))) (sSetN 4 (bnd (mCallD fn__law_kneaded (aDat (op2 oMod (mCall cInt (mCons (mVar 4) (mNil))) (mC (.int 982451629))) (aDat (mVar 3) (aNil)))) frzV)) (sNx)) (sSeq (sSetItem 0 (mC (.int 1)) (op2 oAdd (mVar 3) (mC (.int 1)))) (sSeq (sSetItem 0 (mC (.int 2)) (mVar 4)) (sSetItem 0 (mC (.int 3)) (mVar 4))))))) (sNx)) (sSeq (sSetN 5 (op2 oMod (mCall cInt (mCons (op2N oIx 0 (mC (.int 2))) (mNil))) (mVar 1))) (sSeq (sSetItem 0 (mC (.int 2)) (op2 oFdv (op2N oIx 0 (mC (.int 2))) (mVar 1))) (sSeq (sSetItem 0 (mC (.int 3)) (op2 oFdv (op2N oIx 0 (mC (.int 3))) (mVar 1))) (sRet (mVar 5)))))
def fn__law_below : FnD := fnOfB [0] 2 4 b__law_below
theorem ok__law_below (T : Tx K mg) : CallD P w K mg base 2 "_law_below" ["pot", "bound"] (fn__law_below) := by
  obtain ⟨fd, F⟩ := T.f__law_below
  exact callD_mk (k := 1) (kp := [0]) (m := 4) F T.g__law_below sc__law_below rfl (fun _ _ _ _ _ _ us hl => match us, hl with | [_, _], _ => rfl) fun cdv A outer s H E hg hr tk =>
    ds_cons (ds_if (dt_cmp (ok_lt) (de_ixN ok_ix (pv 0) (de_int)) (de_var 1 (pv 1))) (ds_cons (ds_par (i := 2) (j := 3) rfl sc__law_below.nd rfl rfl (by decide) rfl rfl (da_cons (de_ixN ok_ix (pv 0) (de_int)) (da_cons (de_ixN ok_ix (pv 0) (de_int)) (da_nil))) (by rfl)) (ds_cons (ds_setN (i := 4) sc__law_below.nd rfl (by first | exact Or.inl rfl | exact Or.inr rfl) (de_if (dt_cmp (ok_ne hr.units) (de_var 2 (pv 2)) (de_lst (da_nil))) (de_ix ok_ix (de_var 2 (pv 2)) (de_op ok_mod (de_var 3 (pv 3)) (de_callB ok_len (by rfl) T.n_len (by decide +kernel) (da_cons (de_var 2 (pv 2)) (da_nil))))) (de_int))) (ds_cons (ds_if (DTW.t (dw_or (dt_cmp (ok_ge) (de_var 3 (pv 3)) (de_callB ok_len (by rfl) T.n_len (by decide +kernel) (da_cons (de_var 2 (pv 2)) (da_nil)))) (dw_or1 (dt_cmp (ok_lt) (de_var 4 (pv 4)) (de_op ok_pow (de_int) (de_int)))))) (ds_one (ds_setN (i := 4) sc__law_below.nd rfl (by first | exact Or.inl rfl | exact Or.inr rfl) (de_frz (dv_callC (ok__law_kneaded T) hg (hr.mono (by decide)) tk (ar_dat (de_op ok_mod (de_callTy ok_int (by rfl) T.n_int (by decide +kernel) (da_cons (de_var 4 (pv 4)) (da_nil))) (de_int)) (ar_dat (de_var 3 (pv 3)) (ar_nil))))))) (ds_nil)) (ds_cons (ds_setItem (pv 0) (de_int) (de_op ok_add (de_var 3 (pv 3)) (de_int))) (ds_cons (ds_setItem (pv 0) (de_int) (de_var 4 (pv 4))) (ds_one (ds_setItem (pv 0) (de_int) (de_var 4 (pv 4))))))))) (ds_nil)) (ds_cons (ds_setN (i := 5) sc__law_below.nd rfl (by first | exact Or.inl rfl | exact Or.inr rfl) (de_op ok_mod (de_callTy ok_int (by rfl) T.n_int (by decide +kernel) (da_cons (de_ixN ok_ix (pv 0) (de_int)) (da_nil))) (de_var 1 (pv 1)))) (ds_cons (ds_setItem (pv 0) (de_int) (de_op ok_fdv (de_ixN ok_ix (pv 0) (de_int)) (de_var 1 (pv 1)))) (ds_cons (ds_setItem (pv 0) (de_int) (de_op ok_fdv (de_ixN ok_ix (pv 0) (de_int)) (de_var 1 (pv 1)))) (ds_one (ds_ret (de_var 5 (pv 5)))))))
-- _law_made: 0=limit 1=line 2=found
def b__law_made (g : PySem.Str → Addr) (m : Addr → Addr → Option Bool) : Mo Fl :=
  sSeq (sSetN 2 (mLst (mCons (mErrI (g (PySem.Str.ofString "TooMany")) [(PySem.Str.ofString "limit")] (mCons (mVar 0) (mNil))) (mCons (mErrI (g (PySem.Str.ofString "SyntaxProblem")) [(PySem.Str.ofString "line"), (PySem.Str.ofString "column")] (mCons (mVar 1) (mCons (mVar 0) (mNil)))) (mCons (mErr0 (g (PySem.Str.ofString "NoName"))) (mCons (mErr0 (g (PySem.Str.ofString "NoBook"))) (mCons (mErr0 (g (PySem.Str.ofString "NoFiles"))) (mCons (mErr0 (g (PySem.Str.ofString "NoRule"))) (mNil))))))))) (sRet (op2 oAdd (mVar 2) (mLst (mCons (mErr0 (g (PySem.Str.ofString "NoMark"))) (mCons (mErr0 (g (PySem.Str.ofString "Mismatch"))) (mCons (mErr0 (g (PySem.Str.ofString "InvalidCommand"))) (mNil)))))))
def fn__law_made (g : PySem.Str → Addr) (m : Addr → Addr → Option Bool) : FnD := fnOfB [] 2 1 (b__law_made g m)
theorem ok__law_made (T : Tx K mg) : CallD P w K mg base 3 "_law_made" ["limit", "line"] (fn__law_made (He.ga K) (eM K)) := by
  obtain ⟨fd, F⟩ := T.f__law_made
  exact callD_mk (k := 2) (kp := []) (m := 1) F T.g__law_made sc__law_made rfl (fun _ _ _ _ _ _ us hl => match us, hl with | [_, _], _ => rfl) fun cdv A outer s H E hg hr tk =>
    ds_cons (ds_setN (i := 2) sc__law_made.nd rfl (by first | exact Or.inl rfl | exact Or.inr rfl) (de_lst (da_cons (de_errI (hr.mono (by omega)) (ini_TooMany T) T.ec_TooMany (da_cons (de_var 0 (pv 0)) (da_nil)).1) (da_cons (de_errI (hr.mono (by omega)) (ini_SyntaxProblem T) T.ec_SyntaxProblem (da_cons (de_var 1 (pv 1)) (da_cons (de_var 0 (pv 0)) (da_nil))).1) (da_cons (de_err0 T.e_NoName T.ec_NoName) (da_cons (de_err0 T.e_NoBook T.ec_NoBook) (da_cons (de_err0 T.e_NoFiles T.ec_NoFiles) (da_cons (de_err0 T.e_NoRule T.ec_NoRule) (da_nil))))))))) (ds_one (ds_ret (de_op ok_add (de_var 2 (pv 2)) (de_lst (da_cons (de_err0 T.e_NoMark T.ec_NoMark) (da_cons (de_err0 T.e_Mismatch T.ec_Mismatch) (da_cons (de_err0 T.e_InvalidCommand T.ec_InvalidCommand) (da_nil))))))))
-- _law_classes: 0=error 1=found
def b__law_classes (g : PySem.Str → Addr) (m : Addr → Addr → Option Bool) : Mo Fl :=
  sSeq (sSetN 1 (mLst (mCons (bnd (mVar 0) fun d δ => Res.of (oIsM m (g (PySem.Str.ofString "TooMany")) d) δ) (mCons (bnd (mVar 0) fun d δ => Res.of (oIsM m (g (PySem.Str.ofString "SyntaxProblem")) d) δ) (mCons (bnd (mVar 0) fun d δ => Res.of (oIsM m (g (PySem.Str.ofString "NoName")) d) δ) (mNil)))))) (sSeq (sSetN 1 (op2 oAdd (mVar 1) (mLst (mCons (bnd (mVar 0) fun d δ => Res.of (oIsM m (g (PySem.Str.ofString "NoBook")) d) δ) (mCons (bnd (mVar 0) fun d δ => Res.of (oIsM m (g (PySem.Str.ofString "NoFiles")) d) δ) (mCons (bnd (mVar 0) fun d δ => Res.of (oIsM m (g (PySem.Str.ofString "NoRule")) d) δ) (mNil))))))) (sRet (op2 oAdd (mVar 1) (mLst (mCons (bnd (mVar 0) fun d δ => Res.of (oIsM m (g (PySem.Str.ofString "NoMark")) d) δ) (mCons (bnd (mVar 0) fun d δ => Res.of (oIsM m (g (PySem.Str.ofString "Mismatch")) d) δ) (mCons (bnd (mVar 0) fun d δ => Res.of (oIsM m (g (PySem.Str.ofString "InvalidCommand")) d) δ) (mNil))))))))
def fn__law_classes (g : PySem.Str → Addr) (m : Addr → Addr → Option Bool) : FnD := fnOfB [] 1 1 (b__law_classes g m)
theorem ok__law_classes (T : Tx K mg) : CallD P w K mg base 1 "_law_classes" ["error"] (fn__law_classes (He.ga K) (eM K)) := by
  obtain ⟨fd, F⟩ := T.f__law_classes
  exact callD_mk (k := 0) (kp := []) (m := 1) F T.g__law_classes sc__law_classes rfl (fun _ _ _ _ _ _ us hl => match us, hl with | [_], _ => rfl) fun cdv A outer s H E hg hr tk =>
    ds_cons (ds_setN (i := 1) sc__law_classes.nd rfl (by first | exact Or.inl rfl | exact Or.inr rfl) (de_lst (da_cons (de_isM T.n_isinstance T.x_TooMany.at_ (fun _ _ => rfl) (de_var 0 (pv 0))) (da_cons (de_isM T.n_isinstance T.x_SyntaxProblem.at_ (fun _ _ => rfl) (de_var 0 (pv 0))) (da_cons (de_isM T.n_isinstance T.e_NoName.at_ (fun _ _ => rfl) (de_var 0 (pv 0))) (da_nil)))))) (ds_cons (ds_setN (i := 1) sc__law_classes.nd rfl (by first | exact Or.inl rfl | exact Or.inr rfl) (de_op ok_add (de_var 1 (pv 1)) (de_lst (da_cons (de_isM T.n_isinstance T.e_NoBook.at_ (fun _ _ => rfl) (de_var 0 (pv 0))) (da_cons (de_isM T.n_isinstance T.e_NoFiles.at_ (fun _ _ => rfl) (de_var 0 (pv 0))) (da_cons (de_isM T.n_isinstance T.e_NoRule.at_ (fun _ _ => rfl) (de_var 0 (pv 0))) (da_nil))))))) (ds_one (ds_ret (de_op ok_add (de_var 1 (pv 1)) (de_lst (da_cons (de_isM T.n_isinstance T.e_NoMark.at_ (fun _ _ => rfl) (de_var 0 (pv 0))) (da_cons (de_isM T.n_isinstance T.e_Mismatch.at_ (fun _ _ => rfl) (de_var 0 (pv 0))) (da_cons (de_isM T.n_isinstance T.e_InvalidCommand.at_ (fun _ _ => rfl) (de_var 0 (pv 0))) (da_nil)))))))))
-- law: 0=script 1=pot 2=limit 3=line 4=errors 5=at 6=error 7=fields 8=spot
def b_law (g : PySem.Str → Addr) (m : Addr → Addr → Option Bool) : Mo Fl :=
  sSeq (sSetV 1 (mCallD fn__law_pot_of (aDat (mVar 0) (aNil)))) (sSeq (sPar 2 3 (mCons (op2 oAdd (mC (.int 1)) (bnd (mCallD fn__law_below (aOwn 1 (aDat (op2 oPow (mC (.int 10)) (mC (.int 6))) (aNil)))) frzV)) (mCons (op2 oAdd (mC (.int 1)) (bnd (mCallD fn__law_below (aOwn 1 (aDat (mC (.int 50)) (aNil)))) frzV)) (mNil)))) (sSeq (sSetN 4 (bnd (mCallD (fn__law_made g m) (aDat (mVar 2) (aDat (mVar 3) (aNil)))) frzV)) (sSeq (sFor (tauT 2 (tausCons (tauN 5) (tausCons (tauN 6) (tausNil)))) (mEnum (mCons (mVar 4) (mNil))) (sSeq (sIf (mOr (tst (op2 oNe (bnd (mCallD (fn__law_classes g m) (aDat (mVar 6) (aNil))) frzV) (bnd (mLc [8] (tauN 8) (mRng (mCons (mCall cLen (mCons (mVar 4) (mNil))) (mNil))) (mYes) (op2 oEq (mVar 8) (mVar 5))) frzV))) (mNot (tst (bnd (mVar 6) fun d δ => Res.of (oIsM m (g (PySem.Str.ofString "RuleError")) d) δ)))) (sRet (mC (.bool false))) (sNx)) (sIf (mOr (mNot (tst (bnd (mVar 6) fun d δ => Res.of (oIsL (errL g) true d) δ))) (tst (bnd (mVar 6) fun d δ => Res.of (oIsL (errL g) false d) δ))) (sRet (mC (.bool false))) (sNx)))) (sSeq (sSetN 7 (mLst (mCons (bnd (op2 oIx (mVar 4) (mC (.int 0))) fun d δ => Res.of (oFldE (g (PySem.Str.ofString "TooMany")) (PySem.Str.ofString "limit") d) δ) (mCons (bnd (op2 oIx (mVar 4) (mC (.int 1))) fun d δ => Res.of (oFldE (g (PySem.Str.ofString "SyntaxProblem")) (PySem.Str.ofString "line") d) δ) (mCons (bnd (op2 oIx (mVar 4) (mC (.int 1))) fun d δ => Res.of (oFldE (g (PySem.Str.ofString "SyntaxProblem")) (PySem.Str.ofString "column") d) δ) (mNil)))))) (sRet (vAnd (op2 oEq (mVar 7) (mLst (mCons (mVar 2) (mCons (mVar 3) (mCons (mVar 2) (mNil)))))) (op2 oNotIn (mC (.bool true)) (bnd (mCallD (fn__law_classes g m) (aDat (mErr0 (g (PySem.Str.ofString "RuleError"))) (aNil))) frzV))))))))
def fn_law (g : PySem.Str → Addr) (m : Addr → Addr → Option Bool) : FnD := fnOfB [] 1 8 (b_law g m)
theorem ok_law (T : Tx K mg) : CallD P w K mg base 4 "law" ["script"] (fn_law (He.ga K) (eM K)) := by
  obtain ⟨fd, F⟩ := T.f_law
  exact callD_mk (k := 3) (kp := []) (m := 8) F T.g_law sc_law rfl (fun _ _ _ _ _ _ us hl => match us, hl with | [_], _ => rfl) fun cdv A outer s H E hg hr tk =>
    ds_cons (ds_setV (i := 1) sc_law.nd rfl (by first | exact Or.inl rfl | exact Or.inr rfl) (dv_callC (ok__law_pot_of T) hg (hr.mono (by decide)) tk (ar_dat (de_var 0 (pv 0)) (ar_nil)))) (ds_cons (ds_par (i := 2) (j := 3) rfl sc_law.nd rfl rfl (by decide) rfl rfl (da_cons (de_op ok_add (de_int) (de_frz (dv_callC (ok__law_below T) hg (hr.mono (by decide)) tk (ar_own (pv 1) (ar_dat (de_op ok_pow (de_int) (de_int)) (ar_nil)))))) (da_cons (de_op ok_add (de_int) (de_frz (dv_callC (ok__law_below T) hg (hr.mono (by decide)) tk (ar_own (pv 1) (ar_dat (de_int) (ar_nil)))))) (da_nil))) (by rfl)) (ds_cons (ds_setN (i := 4) sc_law.nd rfl (by first | exact Or.inl rfl | exact Or.inr rfl) (de_frz (dv_callC (ok__law_made T) hg (hr.mono (by decide)) tk (ar_dat (de_var 2 (pv 2)) (ar_dat (de_var 3 (pv 3)) (ar_nil)))))) (ds_cons (ds_for (passes_of rfl) rfl (di_enum T.n_enumerate (da_cons (de_var 4 (pv 4)) (da_nil))) (dg_tup rfl (dgs_cons (dg_name 5 (pg_name (i := 5) sc_law.nd rfl (by first | exact Or.inl rfl | exact Or.inr rfl))) (dgs_cons (dg_name 6 (pg_name (i := 6) sc_law.nd rfl (by first | exact Or.inl rfl | exact Or.inr rfl))) (dgs_nil)))) (ds_cons (ds_if (DTW.t (dw_or (dt_cmp (ok_ne hr.units) (de_frz (dv_callC (ok__law_classes T) hg (hr.mono (by decide)) tk (ar_dat (de_var 6 (pv 6)) (ar_nil)))) (de_frz (dv_lc (own := [((PySem.Str.ofString "spot"), 8)]) rfl sc_law.nd (di_range1 T.n_range (da_cons (de_callB ok_len (by rfl) T.n_len (by decide +kernel) (da_cons (de_var 4 (pv 4)) (da_nil))) (da_nil))) (blkOk_by (own := [((PySem.Str.ofString "spot"), 8)]) (by kernel_rfl)) (by decide) (fun _ _ _ _ _ => dg_name 8 (pg_name (i := 8) sc_law.nd rfl (by first | exact Or.inl rfl | exact Or.inr rfl))) (fun _ _ _ _ _ => dts_nil) (fun _ _ _ _ _ => de_cmp (ok_eq hr.units) (de_var 8 (pv 8)) (de_var 5 (pv 5)))))) (dw_or1 (dt_not (dt_val (de_isM T.n_isinstance T.e_RuleError.at_ (fun _ _ => rfl) (de_var 6 (pv 6)))))))) (ds_one (ds_ret (de_bl))) (ds_nil)) (ds_one (ds_if (DTW.t (dw_or (dt_not (dt_val (de_isL1 T.n_isinstance T.n_ValueError T.b_ValueError (de_var 6 (pv 6))))) (dw_or1 (dt_val (de_isLT T.n_isinstance (.cons T.n_KeyError (by decide +kernel) rfl (by decide) (by decide) rfl (.cons T.n_IndexError (by decide +kernel) rfl (by decide) (by decide) rfl (.cons T.n_TypeError (by decide +kernel) rfl (by decide) (by decide) rfl (.nil)))) T.bt_0 (de_var 6 (pv 6))))))) (ds_one (ds_ret (de_bl))) (ds_nil))))) (ds_cons (ds_setN (i := 7) sc_law.nd rfl (by first | exact Or.inl rfl | exact Or.inr rfl) (de_lst (da_cons (de_fldE (de_ix ok_ix (de_var 4 (pv 4)) (de_int)) T.x_TooMany.xf T.nx_TooMany_limit) (da_cons (de_fldE (de_ix ok_ix (de_var 4 (pv 4)) (de_int)) T.x_SyntaxProblem.xf T.nx_SyntaxProblem_line) (da_cons (de_fldE (de_ix ok_ix (de_var 4 (pv 4)) (de_int)) T.x_SyntaxProblem.xf T.nx_SyntaxProblem_column) (da_nil)))))) (ds_one (ds_ret (de_and (de_cmp (ok_eq hr.units) (de_var 7 (pv 7)) (de_lst (da_cons (de_var 2 (pv 2)) (da_cons (de_var 3 (pv 3)) (da_cons (de_var 2 (pv 2)) (da_nil)))))) (de_one (de_cmp (ok_notIn hr.units) (de_bl) (de_frz (dv_callC (ok__law_classes T) hg (hr.mono (by decide)) tk (ar_dat (de_err0 T.e_RuleError T.ec_RuleError) (ar_nil)))))))))))))
end
end Lw
namespace DL
open PySem PySem.Spec PyProof.Rows L2
section
variable {α β : Type}
@[simp] theorem bnd_eq (m : Mo α) (k : α → Mo β) (δ : Env) : bnd m k δ = (m δ).bind fun a δ' => k a δ' := rfl
@[simp] theorem mVar_eq (i : Nat) (δ : Env) : mVar i δ = match δ[i]? with | some (some (.d x)) => .ok x δ | _ => .st := rfl
@[simp] theorem gVar_eq (i : Nat) (δ : Env) : gVar i δ = match δ[i]? with | some (some x) => x.vw | _ => none := rfl
@[simp] theorem mFrz_eq (i : Nat) (δ : Env) : mFrz i δ = match δ[i]? with | some (some x) => (Res.of x.vw δ).bind fun d δ => .ok d (δ.set i (some (.d d))) | _ => .st := rfl
@[simp] theorem vw_d (x : PyData) : (Val.d x).vw = some x := rfl
@[simp] theorem vw_lst (xs : List PyData) : (Val.lst xs).vw = some (.list xs) := rfl
@[simp] theorem vw_dct (xs : List (PyData × PyData)) : (Val.dct xs).vw = some (.dict xs) := rfl
@[simp] theorem mC_eq (d : PyData) (δ : Env) : mC d δ = .ok d δ := rfl
@[simp] theorem op2_eq (o : Op2) (fa fb : Mo PyData) (δ : Env) : op2 o fa fb δ = (fa δ).bind fun x δ1 => (fb δ1).bind fun y δ2 => Res.of (o x y) δ2 := rfl
@[simp] theorem op2N_eq (o : Op2) (i : Nat) (fb : Mo PyData) (δ : Env) : op2N o i fb δ = (Res.of (gVar i δ) δ).bind fun _ δ0 => (fb δ0).bind fun y δ' => Res.of ((gVar i δ').bind fun x => o x y) δ' := rfl
@[simp] theorem op2Q_eq (o : Op2) (fa : Mo PyData) (g : Env → Option PyData) (δ : Env) : op2Q o fa g δ = (fa δ).bind fun x δ' => Res.of ((g δ').bind fun y => o x y) δ' := rfl
@[simp] theorem tst_eq (f : Mo PyData) (δ : Env) : tst f δ = (f δ).bind fun d δ' => asB d δ' := rfl
@[simp] theorem mNot_eq (f : Mo Bool) (δ : Env) : mNot f δ = (f δ).bind fun b δ => .ok (!b) δ := rfl
@[simp] theorem mAnd_eq (f g : Mo Bool) (δ : Env) : mAnd f g δ = (f δ).bind fun b δ => if b = true then g δ else .ok false δ := rfl
@[simp] theorem mOr_eq (f g : Mo Bool) (δ : Env) : mOr f g δ = (f δ).bind fun b δ => if b = true then .ok true δ else g δ := rfl
@[simp] theorem vAnd_eq (f g : Mo PyData) (δ : Env) : vAnd f g δ = (tst f δ).bind fun b δ => if b = true then g δ else .ok (.bool false) δ := rfl
@[simp] theorem vOr_eq (f g : Mo PyData) (δ : Env) : vOr f g δ = (tst f δ).bind fun b δ => if b = true then .ok (.bool true) δ else g δ := rfl
@[simp] theorem vNot_eq (f : Mo PyData) (δ : Env) : vNot f δ = (tst f δ).bind fun b δ => .ok (.bool !b) δ := rfl
@[simp] theorem vNeg_eq (f : Mo PyData) (δ : Env) : vNeg f δ = ((f δ).bind fun d δ' => asI d δ').bind fun i δ => .ok (.int (-i)) δ := rfl
@[simp] theorem mIf_eq (c : Mo Bool) (f g : Mo α) (δ : Env) : mIf c f g δ = (c δ).bind fun b δ => if b = true then f δ else g δ := rfl
@[simp] theorem mChain_eq (o o' : Op2) (fa fb fc : Mo PyData) (δ : Env) : mChain o o' fa fb fc δ = (fa δ).bind fun x δ => (fb δ).bind fun y δ => (Res.of (o x y) δ).bind fun z δ => (asB z δ).bind fun b δ => if b = true then (fc δ).bind fun w δ' => Res.of (o' y w) δ' else .ok (.bool false) δ := rfl
@[simp] theorem mNil_eq (δ : Env) : mNil δ = .ok [] δ := rfl
@[simp] theorem mCons_eq (f : Mo PyData) (g : Mo (List PyData)) (δ : Env) : mCons f g δ = (f δ).bind fun d δ => (g δ).bind fun ds δ => .ok (d :: ds) δ := rfl
@[simp] theorem mTup_eq (f : Mo (List PyData)) (δ : Env) : mTup f δ = (f δ).bind fun ds δ => .ok (.tuple ds) δ := rfl
@[simp] theorem mLst_eq (f : Mo (List PyData)) (δ : Env) : mLst f δ = (f δ).bind fun ds δ => .ok (.list ds) δ := rfl
@[simp] theorem vLst_eq (f : Mo (List PyData)) (δ : Env) : vLst f δ = (f δ).bind fun ds δ => .ok (.lst ds) δ := rfl
@[simp] theorem frzV_eq (x : Val) (δ : Env) : frzV x δ = Res.of x.vw δ := rfl
@[simp] theorem mCall_eq (o : OpC) (f : Mo (List PyData)) (δ : Env) : mCall o f δ = (f δ).bind fun ds δ => Res.of (o ds) δ := rfl
@[simp] theorem mCallP_eq (o : OpC) (g : Env → Option PyData) (δ : Env) : mCallP o g δ = Res.of ((g δ).bind fun d => o [d]) δ := rfl
@[simp] theorem mIsi_eq (T : String) (f : Mo PyData) (δ : Env) : mIsi T f δ = (f δ).bind fun d δ => .ok (.bool (isTy T d)) δ := rfl
@[simp] theorem oNo_eq (δ : Env) : oNo δ = .ok none δ := rfl
@[simp] theorem oSo_eq (f : Mo PyData) (δ : Env) : oSo f δ = ((f δ).bind fun d δ' => asI d δ').bind fun i δ => .ok (some i) δ := rfl
@[simp] theorem mSlice_eq (f : Mo PyData) (l h : Mo (Option Int)) (δ : Env) : mSlice f l h δ = (f δ).bind fun d δ => (l δ).bind fun lo δ => (h δ).bind fun hi δ => Res.of (oSlice d lo hi) δ := rfl
@[simp] theorem mSliceN_eq (i : Nat) (l h : Mo (Option Int)) (δ : Env) : mSliceN i l h δ = (Res.of (gVar i δ) δ).bind fun _ δ => (l δ).bind fun lo δ => (h δ).bind fun hi δ => Res.of ((gVar i δ).bind fun d => oSlice d lo hi) δ := rfl
@[simp] theorem mItems_eq (f : Mo PyData) (δ : Env) : mItems f δ = (f δ).bind fun d δ => Res.of (itemsOf d) δ := rfl
@[simp] theorem mRng_eq (f : Mo (List PyData)) (δ : Env) : mRng f δ = (f δ).bind fun d δ => Res.of (rng1 d) δ := rfl
@[simp] theorem mEnum_eq (f : Mo (List PyData)) (δ : Env) : mEnum f δ = (f δ).bind fun d δ => Res.of (enumOf d) δ := rfl
@[simp] theorem mYes_eq (δ : Env) : mYes δ = .ok true δ := rfl
@[simp] theorem mLc_eq (own : List Nat) (τ : Tau) (fi : Mo (List PyData)) (ft : Mo Bool) (fe : Mo PyData) (δ : Env) : mLc own τ fi ft fe δ = (fi δ).bind fun ds δ => (lcGo own τ ft fe ds (wipeE δ own)).bind fun ys δ' => .ok (.lst ys) (backE δ δ' own) := rfl
@[simp] theorem wipeE_nil (δ : Env) : wipeE δ [] = δ := rfl
@[simp] theorem wipeE_cons (δ : Env) (v : Nat) (vs : List Nat) : wipeE δ (v :: vs) = (wipeE δ vs).set v none := rfl
@[simp] theorem backE_nil (δ δ' : Env) : backE δ δ' [] = δ' := rfl
@[simp] theorem backE_cons (δ δ' : Env) (i : Nat) (is : List Nat) : backE δ δ' (i :: is) = match δ[i]? with | some (some (.d x)) => (backE δ δ' is).set i (some (.d x)) | _ => backE δ δ' is := rfl
@[simp] theorem tauN_eq (i : Nat) (d : PyData) (δ : Env) : tauN i d δ = some (δ.set i (some (.d d))) := rfl
@[simp] theorem tausNil_eq (δ : Env) : tausNil [] δ = some δ := rfl
@[simp] theorem tausCons_eq (τ : Tau) (τs : List PyData → Env → Option Env) (d : PyData) (r : List PyData) (δ : Env) : tausCons τ τs (d :: r) δ = (τ d δ).bind fun δ' => τs r δ' := rfl
@[simp] theorem tauT_eq (n : Nat) (τs : List PyData → Env → Option Env) (ds : List PyData) (δ : Env) : tauT n τs (.tuple ds) δ = if ds.length = n then τs ds δ else none := rfl
@[simp] theorem sNx_eq (δ : Env) : sNx δ = .ok .nx δ := rfl
@[simp] theorem sBk_eq (δ : Env) : sBk δ = .ok .bk δ := rfl
@[simp] theorem sCt_eq (δ : Env) : sCt δ = .ok .ct δ := rfl
@[simp] theorem sRetN_eq (δ : Env) : sRetN δ = .ok (.ret (.d .none)) δ := rfl
/-- what follows a statement -/
def sThen (r : Res Fl) (k : Mo Fl) : Res Fl := match r with
  | .ok .nx δ' => k δ'
  | r => r
@[simp] theorem sSeq_eq (f g : Mo Fl) (δ : Env) : sSeq f g δ = sThen (f δ) g := rfl
@[simp] theorem sThen_nx (δ : Env) (k : Mo Fl) : sThen (.ok .nx δ) k = k δ := rfl
@[simp] theorem sThen_ret (x : Val) (δ : Env) (k : Mo Fl) : sThen (.ok (.ret x) δ) k = .ok (.ret x) δ := rfl
@[simp] theorem sThen_bk (δ : Env) (k : Mo Fl) : sThen (.ok .bk δ) k = .ok .bk δ := rfl
@[simp] theorem sThen_ct (δ : Env) (k : Mo Fl) : sThen (.ok .ct δ) k = .ok .ct δ := rfl
@[simp] theorem sThen_ex (c : Addr) (x : List (Str × PyData)) (δ : Env) (k : Mo Fl) : sThen (.ex c x δ) k = .ex c x δ := rfl
@[simp] theorem sThen_st (k : Mo Fl) : sThen .st k = .st := rfl
@[simp] theorem sExpr_eq (f : Mo PyData) (δ : Env) : sExpr f δ = (f δ).bind fun _ δ => .ok .nx δ := rfl
@[simp] theorem sRet_eq (f : Mo PyData) (δ : Env) : sRet f δ = (f δ).bind fun d δ => .ok (.ret (.d d)) δ := rfl
@[simp] theorem sRetV_eq (f : Mo Val) (δ : Env) : sRetV f δ = (f δ).bind fun d δ => .ok (.ret d) δ := rfl
@[simp] theorem sIf_eq (c : Mo Bool) (f g : Mo Fl) (δ : Env) : sIf c f g δ = (c δ).bind fun b δ => if b = true then f δ else g δ := rfl
@[simp] theorem sSetN_eq (i : Nat) (f : Mo PyData) (δ : Env) : sSetN i f δ = (f δ).bind fun d δ => .ok .nx (δ.set i (some (.d d))) := rfl
@[simp] theorem sSetV_eq (i : Nat) (f : Mo Val) (δ : Env) : sSetV i f δ = (f δ).bind fun d δ => .ok .nx (δ.set i (some d)) := rfl
@[simp] theorem sSetF_eq (i : Nat) (f : Mo Val) (δ : Env) : sSetF i f δ = (f δ).bind fun x δ => (Res.of x.vw δ).bind fun d δ => .ok .nx (δ.set i (some (.d d))) := rfl
@[simp] theorem sSet_eq (τ : Tau) (f : Mo PyData) (δ : Env) : sSet τ f δ = (f δ).bind fun d δ => (Res.of (τ d δ) δ).bind fun δ' _ => .ok .nx δ' := rfl
@[simp] theorem sPar_eq (i j : Nat) (f : Mo (List PyData)) (δ : Env) : sPar i j f δ = (f δ).bind fun ds δ => match ds with | [d, e] => .ok .nx ((δ.set i (some (.d d))).set j (some (.d e))) | _ => .st := rfl
@[simp] theorem sAug_eq (o : Op2) (i : Nat) (f : Mo PyData) (δ : Env) : sAug o i f δ = (mVar i δ).bind fun x δ => (f δ).bind fun y δ1 => (Res.of (o x y) δ1).bind fun z δ2 => .ok .nx (δ2.set i (some (.d z))) := rfl
@[simp] theorem sSetItem_eq (i : Nat) (fi fv : Mo PyData) (δ : Env) : sSetItem i fi fv δ = (fv δ).bind fun d δ => (getL i δ).bind fun _ δ => ((fi δ).bind fun d δ' => asI d δ').bind fun k δ => (getL i δ).bind fun xs δ => match ixN xs.length k with | some j => .ok .nx (δ.set i (some (.lst (xs.set j d)))) | none => .st := rfl
@[simp] theorem getL_eq (i : Nat) (δ : Env) : getL i δ = match δ[i]? with | some (some (.lst xs)) => .ok xs δ | _ => .st := rfl
@[simp] theorem mCallD_eq (fn : FnD) (fa : Mo (List Arg)) (δ : Env) : mCallD fn fa δ = (fa δ).bind fun as δ => mCall2 fn as δ := rfl
@[simp] theorem aNil_eq (δ : Env) : aNil δ = .ok [] δ := rfl
@[simp] theorem aDat_eq (f : Mo PyData) (g : Mo (List Arg)) (δ : Env) : aDat f g δ = (f δ).bind fun d δ => (g δ).bind fun ds δ => .ok (.dat d :: ds) δ := rfl
@[simp] theorem aOwn_eq (i : Nat) (g : Mo (List Arg)) (δ : Env) : aOwn i g δ = match δ[i]? with | some (some _) => (g δ).bind fun ds δ => .ok (.own i :: ds) δ | _ => .st := rfl
/-- what a call leaves -/
def afterCall (r : FRes) (δ : Env) (as : List Arg) : Res Val := match r with
  | .st => .st
  | .ok r back => .ok r (giveBack δ as back)
  | .ex c x back => .ex c x (giveBack δ as back)
@[simp] theorem mCall2_eq (fn : FnD) (as : List Arg) (δ : Env) : mCall2 fn as δ = match takeArgs δ as with | none => .st | some p => afterCall (fn p.1) p.2 as := by
  unfold mCall2 afterCall
  cases takeArgs δ as with
  | none => rfl
  | some p => cases fn p.1 <;> rfl
@[simp] theorem afterCall_ok (r : Val) (b : List Val) (δ : Env) (as : List Arg) : afterCall (.ok r b) δ as = .ok r (giveBack δ as b) := rfl
@[simp] theorem takeArgs_nil (δ : Env) : takeArgs δ [] = some ([], δ) := rfl
@[simp] theorem takeArgs_dat (δ : Env) (d : PyData) (r : List Arg) : takeArgs δ (.dat d :: r) = (takeArgs δ r).map fun p => (.d d :: p.1, p.2) := rfl
@[simp] theorem takeArgs_own (δ : Env) (i : Nat) (r : List Arg) : takeArgs δ (.own i :: r) = match δ[i]? with | some (some x) => (takeArgs (δ.set i none) r).map fun p => (x :: p.1, p.2) | _ => none := rfl
@[simp] theorem giveBack_nil (δ : Env) (b : List Val) : giveBack δ [] b = δ := by cases b <;> rfl
@[simp] theorem giveBack_dat (δ : Env) (d : PyData) (as : List Arg) (y : Val) (b : List Val) : giveBack δ (.dat d :: as) (y :: b) = giveBack δ as b := rfl
@[simp] theorem giveBack_own (δ : Env) (i : Nat) (as : List Arg) (y : Val) (b : List Val) : giveBack δ (.own i :: as) (y :: b) = giveBack (δ.set i (some y)) as b := rfl
/-- a def's end -/
def endOf (args : List Val) (r : Res Fl) : FRes := match r with
  | .ok (.ret x) δ => match backs args δ with
    | some b => .ok x b
    | none => .st
  | .ok .nx δ => match backs args δ with
    | some b => .ok (.d .none) b
    | none => .st
  | .ex c x δ => match backs args δ with
    | some b => .ex c x b
    | none => .st
  | _ => .st
theorem fnOfB_eq (kp : List Nat) (n m : Nat) (body : Mo Fl) (args : List Val) : fnOfB kp n m body args = if (ownOk kp 0 args && args.length == n) = true then endOf args (body (env0 args m)) else .st := rfl
@[simp] theorem endOf_ret (args : List Val) (x : Val) (δ : Env) : endOf args (.ok (.ret x) δ) = match backs args δ with | some b => .ok x b | none => .st := rfl
@[simp] theorem endOf_nx (args : List Val) (δ : Env) : endOf args (.ok .nx δ) = match backs args δ with | some b => .ok (.d .none) b | none => .st := rfl
@[simp] theorem backs_nil (δ : Env) : backs [] δ = some [] := by cases δ <;> rfl
@[simp] theorem backs_d (x : PyData) (r : List Val) (o : Option Val) (δ : Env) : backs (.d x :: r) (o :: δ) = (backs r δ).map (.d x :: ·) := rfl
@[simp] theorem backs_lst (x : List PyData) (r : List Val) (y : Val) (δ : Env) : backs (.lst x :: r) (some y :: δ) = (backs r δ).map (y :: ·) := rfl
@[simp] theorem backs_dct (x : List (PyData × PyData)) (r : List Val) (y : Val) (δ : Env) : backs (.dct x :: r) (some y :: δ) = (backs r δ).map (y :: ·) := rfl
@[simp] theorem env0_eq (args : List Val) (m : Nat) : env0 args m = args.map some ++ List.replicate m none := rfl
@[simp] theorem ownOk_nil (kp : List Nat) (i : Nat) : ownOk kp i [] = true := rfl
@[simp] theorem ownOk_d (kp : List Nat) (i : Nat) (x : PyData) (r : List Val) : ownOk kp i (.d x :: r) = ownOk kp (i + 1) r := rfl
@[simp] theorem ownOk_lst (kp : List Nat) (i : Nat) (x : List PyData) (r : List Val) : ownOk kp i (.lst x :: r) = (kp.contains i && ownOk kp (i + 1) r) := rfl
@[simp] theorem ownOk_dct (kp : List Nat) (i : Nat) (x : List (PyData × PyData)) (r : List Val) : ownOk kp i (.dct x :: r) = (kp.contains i && ownOk kp (i + 1) r) := rfl
@[simp] theorem sFor_eq (τ : Tau) (fi : Mo (List PyData)) (b : Mo Fl) (δ : Env) : sFor τ fi b δ = (fi δ).bind fun ds δ => sForGo τ b ds δ := rfl
@[simp] theorem sWhile_eq (fuel : Env → Nat) (c : Mo Bool) (b : Mo Fl) (δ : Env) : sWhile fuel c b δ = sWhileN c b (fuel δ) δ := rfl
/-! ### data -/
@[simp] theorem oAdd_int (i j : Int) : oAdd (.int i) (.int j) = some (.int (i + j)) := rfl
@[simp] theorem oSub_int (i j : Int) : oSub (.int i) (.int j) = some (.int (i - j)) := rfl
@[simp] theorem oIAdd_int (i j : Int) : oIAdd (.int i) (.int j) = some (.int (i + j)) := rfl
@[simp] theorem oLt_int (i j : Int) : oLt (.int i) (.int j) = some (.bool (decide (i < j))) := rfl
@[simp] theorem oLe_int (i j : Int) : oLe (.int i) (.int j) = some (.bool (decide (i ≤ j))) := rfl
@[simp] theorem oGt_int (i j : Int) : oGt (.int i) (.int j) = some (.bool (decide (j < i))) := rfl
@[simp] theorem oGe_int (i j : Int) : oGe (.int i) (.int j) = some (.bool (decide (j ≤ i))) := rfl
@[simp] theorem itemsOf_list (xs : List PyData) : itemsOf (.list xs) = some xs := rfl
@[simp] theorem itemsOf_tuple (xs : List PyData) : itemsOf (.tuple xs) = some xs := rfl
@[simp] theorem itemsOf_str (z : Str) : itemsOf (.str z) = some (z.cps.toList.map fun c => .str ⟨#[c]⟩) := rfl
@[simp] theorem cLen_list (xs : List PyData) : cLen [.list xs] = some (.int xs.length) := rfl
@[simp] theorem cLen_tuple (xs : List PyData) : cLen [.tuple xs] = some (.int xs.length) := rfl
@[simp] theorem cLen_str (x : Str) : cLen [.str x] = some (.int x.length) := rfl
@[simp] theorem cInt_int (i : Int) : cInt [.int i] = some (.int i) := rfl
@[simp] theorem cAbs_int (i : Int) : cAbs [.int i] = some (.int (if i < 0 then -i else i)) := rfl
end
/-! ### comprehensions, turn by turn -/
def lcTurn (own : List Nat) (τ : Tau) (ft : Mo Bool) (fe : Mo PyData) (d : PyData) : Mo (Option PyData) := fun δ => (Res.of (τ d δ) δ).bind fun δ1 _ => (noex (ft δ1)).bind fun b δ2 => if b = true then (noex (fe δ2)).bind fun y δ3 => .ok (some y) (wipeE δ3 own) else .ok none (wipeE δ2 own)
@[simp] theorem lcTurn_eq (own : List Nat) (τ : Tau) (ft : Mo Bool) (fe : Mo PyData) (d : PyData) (δ : Env) : lcTurn own τ ft fe d δ = (Res.of (τ d δ) δ).bind fun δ1 _ => (noex (ft δ1)).bind fun b δ2 => if b = true then (noex (fe δ2)).bind fun y δ3 => .ok (some y) (wipeE δ3 own) else .ok none (wipeE δ2 own) := rfl
theorem lcGo_turn (own : List Nat) (τ : Tau) (ft : Mo Bool) (fe : Mo PyData) (d : PyData) (ds : List PyData) (δ : Env) : lcGo own τ ft fe (d :: ds) δ = (lcTurn own τ ft fe d δ).bind fun o δ' => (lcGo own τ ft fe ds δ').bind fun ys δ2 => .ok (o.toList ++ ys) δ2 := by
  rw [lcGo_cons]
  unfold lcTurn
  cases τ d δ with
  | none => rfl
  | some δ1 =>
    simp only [Res.of_some, Res.bind_ok]
    cases hn : noex (ft δ1) with
    | st => rfl
    | ex c x δ2 => rfl
    | ok b δ2 =>
      simp only [Res.bind_ok]
      cases b with
      | false =>
        simp only [Bool.false_eq_true, if_false, Res.bind_ok, Option.toList, List.nil_append]
        cases lcGo own τ ft fe ds (wipeE δ2 own) <;> rfl
      | true =>
        simp only [if_true]
        cases noex (fe δ2) <;> rfl
theorem lcGo_filterMap {α : Type} {own : List Nat} {τ : Tau} {ft : Mo Bool} {fe : Mo PyData} {δ : Env} (f : α → PyData) (g : α → Option PyData) : ∀ (l : List α), (∀ a ∈ l, lcTurn own τ ft fe (f a) δ = .ok (g a) δ) → lcGo own τ ft fe (l.map f) δ = .ok (l.filterMap g) δ
  | [], _ => rfl
  | a :: l, h => by
    rw [List.map_cons, lcGo_turn, h a (by simp), Res.bind_ok, lcGo_filterMap f g l fun a ha => h a (by simp [ha]), Res.bind_ok, List.filterMap_cons]
    cases g a <;> rfl
theorem lcGo_mapF {α : Type} {own : List Nat} {τ : Tau} {fe : Mo PyData} {δ : Env} (f g : α → PyData) (l : List α) (h : ∀ a ∈ l, lcTurn own τ mYes fe (f a) δ = .ok (some (g a)) δ) : lcGo own τ mYes fe (l.map f) δ = .ok (l.map g) δ := by
  rw [lcGo_filterMap f (fun a => some (g a)) l h]
  congr 1
  induction l with
  | nil => rfl
  | cons a l ih => simp [List.filterMap_cons]
theorem lcGo_mapD {own : List Nat} {τ : Tau} {fe : Mo PyData} {δ : Env} (g : PyData → PyData) (l : List PyData) (h : ∀ a ∈ l, lcTurn own τ mYes fe a δ = .ok (some (g a)) δ) : lcGo own τ mYes fe l δ = .ok (l.map g) δ := by
  have := lcGo_mapF (fun a => a) g l h
  simpa using this
theorem lcGo_filterD {own : List Nat} {τ : Tau} {ft : Mo Bool} {fe : Mo PyData} {δ : Env} (g : PyData → Option PyData) (l : List PyData) (h : ∀ a ∈ l, lcTurn own τ ft fe a δ = .ok (g a) δ) : lcGo own τ ft fe l δ = .ok (l.filterMap g) δ := by
  have := lcGo_filterMap (fun a => a) g l h
  simpa using this
/-- turns that change the env, by what holds of it -/
theorem lcGo_state {own : List Nat} {τ : Tau} {fe : Mo PyData} (I : Env → Prop) (R : PyData → Prop) : ∀ (l : List PyData) (δ : Env), (∀ a ∈ l, ∀ δ, I δ → ∃ y δ', lcTurn own τ mYes fe a δ = .ok (some y) δ' ∧ R y ∧ I δ') → I δ → ∃ ys δ', lcGo own τ mYes fe l δ = .ok ys δ' ∧ ys.length = l.length ∧ (∀ y ∈ ys, R y) ∧ I δ'
  | [], δ, _, h => ⟨[], δ, rfl, rfl, by simp, h⟩
  | a :: l, δ, k, h => by
    obtain ⟨y, δ1, h1, h2, h3⟩ := k a (by simp) δ h
    obtain ⟨ys, δ2, h4, h5, h6, h7⟩ := lcGo_state I R l δ1 (fun a ha => k a (by simp [ha])) h3
    exact ⟨y :: ys, δ2, by rw [lcGo_turn, h1, Res.bind_ok, h4]; rfl, by simp [h5], fun z hz => by
      rcases List.mem_cons.mp hz with rfl | hz
      · exact h2
      · exact h6 z hz, h7⟩
/-- loops by what holds between two turns -/
theorem sForGo_inv {τ : Tau} {b : Mo Fl} (I : List PyData → Env → Prop) : ∀ (l pre : List PyData) (δ : Env), (∀ p a q δ, pre ++ l = p ++ a :: q → I p δ → ∃ δ1, τ a δ = some δ1 ∧ ∃ δ2, (b δ1 = .ok .nx δ2 ∨ b δ1 = .ok .ct δ2) ∧ I (p ++ [a]) δ2) → I pre δ → ∃ δ', sForGo τ b l δ = .ok .nx δ' ∧ I (pre ++ l) δ'
  | [], pre, δ, _, h => ⟨δ, rfl, by simpa using h⟩
  | a :: l, pre, δ, k, h => by
    obtain ⟨δ1, h1, δ2, h2, h3⟩ := k pre a l δ rfl h
    obtain ⟨δ', h4, h5⟩ := sForGo_inv I l (pre ++ [a]) δ2 (fun p a q δ e => k p a q δ (by simpa using e)) h3
    refine ⟨δ', ?_, by simpa using h5⟩
    rw [sForGo_cons, h1, Res.of_some, Res.bind_ok]
    rcases h2 with h2 | h2 <;> rw [h2] <;> exact h4
end DL
namespace Lw
open PySem PySem.Spec PyProof.Rows L2 DL
/-! ### the pot of numbers to draw from -/
theorem mulFit_r {i j : Int} (h : j.natAbs < 2 ^ 64) : mulFit i j = true := decide_eq_true (.inr h)
theorem mulFit_l {i j : Int} (h : i.natAbs < 2 ^ 64) : mulFit i j = true := decide_eq_true (.inl h)
theorem oMulS_r {i j : Int} (h : j.natAbs < 2 ^ 64) : oMulS (.int i) (.int j) = some (.int (i * j)) := by unfold oMulS; simp only [mulFit_r h, if_true]
theorem oMulS_l {i j : Int} (h : i.natAbs < 2 ^ 64) : oMulS (.int i) (.int j) = some (.int (i * j)) := by unfold oMulS; simp only [mulFit_l h, if_true]
theorem oMod_int {i j : Int} (h : j ≠ 0) : oMod (.int i) (.int j) = some (.int (i.fmod j)) := by unfold oMod iOp; simp only [decide_eq_true h, if_true]
theorem oFdv_int {i j : Int} (h : j ≠ 0 ∧ j.natAbs < 1073741824) : oFdv (.int i) (.int j) = some (.int (i.fdiv j)) := by unfold oFdv iOp; simp only [decide_eq_true h, if_true]
theorem rng4 : rng1 [.int 4] = some [.int 0, .int 1, .int 2, .int 3] := rfl
abbrev prime : Int := 2305843009213693907
theorem fmod_range {i j : Int} (h : 0 < j) : 0 ≤ i.fmod j ∧ i.fmod j < j := by
  rw [Int.fmod_eq_emod_of_nonneg i (Int.le_of_lt h)]
  exact ⟨Int.emod_nonneg i (by omega), Int.emod_lt_of_pos i h⟩
theorem kneaded_spec (a l : Int) : ∃ r, 0 ≤ r ∧ fn__law_kneaded [.d (.int a), .d (.int l)] = .ok (.d (.int r)) [.d (.int a), .d (.int l)] := by
  let I : List PyData → DL.Env → Prop := fun _ δ => ∃ (m : Int) (o : Option Val), 0 ≤ m ∧ m < prime ∧ δ = [some (.d (.int a)), some (.d (.int l)), some (.d (.int prime)), some (.d (.int m)), o]
  have step := sForGo_inv (τ := tauN 4) (b := sSetN 3 (op2 oMod (mCall cInt (mCons (op2 oAdd (op2 oAdd (op2 oAdd (op2 oMulS (mVar 3) (mVar 3)) (op2 oMulS (mC (.int 11)) (mVar 3))) (op2 oMulS (mC (.int 4099)) (mVar 4))) (mVar 1)) (mNil))) (mVar 2))) I [.int 0, .int 1, .int 2, .int 3] []
    [some (.d (.int a)), some (.d (.int l)), some (.d (.int prime)), some (.d (.int ((a * 2862933555777941757 + l * 3037000493 + 29).fmod prime))), none] (by
      intro p x q δ e ⟨m, o, h1, h2, hδ⟩
      subst hδ
      have hx : ∃ n : Int, x = .int n := by
        have : x ∈ [PyData.int 0, .int 1, .int 2, .int 3] := by rw [← List.nil_append [PyData.int 0, .int 1, .int 2, .int 3], e]; simp
        simp at this
        rcases this with rfl | rfl | rfl | rfl <;> exact ⟨_, rfl⟩
      obtain ⟨n, rfl⟩ := hx
      refine ⟨_, rfl, _, .inl ?_, (m * m + 11 * m + 4099 * n + l).fmod prime, some (.d (.int n)), (fmod_range (by decide)).1, (fmod_range (by decide)).2, rfl⟩
      have hm : m.natAbs < 2 ^ 64 := by have : prime < 2 ^ 64 := by decide
                                        omega
      simp [oMulS_l hm, oMulS_l (show (11 : Int).natAbs < 2 ^ 64 by decide), oMulS_l (show (4099 : Int).natAbs < 2 ^ 64 by decide), oMod_int (show prime ≠ 0 by decide)])
    ⟨_, none, (fmod_range (by decide)).1, (fmod_range (by decide)).2, rfl⟩
  obtain ⟨δ', e, m, o, h1, h2, rfl⟩ := step
  have hm : m.natAbs < 2 ^ 64 := by have : prime < 2 ^ 64 := by decide
                                    omega
  refine ⟨m * prime + (m * 69621 + l).fmod prime, ?_, ?_⟩
  · have := Int.mul_nonneg h1 (show (0 : Int) ≤ prime by decide)
    have := (fmod_range (i := m * 69621 + l) (j := prime) (by decide)).1
    omega
  · simp [fn__law_kneaded, fnOfB_eq, b__law_kneaded, oMulS_r (show (2862933555777941757 : Int).natAbs < 2 ^ 64 by decide), oMulS_r (show (3037000493 : Int).natAbs < 2 ^ 64 by decide), oMod_int (show prime ≠ 0 by decide), rng4, e,
      oMulS_l hm]
/-- a pot of numbers to draw from -/
def PotOk (p : List PyData) : Prop := ∃ (cs : List Int) (i x y : Int), p = [.list (cs.map .int), .int i, .int x, .int y] ∧ (∀ c ∈ cs, 0 ≤ c) ∧ 0 ≤ i ∧ 0 ≤ x ∧ 0 ≤ y
theorem atI_n {α : Type} (l : List α) (k : Nat) : atI l (k : Int) = l[k]? := by
  unfold atI ixN
  by_cases h : k < l.length
  · rw [if_pos (by omega), if_pos (by omega)]; simp
  · rw [if_pos (by omega), if_neg (by omega)]; simp; omega
theorem pot_ix (a b c d : PyData) : oIx (.list [a, b, c, d]) (.int 0) = some a ∧ oIx (.list [a, b, c, d]) (.int 1) = some b ∧ oIx (.list [a, b, c, d]) (.int 2) = some c ∧ oIx (.list [a, b, c, d]) (.int 3) = some d := ⟨rfl, rfl, rfl, rfl⟩
theorem pot_ixN : ixN 4 1 = some 1 ∧ ixN 4 2 = some 2 ∧ ixN 4 3 = some 3 := ⟨rfl, rfl, rfl⟩
theorem pow16 : oPow (.int 10) (.int 16) = some (.int 10000000000000000) := by unfold oPow iOp; simp
theorem below_end (p : List PyData) (b : Int) (o2 o3 o4 o5 : Option Val) (hp : PotOk p) (h0 : 0 < b) (h1 : b < 1073741824) :
    ∃ r p', 0 ≤ r ∧ r < b ∧ PotOk p' ∧ (sSeq (sSetN 5 (op2 oMod (mCall cInt (mCons (op2N oIx 0 (mC (.int 2))) (mNil))) (mVar 1))) (sSeq (sSetItem 0 (mC (.int 2)) (op2 oFdv (op2N oIx 0 (mC (.int 2))) (mVar 1))) (sSeq (sSetItem 0 (mC (.int 3)) (op2 oFdv (op2N oIx 0 (mC (.int 3))) (mVar 1))) (sRet (mVar 5))))) [some (.lst p), some (.d (.int b)), o2, o3, o4, o5] = .ok (.ret (.d (.int r))) [some (.lst p'), some (.d (.int b)), o2, o3, o4, some (.d (.int r))] := by
  obtain ⟨cs, i, x, y, rfl, hc, hi, hx, hy⟩ := hp
  refine ⟨x.fmod b, [.list (cs.map .int), .int i, .int (x.fdiv b), .int (y.fdiv b)], (fmod_range h0).1, (fmod_range h0).2, ⟨cs, i, x.fdiv b, y.fdiv b, rfl, hc, hi, Int.fdiv_nonneg hx (by omega), Int.fdiv_nonneg hy (by omega)⟩, ?_⟩
  have hd : b ≠ 0 ∧ b.natAbs < 1073741824 := ⟨by omega, by omega⟩
  simp [pot_ix, pot_ixN, oMod_int hd.1, oFdv_int hd]
theorem oNe_cells (cs : List Int) : oNe (.list (cs.map .int)) (.list []) = some (.bool (!cs.isEmpty)) := by
  have hp : PyData.plainAll (cs.map .int) = true := by
    induction cs with
    | nil => simp [PyData.plainAll]
    | cons a l ih => simp [PyData.plainAll, PyData.plain, ih]
  have ok : eqOk (.list (cs.map .int)) (.list []) = true := by
    simp [eqOk, PyData.plain, hp, PyData.plainAll, PyData.depth, PyData.depthAll]
  simp only [oNe, ok, if_true, PyData.eqv]
  cases cs <;> simp [PyData.eqvAll]
theorem oNe_nil : oNe (.list []) (.list []) = some (.bool false) := oNe_cells []
theorem below_draw1 (cs : List Int) (i b x y a : Int) (fA : Mo PyData) (hc : ∀ c ∈ cs, 0 ≤ c) (hi : 0 ≤ i) (ha : 0 ≤ a)
    (hA : fA [some (.lst [.list (cs.map .int), .int i, .int x, .int y]), some (.d (.int b)), some (.d (.list (cs.map .int))), some (.d (.int i)), none, none] = .ok (.int a) [some (.lst [.list (cs.map .int), .int i, .int x, .int y]), some (.d (.int b)), some (.d (.list (cs.map .int))), some (.d (.int i)), none, none]) :
    ∃ p' o2 o3 o4, PotOk p' ∧ (sSeq (sPar 2 3 (mCons (op2N oIx 0 (mC (.int 0))) (mCons (op2N oIx 0 (mC (.int 1))) (mNil)))) (sSeq (sSetN 4 fA) (sSeq (sIf (mOr (tst (op2 oGe (mVar 3) (mCall cLen (mCons (mVar 2) (mNil))))) (tst (op2 oLt (mVar 4) (op2 oPow (mC (.int 10)) (mC (.int 16)))))) (sSetN 4 (bnd (mCallD fn__law_kneaded (aDat (op2 oMod (mCall cInt (mCons (mVar 4) (mNil))) (mC (.int 982451629))) (aDat (mVar 3) (aNil)))) frzV)) (sNx)) (sSeq (sSetItem 0 (mC (.int 1)) (op2 oAdd (mVar 3) (mC (.int 1)))) (sSeq (sSetItem 0 (mC (.int 2)) (mVar 4)) (sSetItem 0 (mC (.int 3)) (mVar 4))))))) [some (.lst [.list (cs.map .int), .int i, .int x, .int y]), some (.d (.int b)), none, none, none, none] = .ok .nx [some (.lst p'), some (.d (.int b)), o2, o3, o4, none] := by
  have fin : ∀ (a' : Int), 0 ≤ a' → PotOk [.list (cs.map .int), .int (i + 1), .int a', .int a'] := fun a' h => ⟨cs, i + 1, a', a', rfl, hc, by omega, h, h⟩
  obtain ⟨r, hr, hk⟩ := kneaded_spec (a.fmod 982451629) i
  by_cases ht : (cs.length : Int) ≤ i ∨ a < 10000000000000000
  · refine ⟨_, some (.d (.list (cs.map .int))), some (.d (.int i)), some (.d (.int r)), fin r hr, ?_⟩
    by_cases h1 : (cs.length : Int) ≤ i
    · simp [pot_ix, pot_ixN, hA, h1, oMod_int (show (982451629 : Int) ≠ 0 by decide), hk]
    · have h2 : a < 10000000000000000 := by omega
      simp [pot_ix, pot_ixN, hA, h1, h2, pow16, oMod_int (show (982451629 : Int) ≠ 0 by decide), hk]
  · have h1 : ¬ (cs.length : Int) ≤ i := by omega
    have h2 : ¬ a < 10000000000000000 := by omega
    refine ⟨_, some (.d (.list (cs.map .int))), some (.d (.int i)), some (.d (.int a)), fin a ha, ?_⟩
    simp [pot_ix, pot_ixN, hA, h1, h2, pow16]
theorem below_draw (cs : List Int) (i : Int) (b : Int) (x y : Int) (hc : ∀ c ∈ cs, 0 ≤ c) (hi : 0 ≤ i) :
    ∃ p' o2 o3 o4, PotOk p' ∧ (sSeq (sPar 2 3 (mCons (op2N oIx 0 (mC (.int 0))) (mCons (op2N oIx 0 (mC (.int 1))) (mNil)))) (sSeq (sSetN 4 (mIf (tst (op2 oNe (mVar 2) (mLst (mNil)))) (op2 oIx (mVar 2) (op2 oMod (mVar 3) (mCall cLen (mCons (mVar 2) (mNil))))) (mC (.int 0)))) (sSeq (sIf (mOr (tst (op2 oGe (mVar 3) (mCall cLen (mCons (mVar 2) (mNil))))) (tst (op2 oLt (mVar 4) (op2 oPow (mC (.int 10)) (mC (.int 16)))))) (sSetN 4 (bnd (mCallD fn__law_kneaded (aDat (op2 oMod (mCall cInt (mCons (mVar 4) (mNil))) (mC (.int 982451629))) (aDat (mVar 3) (aNil)))) frzV)) (sNx)) (sSeq (sSetItem 0 (mC (.int 1)) (op2 oAdd (mVar 3) (mC (.int 1)))) (sSeq (sSetItem 0 (mC (.int 2)) (mVar 4)) (sSetItem 0 (mC (.int 3)) (mVar 4))))))) [some (.lst [.list (cs.map .int), .int i, .int x, .int y]), some (.d (.int b)), none, none, none, none] = .ok .nx [some (.lst p'), some (.d (.int b)), o2, o3, o4, none] := by
  have hn := oNe_cells cs
  obtain ⟨a, ha, hA⟩ : ∃ a : Int, 0 ≤ a ∧ (mIf (tst (op2 oNe (mVar 2) (mLst (mNil)))) (op2 oIx (mVar 2) (op2 oMod (mVar 3) (mCall cLen (mCons (mVar 2) (mNil))))) (mC (.int 0))) [some (.lst [.list (cs.map .int), .int i, .int x, .int y]), some (.d (.int b)), some (.d (.list (cs.map .int))), some (.d (.int i)), none, none] = .ok (.int a) [some (.lst [.list (cs.map .int), .int i, .int x, .int y]), some (.d (.int b)), some (.d (.list (cs.map .int))), some (.d (.int i)), none, none] := by
    by_cases hcs : cs = []
    · subst hcs; exact ⟨0, Int.le_refl 0, by simp [oNe_nil]⟩
    · have hl' : 0 < cs.length := List.length_pos_iff.mpr hcs
      have hl : (0 : Int) < (cs.length : Int) := by omega
      have hm := fmod_range (i := i) (j := (cs.length : Int)) hl
      obtain ⟨k, hk⟩ := Int.eq_ofNat_of_zero_le hm.1
      have hkl : k < cs.length := by omega
      refine ⟨cs[k], hc _ (List.getElem_mem hkl), ?_⟩
      have h1 : oMod (.int i) (.int (cs.length : Int)) = some (.int (k : Int)) := by rw [oMod_int (by omega), hk]
      have h2 : oIx (.list (cs.map .int)) (.int (k : Int)) = some (.int cs[k]) := by
        show atI _ _ = _
        rw [atI_n, List.getElem?_map, List.getElem?_eq_getElem hkl]; rfl
      have hne : (!cs.isEmpty) = true := by simpa using hcs
      rw [hne] at hn
      simp [hn, h1, h2]
  exact below_draw1 cs i b x y a _ hc hi ha hA
theorem below_spec (p : List PyData) (b : Int) (hp : PotOk p) (h0 : 0 < b) (h1 : b < 1073741824) : ∃ r p', 0 ≤ r ∧ r < b ∧ PotOk p' ∧ fn__law_below [.lst p, .d (.int b)] = .ok (.d (.int r)) [.lst p', .d (.int b)] := by
  have hp' := hp
  obtain ⟨cs, i, x, y, rfl, hc, hi, hx, hy⟩ := hp
  by_cases hy' : y < b
  · obtain ⟨p1, o2, o3, o4, hp1, e1⟩ := below_draw cs i b x y hc hi
    obtain ⟨r, p2, hr0, hr1, hp2, e2⟩ := below_end p1 b o2 o3 o4 none hp1 h0 h1
    refine ⟨r, p2, hr0, hr1, hp2, ?_⟩
    unfold fn__law_below
    rw [fnOfB_eq, b__law_below, if_pos (by rfl), sSeq_eq, sIf_eq]
    simp only [env0_eq, List.map_cons, List.map_nil, List.replicate_succ, List.replicate_zero, List.cons_append, List.nil_append]
    have ht : tst (op2 oLt (op2N oIx 0 (mC (.int 3))) (mVar 1)) [some (.lst [.list (cs.map .int), .int i, .int x, .int y]), some (.d (.int b)), none, none, none, none] = .ok true [some (.lst [.list (cs.map .int), .int i, .int x, .int y]), some (.d (.int b)), none, none, none, none] := by
      simp [pot_ix, hy']
    rw [ht, Res.bind_ok, if_pos rfl, e1, sThen_nx, e2]
    simp
  · obtain ⟨r, p2, hr0, hr1, hp2, e2⟩ := below_end _ b none none none none hp' h0 h1
    refine ⟨r, p2, hr0, hr1, hp2, ?_⟩
    unfold fn__law_below
    rw [fnOfB_eq, b__law_below, if_pos (by rfl), sSeq_eq, sIf_eq]
    simp only [env0_eq, List.map_cons, List.map_nil, List.replicate_succ, List.replicate_zero, List.cons_append, List.nil_append]
    have ht : tst (op2 oLt (op2N oIx 0 (mC (.int 3))) (mVar 1)) [some (.lst [.list (cs.map .int), .int i, .int x, .int y]), some (.d (.int b)), none, none, none, none] = .ok false [some (.lst [.list (cs.map .int), .int i, .int x, .int y]), some (.d (.int b)), none, none, none, none] := by
      simp [pot_ix, hy']
    rw [ht, Res.bind_ok, if_neg (by decide), sNx_eq, sThen_nx, e2]
    simp
theorem cutD_map (ns : List Int) (lo hi : Option Int) : DL.cutD (ns.map .int) lo hi = ((ns.drop (HT.sIx ns.length 0 lo)).take (HT.sIx ns.length ns.length hi - HT.sIx ns.length 0 lo)).map .int := by
  unfold DL.cutD
  rw [List.length_map, List.map_take, List.map_drop]
theorem enumD_mem : ∀ (l : List Int) (n : Int) (a : PyData), 0 ≤ n → a ∈ enumD n (l.map .int) → ∃ j v : Int, 0 ≤ j ∧ a = .tuple [.int j, .int v]
  | [], _, _, _, h => by simp [enumD] at h
  | v :: l, n, a, hn, h => by
    rw [List.map_cons, enumD] at h
    rcases List.mem_cons.mp h with rfl | h
    · exact ⟨n, v, hn, rfl⟩
    · exact enumD_mem l (n + 1) a (by omega) h
theorem pot_of_spec (ns : List Int) : ∃ p, PotOk p ∧ fn__law_pot_of [scriptV ns] = .ok (.lst p) [scriptV ns] := by
  have hsl : oSlice (.list (ns.map .int)) none (some 17) = some (.list ((ns.take 17).map .int)) := by
    show some (PyData.list (DL.cutD _ _ _)) = _
    rw [cutD_map]
    congr 3
    have h1 : HT.sIx ns.length ns.length (some 17) = min 17 ns.length := HT.sIx_nat ns.length ns.length 17
    rw [HT.sIx_none, h1, List.drop_zero, Nat.sub_zero, List.take_eq_take_iff]
    omega
  have hs2 : oSlice (.list (ns.map .int)) (some 17) (some 60) = some (.list (((ns.drop (min 17 ns.length)).take (min 60 ns.length - min 17 ns.length)).map .int)) := by
    show some (PyData.list (DL.cutD _ _ _)) = _
    rw [cutD_map]
    have h1 : HT.sIx ns.length ns.length (some 60) = min 60 ns.length := HT.sIx_nat ns.length ns.length 60
    have h2 : HT.sIx ns.length 0 (some 17) = min 17 ns.length := HT.sIx_nat ns.length 0 17
    rw [h1, h2]
  obtain ⟨tk, htk⟩ : ∃ tk, tk = ns.take 17 := ⟨_, rfl⟩
  rw [← htk] at hsl
  have hc := lcGo_mapF (own := [3]) (τ := tauN 3) (fe := mCall cAbs (mCons (mVar 3) mNil)) (δ := [some (scriptV ns), none, none, none]) PyData.int (fun v => .int (if v < 0 then -v else v)) tk (fun v _ => by simp)
  let cs := tk.map fun v : Int => if v < 0 then -v else v
  have hcs : ∀ c ∈ cs, 0 ≤ c := by
    intro c h
    obtain ⟨v, _, rfl⟩ := List.mem_map.mp h
    split <;> omega
  have hcl : cs.length = min 17 ns.length := by simp [cs, htk]
  have hmap : tk.map (fun v : Int => PyData.int (if v < 0 then -v else v)) = cs.map .int := by simp [cs]
  rw [hmap] at hc
  obtain ⟨rest, hrest⟩ : ∃ rest, rest = ((ns.drop (min 17 ns.length)).take (min 60 ns.length - min 17 ns.length)) := ⟨_, rfl⟩
  rw [← hrest] at hs2
  have hr17 : rest ≠ [] → cs.length = 17 := by
    intro h
    by_cases hn : 17 ≤ ns.length
    · omega
    · exfalso; apply h; rw [hrest, List.drop_of_length_le (by omega), List.take_nil]
  let I : List PyData → DL.Env → Prop := fun _ δ => ∃ (ds : List Int) (o o' : Option Val), ds.length = cs.length ∧ (∀ c ∈ ds, 0 ≤ c) ∧ δ = [some (scriptV ns), some (.lst (ds.map .int)), o, o']
  obtain ⟨δ', e, ds, o, o', h1, h2, rfl⟩ := sForGo_inv (τ := tauT 2 (tausCons (tauN 2) (tausCons (tauN 3) (tausNil)))) (b := sSetItem 1 (op2 oMod (mVar 2) (mC (.int 17))) (op2 oAdd (op2N oIx 1 (op2 oMod (mVar 2) (mC (.int 17)))) (mCall cAbs (mCons (mVar 3) (mNil))))) I (enumD 0 (rest.map .int)) []
    [some (scriptV ns), some (.lst (cs.map .int)), none, none] (by
      intro p a q δ eq ⟨ds, o, o', h1, h2, hδ⟩
      subst hδ
      have ha : a ∈ enumD 0 (rest.map .int) := by rw [← List.nil_append (enumD 0 _), eq]; simp
      obtain ⟨j, v, hj, rfl⟩ := enumD_mem rest 0 a (Int.le_refl 0) ha
      have hrn : rest ≠ [] := by rintro rfl; simp [enumD] at ha
      have hl : ds.length = 17 := by rw [h1]; exact hr17 hrn
      have hm := fmod_range (i := j) (j := 17) (by decide)
      obtain ⟨k, hk⟩ := Int.eq_ofNat_of_zero_le hm.1
      have hkl : k < ds.length := by omega
      have hM : oMod (.int j) (.int 17) = some (.int (k : Int)) := by rw [oMod_int (by decide), hk]
      have hI : oIx (.list (ds.map .int)) (.int (k : Int)) = some (.int ds[k]) := by
        show atI _ _ = _
        rw [atI_n, List.getElem?_map, List.getElem?_eq_getElem hkl]; rfl
      have hN : ixN (ds.map PyData.int).length (k : Int) = some k := by
        unfold ixN
        rw [List.length_map, if_pos (by omega), if_pos (by omega)]; simp
      rw [List.length_map] at hN
      have hv : 0 ≤ (if v < 0 then -v else v) := by split <;> omega
      refine ⟨_, rfl, _, .inl ?_, ds.set k (ds[k] + (if v < 0 then -v else v)), some (.d (.int j)), some (.d (.int v)), by simp [h1], ?_, rfl⟩
      · simp [hM, hI, hN]
      · intro c hc
        rcases List.mem_or_eq_of_mem_set hc with h | rfl
        · exact h2 c h
        · have := h2 _ (List.getElem_mem hkl)
          omega) ⟨cs, none, none, rfl, hcs, rfl⟩
  refine ⟨_, ⟨ds, 0, 0, 0, rfl, h2, Int.le_refl 0, Int.le_refl 0, Int.le_refl 0⟩, ?_⟩
  unfold scriptV at hc e ⊢
  simp [fn__law_pot_of, fnOfB_eq, b__law_pot_of, hsl, hc, hs2, enumOf, e]
end Lw
/-! DLEval: what a def's function does, head first; nothing is looked at that is not come to -/
namespace DL
open PySem PySem.Spec PyProof.Rows L2
section
variable {α β γ : Type}
/-! ### what follows, by name -/
def kThen (f : α → Env → Res β) (g : β → Env → Res γ) : α → Env → Res γ := fun a δ => (f a δ).bind g
@[simp high] theorem kThen_ap (f : α → Env → Res β) (g : β → Env → Res γ) (a : α) (δ : Env) : kThen f g a δ = (f a δ).bind g := rfl
@[simp high] theorem bind_bind (r : Res α) (f : α → Env → Res β) (g : β → Env → Res γ) : (r.bind f).bind g = r.bind (kThen f g) := by cases r <;> rfl
@[simp high] theorem bnd_ev (m : Mo α) (k : α → Mo β) (δ : Env) : bnd m k δ = (m δ).bind k := rfl
def kOp2b (o : Op2) (x : PyData) : PyData → Env → Res PyData := fun y δ => Res.of (o x y) δ
@[simp high] theorem kOp2b_ap (o : Op2) (x y : PyData) (δ : Env) : kOp2b o x y δ = Res.of (o x y) δ := rfl
def kOp2 (o : Op2) (fb : Mo PyData) : PyData → Env → Res PyData := fun x δ => (fb δ).bind (kOp2b o x)
@[simp high] theorem kOp2_ap (o : Op2) (fb : Mo PyData) (x : PyData) (δ : Env) : kOp2 o fb x δ = (fb δ).bind (kOp2b o x) := rfl
@[simp high] theorem op2_ev (o : Op2) (fa fb : Mo PyData) (δ : Env) : op2 o fa fb δ = (fa δ).bind (kOp2 o fb) := rfl
def kOp2Nb (o : Op2) (i : Nat) : PyData → Env → Res PyData := fun y δ' => Res.of ((gVar i δ').bind fun x => o x y) δ'
@[simp high] theorem kOp2Nb_ap (o : Op2) (i : Nat) (y : PyData) (δ : Env) : kOp2Nb o i y δ = Res.of ((gVar i δ).bind fun x => o x y) δ := rfl
def kOp2N (o : Op2) (i : Nat) (fb : Mo PyData) : PyData → Env → Res PyData := fun _ δ => (fb δ).bind (kOp2Nb o i)
@[simp high] theorem kOp2N_ap (o : Op2) (i : Nat) (fb : Mo PyData) (x : PyData) (δ : Env) : kOp2N o i fb x δ = (fb δ).bind (kOp2Nb o i) := rfl
@[simp high] theorem op2N_ev (o : Op2) (i : Nat) (fb : Mo PyData) (δ : Env) : op2N o i fb δ = (Res.of (gVar i δ) δ).bind (kOp2N o i fb) := rfl
def kOp2Q (o : Op2) (g : Env → Option PyData) : PyData → Env → Res PyData := fun x δ => Res.of ((g δ).bind fun y => o x y) δ
@[simp high] theorem kOp2Q_ap (o : Op2) (g : Env → Option PyData) (x : PyData) (δ : Env) : kOp2Q o g x δ = Res.of ((g δ).bind fun y => o x y) δ := rfl
@[simp high] theorem op2Q_ev (o : Op2) (fa : Mo PyData) (g : Env → Option PyData) (δ : Env) : op2Q o fa g δ = (fa δ).bind (kOp2Q o g) := rfl
def kOp2S (o : Op2) (fb : Mo PyData) : PyData → Env → Res PyData := fun x => match x with
  | .str _ => bnd fb fun y δ => Res.of (o x y) δ
  | _ => fun _ => .st
theorem op2S_ev0 (o : Op2) (fa fb : Mo PyData) (δ : Env) : op2S o fa fb δ = (fa δ).bind (kOp2S o fb) := by
  unfold op2S bnd
  cases fa δ with
  | ok x δ' => cases x <;> rfl
  | _ => rfl
@[simp high] theorem op2S_ev (o : Op2) (fa fb : Mo PyData) (δ : Env) : op2S o fa fb δ = (fa δ).bind (kOp2S o fb) := op2S_ev0 o fa fb δ
@[simp high] theorem kOp2S_ap (o : Op2) (fb : Mo PyData) (z : Str) (δ : Env) : kOp2S o fb (.str z) δ = (fb δ).bind (kOp2b o (.str z)) := rfl
@[simp high] theorem tst_ev (f : Mo PyData) (δ : Env) : tst f δ = (f δ).bind asB := rfl
def kNot : Bool → Env → Res Bool := fun b δ => .ok (!b) δ
@[simp high] theorem kNot_ap (b : Bool) (δ : Env) : kNot b δ = .ok (!b) δ := rfl
@[simp high] theorem mNot_ev (f : Mo Bool) (δ : Env) : mNot f δ = (f δ).bind kNot := rfl
/-- a choice: come to by its answer alone -/
def kIf (f g : Mo α) : Bool → Env → Res α := fun b δ => if b = true then f δ else g δ
@[simp high] theorem kIf_t (f g : Mo α) (δ : Env) : kIf f g true δ = f δ := rfl
@[simp high] theorem kIf_f (f g : Mo α) (δ : Env) : kIf f g false δ = g δ := rfl
def okM (a : α) : Mo α := fun δ => .ok a δ
@[simp high] theorem okM_ap (a : α) (δ : Env) : okM a δ = .ok a δ := rfl
@[simp high] theorem mAnd_ev (f g : Mo Bool) (δ : Env) : mAnd f g δ = (f δ).bind (kIf g (okM false)) := rfl
@[simp high] theorem mOr_ev (f g : Mo Bool) (δ : Env) : mOr f g δ = (f δ).bind (kIf (okM true) g) := rfl
@[simp high] theorem vAnd_ev (f g : Mo PyData) (δ : Env) : vAnd f g δ = (tst f δ).bind (kIf g (okM (.bool false))) := rfl
@[simp high] theorem vOr_ev (f g : Mo PyData) (δ : Env) : vOr f g δ = (tst f δ).bind (kIf (okM (.bool true)) g) := rfl
def kNotV : Bool → Env → Res PyData := fun b δ => .ok (.bool !b) δ
@[simp high] theorem kNotV_ap (b : Bool) (δ : Env) : kNotV b δ = .ok (.bool !b) δ := rfl
@[simp high] theorem vNot_ev (f : Mo PyData) (δ : Env) : vNot f δ = (tst f δ).bind kNotV := rfl
def kNeg : Int → Env → Res PyData := fun i δ => .ok (.int (-i)) δ
@[simp high] theorem kNeg_ap (i : Int) (δ : Env) : kNeg i δ = .ok (.int (-i)) δ := rfl
@[simp high] theorem vNeg_ev (f : Mo PyData) (δ : Env) : vNeg f δ = ((f δ).bind asI).bind kNeg := rfl
@[simp high] theorem mIf_ev (c : Mo Bool) (f g : Mo α) (δ : Env) : mIf c f g δ = (c δ).bind (kIf f g) := rfl
def chA (o o' : Op2) (fb fc : Mo PyData) : PyData → Env → Res PyData := fun x δ => (fb δ).bind fun y δ => (Res.of (o x y) δ).bind fun z δ => (asB z δ).bind fun b δ => if b = true then (fc δ).bind fun w δ' => Res.of (o' y w) δ' else .ok (.bool false) δ
def chB (o o' : Op2) (fc : Mo PyData) (x : PyData) : PyData → Env → Res PyData := fun y δ => (Res.of (o x y) δ).bind fun z δ => (asB z δ).bind fun b δ => if b = true then (fc δ).bind fun w δ' => Res.of (o' y w) δ' else .ok (.bool false) δ
def chD (o' : Op2) (fc : Mo PyData) (y : PyData) : Mo PyData := fun δ => (fc δ).bind (kOp2b o' y)
@[simp high] theorem mChain_ev (o o' : Op2) (fa fb fc : Mo PyData) (δ : Env) : mChain o o' fa fb fc δ = (fa δ).bind (chA o o' fb fc) := rfl
@[simp high] theorem chA_ap (o o' : Op2) (fb fc : Mo PyData) (x : PyData) (δ : Env) : chA o o' fb fc x δ = (fb δ).bind (chB o o' fc x) := rfl
@[simp high] theorem chB_ap (o o' : Op2) (fc : Mo PyData) (x y : PyData) (δ : Env) : chB o o' fc x y δ = ((Res.of (o x y) δ).bind asB).bind (kIf (chD o' fc y) (okM (.bool false))) := by
  unfold chB
  cases o x y with
  | none => rfl
  | some z => simp only [Res.of_some, Res.bind_ok]; cases asB z δ <;> rfl
@[simp high] theorem chD_ap (o' : Op2) (fc : Mo PyData) (y : PyData) (δ : Env) : chD o' fc y δ = (fc δ).bind (kOp2b o' y) := rfl
/-! ### rows of things -/
def kCons2 (d : α) : List α → Env → Res (List α) := fun ds δ => .ok (d :: ds) δ
@[simp high] theorem kCons2_ap (d : α) (ds : List α) (δ : Env) : kCons2 d ds δ = .ok (d :: ds) δ := rfl
def kCons (g : Mo (List PyData)) : PyData → Env → Res (List PyData) := fun d δ => (g δ).bind (kCons2 d)
@[simp high] theorem kCons_ap (g : Mo (List PyData)) (d : PyData) (δ : Env) : kCons g d δ = (g δ).bind (kCons2 d) := rfl
@[simp high] theorem mCons_ev (f : Mo PyData) (g : Mo (List PyData)) (δ : Env) : mCons f g δ = (f δ).bind (kCons g) := rfl
def kTup : List PyData → Env → Res PyData := fun ds δ => .ok (.tuple ds) δ
@[simp high] theorem kTup_ap (ds : List PyData) (δ : Env) : kTup ds δ = .ok (.tuple ds) δ := rfl
@[simp high] theorem mTup_ev (f : Mo (List PyData)) (δ : Env) : mTup f δ = (f δ).bind kTup := rfl
def kLst : List PyData → Env → Res PyData := fun ds δ => .ok (.list ds) δ
@[simp high] theorem kLst_ap (ds : List PyData) (δ : Env) : kLst ds δ = .ok (.list ds) δ := rfl
@[simp high] theorem mLst_ev (f : Mo (List PyData)) (δ : Env) : mLst f δ = (f δ).bind kLst := rfl
def kVLst : List PyData → Env → Res Val := fun ds δ => .ok (.lst ds) δ
@[simp high] theorem kVLst_ap (ds : List PyData) (δ : Env) : kVLst ds δ = .ok (.lst ds) δ := rfl
@[simp high] theorem vLst_ev (f : Mo (List PyData)) (δ : Env) : vLst f δ = (f δ).bind kVLst := rfl
def kCall (o : OpC) : List PyData → Env → Res PyData := fun ds δ => Res.of (o ds) δ
@[simp high] theorem kCall_ap (o : OpC) (ds : List PyData) (δ : Env) : kCall o ds δ = Res.of (o ds) δ := rfl
@[simp high] theorem mCall_ev (o : OpC) (f : Mo (List PyData)) (δ : Env) : mCall o f δ = (f δ).bind (kCall o) := rfl
def kIsi (T : String) : PyData → Env → Res PyData := fun d δ => .ok (.bool (isTy T d)) δ
@[simp high] theorem kIsi_ap (T : String) (d : PyData) (δ : Env) : kIsi T d δ = .ok (.bool (isTy T d)) δ := rfl
@[simp high] theorem mIsi_ev (T : String) (f : Mo PyData) (δ : Env) : mIsi T f δ = (f δ).bind (kIsi T) := rfl
/-! ### slices -/
def kSo : Int → Env → Res (Option Int) := fun i δ => .ok (some i) δ
@[simp high] theorem kSo_ap (i : Int) (δ : Env) : kSo i δ = .ok (some i) δ := rfl
@[simp high] theorem oSo_ev (f : Mo PyData) (δ : Env) : oSo f δ = ((f δ).bind asI).bind kSo := rfl
def slC (d : PyData) (lo : Option Int) : Option Int → Env → Res PyData := fun hi δ => Res.of (oSlice d lo hi) δ
@[simp high] theorem slC_ap (d : PyData) (lo hi : Option Int) (δ : Env) : slC d lo hi δ = Res.of (oSlice d lo hi) δ := rfl
def slB (d : PyData) (h : Mo (Option Int)) : Option Int → Env → Res PyData := fun lo δ => (h δ).bind (slC d lo)
@[simp high] theorem slB_ap (d : PyData) (h : Mo (Option Int)) (lo : Option Int) (δ : Env) : slB d h lo δ = (h δ).bind (slC d lo) := rfl
def slA (l h : Mo (Option Int)) : PyData → Env → Res PyData := fun d δ => (l δ).bind (slB d h)
@[simp high] theorem slA_ap (l h : Mo (Option Int)) (d : PyData) (δ : Env) : slA l h d δ = (l δ).bind (slB d h) := rfl
@[simp high] theorem mSlice_ev (f : Mo PyData) (l h : Mo (Option Int)) (δ : Env) : mSlice f l h δ = (f δ).bind (slA l h) := rfl
def snC (i : Nat) (lo : Option Int) : Option Int → Env → Res PyData := fun hi δ => Res.of ((gVar i δ).bind fun d => oSlice d lo hi) δ
@[simp high] theorem snC_ap (i : Nat) (lo hi : Option Int) (δ : Env) : snC i lo hi δ = Res.of ((gVar i δ).bind fun d => oSlice d lo hi) δ := rfl
def snB (i : Nat) (h : Mo (Option Int)) : Option Int → Env → Res PyData := fun lo δ => (h δ).bind (snC i lo)
@[simp high] theorem snB_ap (i : Nat) (h : Mo (Option Int)) (lo : Option Int) (δ : Env) : snB i h lo δ = (h δ).bind (snC i lo) := rfl
def snA (i : Nat) (l h : Mo (Option Int)) : PyData → Env → Res PyData := fun _ δ => (l δ).bind (snB i h)
@[simp high] theorem snA_ap (i : Nat) (l h : Mo (Option Int)) (d : PyData) (δ : Env) : snA i l h d δ = (l δ).bind (snB i h) := rfl
@[simp high] theorem mSliceN_ev (i : Nat) (l h : Mo (Option Int)) (δ : Env) : mSliceN i l h δ = (Res.of (gVar i δ) δ).bind (snA i l h) := rfl
/-! ### what is walked -/
def kItems : PyData → Env → Res (List PyData) := fun d δ => Res.of (itemsOf d) δ
@[simp high] theorem kItems_ap (d : PyData) (δ : Env) : kItems d δ = Res.of (itemsOf d) δ := rfl
@[simp high] theorem mItems_ev (f : Mo PyData) (δ : Env) : mItems f δ = (f δ).bind kItems := rfl
def kRng : List PyData → Env → Res (List PyData) := fun d δ => Res.of (rng1 d) δ
@[simp high] theorem kRng_ap (d : List PyData) (δ : Env) : kRng d δ = Res.of (rng1 d) δ := rfl
@[simp high] theorem mRng_ev (f : Mo (List PyData)) (δ : Env) : mRng f δ = (f δ).bind kRng := rfl
def kEnum : List PyData → Env → Res (List PyData) := fun d δ => Res.of (enumOf d) δ
@[simp high] theorem kEnum_ap (d : List PyData) (δ : Env) : kEnum d δ = Res.of (enumOf d) δ := rfl
@[simp high] theorem mEnum_ev (f : Mo (List PyData)) (δ : Env) : mEnum f δ = (f δ).bind kEnum := rfl
def lcB (own : List Nat) (δ : Env) : List PyData → Env → Res Val := fun ys δ' => .ok (.lst ys) (backE δ δ' own)
@[simp high] theorem lcB_ap (own : List Nat) (δ δ' : Env) (ys : List PyData) : lcB own δ ys δ' = .ok (.lst ys) (backE δ δ' own) := rfl
def lcA (own : List Nat) (τ : Tau) (ft : Mo Bool) (fe : Mo PyData) : List PyData → Env → Res Val := fun ds δ => (lcGo own τ ft fe ds (wipeE δ own)).bind (lcB own δ)
@[simp high] theorem lcA_ap (own : List Nat) (τ : Tau) (ft : Mo Bool) (fe : Mo PyData) (ds : List PyData) (δ : Env) : lcA own τ ft fe ds δ = (lcGo own τ ft fe ds (wipeE δ own)).bind (lcB own δ) := rfl
@[simp high] theorem mLc_ev (own : List Nat) (τ : Tau) (fi : Mo (List PyData)) (ft : Mo Bool) (fe : Mo PyData) (δ : Env) : mLc own τ fi ft fe δ = (fi δ).bind (lcA own τ ft fe) := rfl
def dcB (own : List Nat) (δ : Env) : KvD → Env → Res Val := fun acc δ' => .ok (.dct (acc.map kd)) (backE δ δ' own)
@[simp high] theorem dcB_ap (own : List Nat) (δ δ' : Env) (acc : KvD) : dcB own δ acc δ' = .ok (.dct (acc.map kd)) (backE δ δ' own) := rfl
def dcA (own : List Nat) (τ : Tau) (fk fe : Mo PyData) : List PyData → Env → Res Val := fun ds δ => (dcGo own τ fk fe ds [] (wipeE δ own)).bind (dcB own δ)
@[simp high] theorem dcA_ap (own : List Nat) (τ : Tau) (fk fe : Mo PyData) (ds : List PyData) (δ : Env) : dcA own τ fk fe ds δ = (dcGo own τ fk fe ds [] (wipeE δ own)).bind (dcB own δ) := rfl
@[simp high] theorem mDc_ev (own : List Nat) (τ : Tau) (fi : Mo (List PyData)) (fk fe : Mo PyData) (δ : Env) : mDc own τ fi fk fe δ = (fi δ).bind (dcA own τ fk fe) := rfl
/-! ### turns of a comprehension -/
def ltC (own : List Nat) : PyData → Env → Res (Option PyData) := fun y δ => .ok (some y) (wipeE δ own)
@[simp high] theorem ltC_ap (own : List Nat) (y : PyData) (δ : Env) : ltC own y δ = .ok (some y) (wipeE δ own) := rfl
def ltY (own : List Nat) (fe : Mo PyData) : Mo (Option PyData) := fun δ => (noex (fe δ)).bind (ltC own)
@[simp high] theorem ltY_ap (own : List Nat) (fe : Mo PyData) (δ : Env) : ltY own fe δ = (noex (fe δ)).bind (ltC own) := rfl
def ltN (own : List Nat) : Mo (Option PyData) := fun δ => .ok none (wipeE δ own)
@[simp high] theorem ltN_ap (own : List Nat) (δ : Env) : ltN own δ = .ok none (wipeE δ own) := rfl
def ltA (own : List Nat) (ft : Mo Bool) (fe : Mo PyData) : Env → Env → Res (Option PyData) := fun δ1 _ => (noex (ft δ1)).bind (kIf (ltY own fe) (ltN own))
@[simp high] theorem ltA_ap (own : List Nat) (ft : Mo Bool) (fe : Mo PyData) (δ δ' : Env) : ltA own ft fe δ δ' = (noex (ft δ)).bind (kIf (ltY own fe) (ltN own)) := rfl
@[simp high] theorem lcTurn_ev (own : List Nat) (τ : Tau) (ft : Mo Bool) (fe : Mo PyData) (d : PyData) (δ : Env) : lcTurn own τ ft fe d δ = (Res.of (τ d δ) δ).bind (ltA own ft fe) := rfl
def noexK (f : α → Env → Res β) : α → Env → Res β := fun a δ => noex (f a δ)
@[simp high] theorem noexK_ap (f : α → Env → Res β) (a : α) (δ : Env) : noexK f a δ = noex (f a δ) := rfl
@[simp high] theorem noex_bnd (r : Res α) (f : α → Env → Res β) : noex (r.bind f) = (noex r).bind (noexK f) := by cases r <;> rfl
@[simp high] theorem noex_okV (a : α) (δ : Env) : noex (Res.ok a δ) = .ok a δ := rfl
@[simp high] theorem noex_kIf (f g : Mo α) (b : Bool) (δ : Env) : noex (kIf f g b δ) = kIf (fun δ => noex (f δ)) (fun δ => noex (g δ)) b δ := by cases b <;> rfl
@[simp high] theorem noex_ofO (o : Option α) (δ : Env) : noex (Res.of o δ) = Res.of o δ := by cases o <;> rfl
/-! ### statements -/
def contK (k : Mo Fl) : Fl → Env → Res Fl := fun fl δ => match fl with
  | .nx => k δ
  | fl => .ok fl δ
@[simp high] theorem contK_nx (k : Mo Fl) (δ : Env) : contK k .nx δ = k δ := rfl
@[simp high] theorem contK_ret (k : Mo Fl) (x : Val) (δ : Env) : contK k (.ret x) δ = .ok (.ret x) δ := rfl
@[simp high] theorem contK_bk (k : Mo Fl) (δ : Env) : contK k .bk δ = .ok .bk δ := rfl
@[simp high] theorem contK_ct (k : Mo Fl) (δ : Env) : contK k .ct δ = .ok .ct δ := rfl
theorem sSeq_ev0 (f g : Mo Fl) (δ : Env) : sSeq f g δ = (f δ).bind (contK g) := by
  show sThen (f δ) g = _
  cases f δ with
  | ok a δ => cases a <;> rfl
  | _ => rfl
@[simp high] theorem sSeq_ev (f g : Mo Fl) (δ : Env) : sSeq f g δ = (f δ).bind (contK g) := sSeq_ev0 f g δ
def kExpr : PyData → Env → Res Fl := fun _ δ => .ok .nx δ
@[simp high] theorem kExpr_ap (d : PyData) (δ : Env) : kExpr d δ = .ok .nx δ := rfl
@[simp high] theorem sExpr_ev (f : Mo PyData) (δ : Env) : sExpr f δ = (f δ).bind kExpr := rfl
def kRet : PyData → Env → Res Fl := fun d δ => .ok (.ret (.d d)) δ
@[simp high] theorem kRet_ap (d : PyData) (δ : Env) : kRet d δ = .ok (.ret (.d d)) δ := rfl
@[simp high] theorem sRet_ev (f : Mo PyData) (δ : Env) : sRet f δ = (f δ).bind kRet := rfl
def kRetV : Val → Env → Res Fl := fun d δ => .ok (.ret d) δ
@[simp high] theorem kRetV_ap (d : Val) (δ : Env) : kRetV d δ = .ok (.ret d) δ := rfl
@[simp high] theorem sRetV_ev (f : Mo Val) (δ : Env) : sRetV f δ = (f δ).bind kRetV := rfl
@[simp high] theorem sIf_ev (c : Mo Bool) (f g : Mo Fl) (δ : Env) : sIf c f g δ = (c δ).bind (kIf f g) := rfl
def kSetN (i : Nat) : PyData → Env → Res Fl := fun d δ => .ok .nx (δ.set i (some (.d d)))
@[simp high] theorem kSetN_ap (i : Nat) (d : PyData) (δ : Env) : kSetN i d δ = .ok .nx (δ.set i (some (.d d))) := rfl
@[simp high] theorem sSetN_ev (i : Nat) (f : Mo PyData) (δ : Env) : sSetN i f δ = (f δ).bind (kSetN i) := rfl
def kSetV (i : Nat) : Val → Env → Res Fl := fun d δ => .ok .nx (δ.set i (some d))
@[simp high] theorem kSetV_ap (i : Nat) (d : Val) (δ : Env) : kSetV i d δ = .ok .nx (δ.set i (some d)) := rfl
@[simp high] theorem sSetV_ev (i : Nat) (f : Mo Val) (δ : Env) : sSetV i f δ = (f δ).bind (kSetV i) := rfl
def kSetF (i : Nat) : Val → Env → Res Fl := fun x δ => (Res.of x.vw δ).bind (kSetN i)
@[simp high] theorem kSetF_ap (i : Nat) (x : Val) (δ : Env) : kSetF i x δ = (Res.of x.vw δ).bind (kSetN i) := rfl
@[simp high] theorem sSetF_ev (i : Nat) (f : Mo Val) (δ : Env) : sSetF i f δ = (f δ).bind (kSetF i) := rfl
def kNxE : Env → Env → Res Fl := fun δ' _ => .ok .nx δ'
@[simp high] theorem kNxE_ap (δ δ' : Env) : kNxE δ δ' = .ok .nx δ := rfl
def kTau (τ : Tau) : PyData → Env → Res Fl := fun d δ => (Res.of (τ d δ) δ).bind kNxE
@[simp high] theorem kTau_ap (τ : Tau) (d : PyData) (δ : Env) : kTau τ d δ = (Res.of (τ d δ) δ).bind kNxE := rfl
@[simp high] theorem sSet_ev (τ : Tau) (f : Mo PyData) (δ : Env) : sSet τ f δ = (f δ).bind (kTau τ) := rfl
def kPar (i j : Nat) : List PyData → Env → Res Fl := fun ds δ => match ds with
  | [d, e] => .ok .nx ((δ.set i (some (.d d))).set j (some (.d e)))
  | _ => .st
@[simp high] theorem kPar_ap (i j : Nat) (d e : PyData) (δ : Env) : kPar i j [d, e] δ = .ok .nx ((δ.set i (some (.d d))).set j (some (.d e))) := rfl
@[simp high] theorem sPar_ev (i j : Nat) (f : Mo (List PyData)) (δ : Env) : sPar i j f δ = (f δ).bind (kPar i j) := rfl
def augB (o : Op2) (i : Nat) (x : PyData) : PyData → Env → Res Fl := fun y δ => (Res.of (o x y) δ).bind (kSetN i)
@[simp high] theorem augB_ap (o : Op2) (i : Nat) (x y : PyData) (δ : Env) : augB o i x y δ = (Res.of (o x y) δ).bind (kSetN i) := rfl
def augA (o : Op2) (i : Nat) (f : Mo PyData) : PyData → Env → Res Fl := fun x δ => (f δ).bind (augB o i x)
@[simp high] theorem augA_ap (o : Op2) (i : Nat) (f : Mo PyData) (x : PyData) (δ : Env) : augA o i f x δ = (f δ).bind (augB o i x) := rfl
@[simp high] theorem sAug_ev (o : Op2) (i : Nat) (f : Mo PyData) (δ : Env) : sAug o i f δ = (mVar i δ).bind (augA o i f) := rfl
def siD (i : Nat) (d : PyData) (k : Int) : List PyData → Env → Res Fl := fun xs δ => match ixN xs.length k with
  | some j => .ok .nx (δ.set i (some (.lst (xs.set j d))))
  | none => .st
@[simp high] theorem siD_ap (i : Nat) (d : PyData) (k : Int) (xs : List PyData) (δ : Env) : siD i d k xs δ = match ixN xs.length k with | some j => .ok .nx (δ.set i (some (.lst (xs.set j d)))) | none => .st := rfl
def siC (i : Nat) (d : PyData) : Int → Env → Res Fl := fun k δ => (getL i δ).bind (siD i d k)
@[simp high] theorem siC_ap (i : Nat) (d : PyData) (k : Int) (δ : Env) : siC i d k δ = (getL i δ).bind (siD i d k) := rfl
def siB (i : Nat) (fi : Mo PyData) (d : PyData) : List PyData → Env → Res Fl := fun _ δ => ((fi δ).bind asI).bind (siC i d)
@[simp high] theorem siB_ap (i : Nat) (fi : Mo PyData) (d : PyData) (xs : List PyData) (δ : Env) : siB i fi d xs δ = ((fi δ).bind asI).bind (siC i d) := rfl
def siA (i : Nat) (fi : Mo PyData) : PyData → Env → Res Fl := fun d δ => (getL i δ).bind (siB i fi d)
@[simp high] theorem siA_ap (i : Nat) (fi : Mo PyData) (d : PyData) (δ : Env) : siA i fi d δ = (getL i δ).bind (siB i fi d) := rfl
@[simp high] theorem sSetItem_ev (i : Nat) (fi fv : Mo PyData) (δ : Env) : sSetItem i fi fv δ = (fv δ).bind (siA i fi) := rfl
def apB (i : Nat) (d : PyData) : List PyData → Env → Res PyData := fun xs δ => if xs.length < sizeLine then .ok .none (δ.set i (some (.lst (xs ++ [d])))) else .st
@[simp high] theorem apB_ap (i : Nat) (d : PyData) (xs : List PyData) (δ : Env) : apB i d xs δ = if xs.length < sizeLine then .ok .none (δ.set i (some (.lst (xs ++ [d])))) else .st := rfl
def apA (i : Nat) : PyData → Env → Res PyData := fun d δ => (getL i δ).bind (apB i d)
@[simp high] theorem apA_ap (i : Nat) (d : PyData) (δ : Env) : apA i d δ = (getL i δ).bind (apB i d) := rfl
def ap0 (i : Nat) (f : Mo PyData) : List PyData → Env → Res PyData := fun _ δ => (f δ).bind (apA i)
@[simp high] theorem ap0_ap (i : Nat) (f : Mo PyData) (xs : List PyData) (δ : Env) : ap0 i f xs δ = (f δ).bind (apA i) := rfl
@[simp high] theorem mAppend_ev (i : Nat) (f : Mo PyData) (δ : Env) : mAppend i f δ = (getL i δ).bind (ap0 i f) := rfl
/-! ### calls -/
def kCallD (fn : FnD) : List Arg → Env → Res Val := fun as δ => mCall2 fn as δ
@[simp high] theorem kCallD_ap (fn : FnD) (as : List Arg) (δ : Env) : kCallD fn as δ = match takeArgs δ as with | none => .st | some p => afterCall (fn p.1) p.2 as := mCall2_eq fn as δ
@[simp high] theorem mCallD_ev (fn : FnD) (fa : Mo (List Arg)) (δ : Env) : mCallD fn fa δ = (fa δ).bind (kCallD fn) := rfl
def kDat (g : Mo (List Arg)) : PyData → Env → Res (List Arg) := fun d δ => (g δ).bind (kCons2 (.dat d))
@[simp high] theorem kDat_ap (g : Mo (List Arg)) (d : PyData) (δ : Env) : kDat g d δ = (g δ).bind (kCons2 (.dat d)) := rfl
@[simp high] theorem aDat_ev (f : Mo PyData) (g : Mo (List Arg)) (δ : Env) : aDat f g δ = (f δ).bind (kDat g) := rfl
@[simp high] theorem aOwn_ev (i : Nat) (g : Mo (List Arg)) (δ : Env) : aOwn i g δ = match δ[i]? with | some (some _) => (g δ).bind (kCons2 (.own i)) | _ => .st := rfl
def kFor (τ : Tau) (b : Mo Fl) : List PyData → Env → Res Fl := fun ds δ => sForGo τ b ds δ
@[simp high] theorem kFor_ap (τ : Tau) (b : Mo Fl) (ds : List PyData) (δ : Env) : kFor τ b ds δ = sForGo τ b ds δ := rfl
@[simp high] theorem sFor_ev (τ : Tau) (fi : Mo (List PyData)) (b : Mo Fl) (δ : Env) : sFor τ fi b δ = (fi δ).bind (kFor τ b) := rfl
end
end DL
/-! DLWp: what is wanted of an outcome; goals that go forward through a def's function -/
namespace DL
open PySem PySem.Spec PyProof.Rows L2
section
variable {α β γ : Type}
abbrev XQ := Addr → List (Str × PyData) → Env → Prop
abbrev XF := Addr → List (Str × PyData) → List Val → Prop
def NoE : XQ := fun _ _ _ => False
def NoF : XF := fun _ _ _ => False
@[irreducible] def Wp (r : Res α) (Q : α → Env → Prop) (E : XQ) : Prop := match r with
  | .st => False
  | .ok a δ => Q a δ
  | .ex c x δ => E c x δ
@[irreducible] def WpF (r : FRes) (Q : Val → List Val → Prop) (E : XF) : Prop := match r with
  | .st => False
  | .ok a b => Q a b
  | .ex c x b => E c x b
variable {r r' : Res α} {k : α → Env → Res β} {Q : α → Env → Prop} {R : β → Env → Prop} {E : XQ} {δ : Env}
@[simp] theorem Wp_ok (a : α) (δ : Env) : Wp (.ok a δ) Q E = Q a δ := by unfold Wp; rfl
@[simp] theorem Wp_st : Wp (.st : Res α) Q E = False := by unfold Wp; rfl
@[simp] theorem Wp_ex (c : Addr) (x : List (Str × PyData)) (δ : Env) : Wp (.ex c x δ : Res α) Q E = E c x δ := by unfold Wp; rfl
@[simp] theorem WpF_ok (a : Val) (b : List Val) {Q : Val → List Val → Prop} {E : XF} : WpF (.ok a b) Q E = Q a b := by unfold WpF; rfl
@[simp] theorem WpF_st {Q : Val → List Val → Prop} {E : XF} : WpF .st Q E = False := by unfold WpF; rfl
@[simp] theorem WpF_ex (c : Addr) (x : List (Str × PyData)) (b : List Val) {Q : Val → List Val → Prop} {E : XF} : WpF (.ex c x b) Q E = E c x b := by unfold WpF; rfl
@[simp] theorem NoE_eq (c : Addr) (x : List (Str × PyData)) (δ : Env) : NoE c x δ = False := rfl
@[simp] theorem NoF_eq (c : Addr) (x : List (Str × PyData)) (b : List Val) : NoF c x b = False := rfl
theorem Wp.mono {Q' : α → Env → Prop} (h : Wp r Q E) (q : ∀ a δ, Q a δ → Q' a δ) : Wp r Q' E := by unfold Wp at *; cases r <;> first | exact q _ _ h | exact h
theorem Wp.bind (h : Wp r (fun a δ => Wp (k a δ) R E) E) : Wp (r.bind k) R E := by cases r <;> simp_all
/-- a choice -/
theorem Wp.kif {f g : Mo α} {b : Bool} {k : α → Env → Res β} (h : b = true → Wp ((f δ).bind k) R E) (h' : b = false → Wp ((g δ).bind k) R E) : Wp ((kIf f g b δ).bind k) R E := by cases b <;> simp_all [kIf]
theorem Wp.kif0 {f g : Mo α} {b : Bool} (h : b = true → Wp (f δ) Q E) (h' : b = false → Wp (g δ) Q E) : Wp (kIf f g b δ) Q E := by cases b <;> simp_all [kIf]
/-- ways that meet -/
theorem Wp.join {k2 : β → Env → Res γ} {Q : β → Env → Prop} {R : γ → Env → Prop} (h : Wp (r.bind k) Q E) (q : ∀ a δ, Q a δ → Wp (k2 a δ) R E) : Wp (r.bind (kThen k k2)) R E := by
  rw [← bind_bind]
  exact Wp.bind (h.mono q)
theorem Wp.last (h : Wp (r.bind fun a δ => .ok a δ) Q E) : Wp r Q E := by cases r <;> simp_all
theorem Wp.okE (h : Wp r Q NoE) : ∃ a δ, r = .ok a δ ∧ Q a δ := by unfold Wp at h; cases r <;> first | exact h.elim | exact ⟨_, _, rfl, h⟩
theorem WpF.okE {r : FRes} {Q : Val → List Val → Prop} (h : WpF r Q NoF) : ∃ a b, r = .ok a b ∧ Q a b := by unfold WpF at h; cases r <;> first | exact h.elim | exact ⟨_, _, rfl, h⟩
theorem WpF.eq {r : FRes} {v : Val} {b : List Val} (h : WpF r (fun v' b' => v' = v ∧ b' = b) NoF) : r = .ok v b := by
  obtain ⟨_, _, e, rfl, rfl⟩ := h.okE
  exact e
theorem Wp.of_eq {a : α} {δ' : Env} (e : r = .ok a δ') (h : Wp (k a δ') R E) : Wp (r.bind k) R E := by rw [e]; exact h
theorem WpF.mono {r : FRes} {Q Q' : Val → List Val → Prop} {E : XF} (h : WpF r Q E) (q : ∀ a b, Q a b → Q' a b) : WpF r Q' E := by unfold WpF at *; cases r <;> first | exact q _ _ h | exact h
/-! ### calls -/
theorem Wp.call {fr : FRes} {as : List Arg} {k : Val → Env → Res β} (h : WpF fr (fun v b => Wp (k v (giveBack δ as b)) R E) (fun c x b => E c x (giveBack δ as b))) : Wp ((afterCall fr δ as).bind k) R E := by
  unfold WpF at h
  cases fr with
  | ok v b => exact h
  | st => exact h.elim
  | ex c x b => simpa [afterCall] using h
theorem Wp.callE {fr : FRes} {as : List Arg} {k : Val → Env → Res β} {Q : Val → List Val → Prop} (h : WpF fr Q NoF) (q : ∀ v b, Q v b → Wp (k v (giveBack δ as b)) R E) : Wp ((afterCall fr δ as).bind k) R E := by
  obtain ⟨v, b, e, h1⟩ := h.okE
  rw [e]
  exact q v b h1
theorem Wp.callN {fr : FRes} {as : List Arg} {k : Val → Env → Res β} {Q : Val → List Val → Prop} (h : WpF fr Q NoF) (q : ∀ v b, Q v b → Wp (k v (giveBack δ as b)) R E) : Wp ((DL.noex (afterCall fr δ as)).bind k) R E := by
  obtain ⟨v, b, e, h1⟩ := h.okE
  rw [e]
  exact q v b h1
@[simp] theorem noex_after (v : Val) (b : List Val) (δ : Env) (as : List Arg) : DL.noex (afterCall (.ok v b) δ as) = .ok v (giveBack δ as b) := rfl
theorem Wp.seq {f g : Mo Fl} {δ' : Env} {Q : Fl → Env → Prop} (e : f δ = .ok .nx δ') (h : Wp (g δ') Q E) : Wp (sSeq f g δ) Q E := by
  rw [sSeq_ev, e]
  exact h
theorem Wp.nx {g : Mo Fl} {Q : Fl → Env → Prop} (h : Wp (g δ) Q E) : Wp (contK g .nx δ) Q E := h
theorem Wp.nxb {g : Mo Fl} {k : Fl → Env → Res β} (h : Wp ((g δ).bind k) R E) : Wp (kThen (contK g) k .nx δ) R E := h
/-! ### a def's end -/
def endQ (args : List Val) (Q : Val → List Val → Prop) : Fl → Env → Prop := fun fl δ => match fl with
  | .ret x => match backs args δ with
    | some b => Q x b
    | none => False
  | .nx => match backs args δ with
    | some b => Q (.d .none) b
    | none => False
  | _ => False
def endE (args : List Val) (E : XF) : XQ := fun c x δ => match backs args δ with
  | some b => E c x b
  | none => False
@[simp] theorem endQ_ret (args : List Val) (Q : Val → List Val → Prop) (x : Val) (δ : Env) : endQ args Q (.ret x) δ = match backs args δ with | some b => Q x b | none => False := rfl
@[simp] theorem endQ_nx (args : List Val) (Q : Val → List Val → Prop) (δ : Env) : endQ args Q .nx δ = match backs args δ with | some b => Q (.d .none) b | none => False := rfl
@[simp] theorem endE_eq (args : List Val) (E : XF) (c : Addr) (x : List (Str × PyData)) (δ : Env) : endE args E c x δ = match backs args δ with | some b => E c x b | none => False := rfl
theorem WpF_endOf (args : List Val) (r : Res Fl) (Q : Val → List Val → Prop) (E : XF) : WpF (endOf args r) Q E = Wp r (endQ args Q) (endE args E) := by
  cases r with
  | ok a δ =>
    cases a with
    | nx => simp only [endOf, Wp_ok, endQ]; cases backs args δ <;> simp
    | ret x => simp only [endOf, Wp_ok, endQ]; cases backs args δ <;> simp
    | bk => simp [endOf, endQ]
    | ct => simp [endOf, endQ]
  | ex c x δ => simp only [endOf, Wp_ex, endE]; cases backs args δ <;> simp
  | st => simp [endOf]
theorem WpF.fn {kp : List Nat} {n m : Nat} {body : Mo Fl} {args : List Val} {Q : Val → List Val → Prop} {E : XF} (ho : (ownOk kp 0 args && args.length == n) = true) (h : Wp (body (env0 args m)) (endQ args Q) (endE args E)) : WpF (fnOfB kp n m body args) Q E := by
  rw [fnOfB_eq, if_pos ho, WpF_endOf]
  exact h
/-! ### loops -/
/-- what a turn leads to -/
def turnQ (N : Env → Prop) (k : Fl → Env → Res β) (R : β → Env → Prop) (E : XQ) : Fl → Env → Prop := fun fl δ => match fl with
  | .nx => N δ
  | .ct => N δ
  | .bk => Wp (k .nx δ) R E
  | .ret x => Wp (k (.ret x) δ) R E
@[simp] theorem turnQ_nx (N : Env → Prop) (k : Fl → Env → Res β) (R : β → Env → Prop) (E : XQ) (δ : Env) : turnQ N k R E .nx δ = N δ := rfl
@[simp] theorem turnQ_ct (N : Env → Prop) (k : Fl → Env → Res β) (R : β → Env → Prop) (E : XQ) (δ : Env) : turnQ N k R E .ct δ = N δ := rfl
@[simp] theorem turnQ_bk (N : Env → Prop) (k : Fl → Env → Res β) (R : β → Env → Prop) (E : XQ) (δ : Env) : turnQ N k R E .bk δ = Wp (k .nx δ) R E := rfl
@[simp] theorem turnQ_ret (N : Env → Prop) (k : Fl → Env → Res β) (R : β → Env → Prop) (E : XQ) (x : Val) (δ : Env) : turnQ N k R E (.ret x) δ = Wp (k (.ret x) δ) R E := rfl
theorem Wp.turn {r : Res Fl} {b : Mo Fl} {N : Env → Prop} {k : Fl → Env → Res β} (h : Wp r (turnQ N k R E) E) (q : ∀ δ, N δ → Wp ((b δ).bind k) R E) : Wp ((sTurn r b).bind k) R E := by
  cases r with
  | ok a δ =>
    rw [Wp_ok] at h
    cases a with
    | nx => exact q _ h
    | ct => exact q _ h
    | bk => exact h
    | ret x => exact h
  | st => rw [Wp_st] at h; exact h.elim
  | ex c x δ => rw [Wp_ex] at h; simpa [sTurn] using h
/-- a for loop, by what holds behind the first items -/
theorem Wp.for {τ : Tau} {b : Mo Fl} {k : Fl → Env → Res β} (I : List PyData → Env → Prop) : ∀ {l pre : List PyData} {δ : Env},
    I pre δ → (∀ p a q δ, pre ++ l = p ++ a :: q → I p δ → ∃ δ1, τ a δ = some δ1 ∧ Wp (b δ1) (turnQ (I (p ++ [a])) k R E) E) → (∀ δ, I (pre ++ l) δ → Wp (k .nx δ) R E) → Wp ((sForGo τ b l δ).bind k) R E
  | [], pre, δ, h, _, e => e δ (by simpa using h)
  | a :: l, pre, δ, h, s, e => by
    obtain ⟨δ1, h1, h2⟩ := s pre a l δ rfl h
    rw [sForGo_cons, h1, Res.of_some, Res.bind_ok]
    exact Wp.turn h2 fun δ2 h3 => Wp.for I h3 (fun p a' q δ' e' => s p a' q δ' (by simpa using e')) fun δ' h4 => e δ' (by simpa using h4)
theorem Wp.forI {τ : Tau} {b : Mo Fl} {k : Fl → Env → Res β} (I : Env → Prop) {l : List PyData} {δ : Env} (h : I δ) (s : ∀ a ∈ l, ∀ δ, I δ → ∃ δ1, τ a δ = some δ1 ∧ Wp (b δ1) (turnQ I k R E) E) (e : ∀ δ, I δ → Wp (k .nx δ) R E) : Wp ((sForGo τ b l δ).bind k) R E :=
  Wp.for (fun _ => I) (pre := []) h (fun p a q δ eq => s a (by rw [List.nil_append] at eq; rw [eq]; simp) δ) fun δ h => e δ h
/-- the same, with what holds told of the env ahead of it and the env now -/
theorem Wp.forRel {τ : Tau} {b : Mo Fl} {k : Fl → Env → Res β} {l : List PyData} {δ : Env} (J : Env → Env → Prop) (h : J δ δ) (s : ∀ a ∈ l, ∀ δ', J δ δ' → ∃ δ1, τ a δ' = some δ1 ∧ Wp (b δ1) (turnQ (J δ) k R E) E) (e : ∀ δ', J δ δ' → Wp (k .nx δ') R E) : Wp ((sForGo τ b l δ).bind k) R E :=
  Wp.forI (J δ) h s e
/-- a while loop, by an invariant and a measure below the fuel -/
theorem Wp.while {c : Mo Bool} {b : Mo Fl} {k : Fl → Env → Res β} (I : Nat → Env → Prop) (s : ∀ m δ, I m δ → Wp (c δ) (fun t δ1 => if t = true then Wp (b δ1) (turnQ (fun δ2 => ∃ m' < m, I m' δ2) k R E) E else Wp (k .nx δ1) R E) E) : ∀ {n m : Nat} {δ : Env}, m < n → I m δ → Wp ((sWhileN c b n δ).bind k) R E
  | 0, _, _, h, _ => absurd h (Nat.not_lt_zero _)
  | n + 1, m, δ, hm, h => by
    have h1 := s m δ h
    rw [sWhileN]
    show Wp (((c δ).bind _).bind k) R E
    rw [bind_bind]
    refine Wp.bind (h1.mono fun t δ1 h2 => ?_)
    rw [kThen_ap]
    cases t with
    | false => exact h2
    | true =>
      refine Wp.turn h2 fun δ2 ⟨m', hm', h3⟩ => Wp.while I s (by omega) h3
/-! ### comprehensions -/
/-- a comprehension whose turns change the env -/
theorem Wp.lc {own : List Nat} {τ : Tau} {ft : Mo Bool} {fe : Mo PyData} {k : List PyData → Env → Res β} (I : List PyData → List PyData → Env → Prop) : ∀ {l pre ys : List PyData} {δ : Env},
    I pre ys δ → (∀ p a q ys δ, pre ++ l = p ++ a :: q → I p ys δ → Wp (lcTurn own τ ft fe a δ) (fun o δ' => I (p ++ [a]) (ys ++ o.toList) δ') NoE) → (∀ ys' δ, I (pre ++ l) (ys ++ ys') δ → Wp (k ys' δ) R E) → Wp ((lcGo own τ ft fe l δ).bind k) R E
  | [], pre, ys, δ, h, _, e => e [] δ (by simpa using h)
  | a :: l, pre, ys, δ, h, s, e => by
    obtain ⟨o, δ1, h1, h2⟩ := (s pre a l ys δ rfl h).okE
    rw [lcGo_turn, h1, Res.bind_ok, bind_bind]
    exact Wp.lc I h2 (fun p a' q ys' δ' e' => s p a' q ys' δ' (by simpa using e')) fun ys' δ' h4 => by
      rw [kThen_ap, Res.bind_ok]
      exact e _ δ' (by simpa using h4)
/-- a comprehension without an if: every item gives one with P -/
theorem Wp.lcAll {own : List Nat} {τ : Tau} {fe : Mo PyData} {k : List PyData → Env → Res β} (I : Env → Prop) (P : PyData → Prop) {l : List PyData} {δ : Env} (h : I δ) (s : ∀ a ∈ l, ∀ δ, I δ → Wp (lcTurn own τ mYes fe a δ) (fun o δ' => ∃ y, o = some y ∧ P y ∧ I δ') NoE)
    (e : ∀ ys δ, ys.length = l.length → (∀ y ∈ ys, P y) → I δ → Wp (k ys δ) R E) : Wp ((lcGo own τ mYes fe l δ).bind k) R E := by
  refine Wp.lc (fun p ys δ => ys.length = p.length ∧ (∀ y ∈ ys, P y) ∧ I δ) (pre := []) (ys := []) ⟨rfl, by simp, h⟩ (fun p a q ys δ eq ⟨h1, h2, h3⟩ => ?_) fun ys δ ⟨h1, h2, h3⟩ => e ys δ (by simpa using h1) (by simpa using h2) h3
  refine (s a (by rw [List.nil_append] at eq; rw [eq]; simp) δ h3).mono fun o δ' ⟨y, eo, h4, h5⟩ => ?_
  subst eo
  refine ⟨by simp [h1], ?_, h5⟩
  intro z hz
  rcases List.mem_append.mp hz with hz | hz
  · exact h2 z hz
  · simp at hz; subst hz; exact h4
/-- the same where one slot changes alone -/
theorem Wp.lcSlot {own : List Nat} {τ : Tau} {fe : Mo PyData} {k : List PyData → Env → Res β} (i : Nat) (A : Val → Prop) (P : PyData → Prop) {l : List PyData} {δ : Env} {v : Val} (hv : A v) (hi : δ.set i (some v) = δ)
    (s : ∀ a ∈ l, ∀ v, A v → Wp (lcTurn own τ mYes fe a (δ.set i (some v))) (fun o δ' => ∃ y v', o = some y ∧ P y ∧ A v' ∧ δ' = δ.set i (some v')) NoE)
    (e : ∀ ys v, ys.length = l.length → (∀ y ∈ ys, P y) → A v → Wp (k ys (δ.set i (some v))) R E) : Wp ((lcGo own τ mYes fe l δ).bind k) R E := by
  refine Wp.lcAll (fun δ' => ∃ v, A v ∧ δ' = δ.set i (some v)) P ⟨v, hv, hi.symm⟩ ?_ ?_
  · rintro a ha _ ⟨v, hv, rfl⟩
    refine (s a ha v hv).mono ?_
    rintro o δ' ⟨y, v', h1, h2, h3, h4⟩
    exact ⟨y, h1, h2, v', h3, h4⟩
  · rintro ys _ hl hys ⟨v, hv, rfl⟩
    exact e ys v hl hys hv
theorem Wp.lcEq {own : List Nat} {τ : Tau} {ft : Mo Bool} {fe : Mo PyData} {k : List PyData → Env → Res β} {l zs : List PyData} {δ : Env} (h : lcGo own τ ft fe l δ = .ok zs δ) (e : Wp (k zs δ) R E) : Wp ((lcGo own τ ft fe l δ).bind k) R E := by rw [h]; exact e
/-! ### ranges -/
def rngD (n : Nat) : List PyData := (List.range n).map fun (i : Nat) => .int (i : Int)
theorem rng1_int {k : Int} (h : k ≤ 16777216) (h0 : -16777216 ≤ k) : rng1 [.int k] = some (rngD k.toNat) := by
  simp only [rng1, rngD]
  rw [if_pos ⟨h0, h⟩]
  simp
theorem rng1_nat {n : Nat} (h : n ≤ 16777216) : rng1 [.int (n : Int)] = some (rngD n) := by rw [rng1_int (by omega) (by omega)]; simp
theorem mem_rngD {n : Nat} {a : PyData} (h : a ∈ rngD n) : ∃ i : Nat, i < n ∧ a = .int (i : Int) := by
  obtain ⟨i, h1, rfl⟩ := List.mem_map.mp h
  exact ⟨i, List.mem_range.mp h1, rfl⟩
@[simp] theorem length_rngD (n : Nat) : (rngD n).length = n := by simp [rngD]
/-! ### try -/
theorem Wp.try {m : Addr → Addr → Option Bool} {fb : Mo Fl} {hs : List Hdl} {δ : Env} {k : Fl → Env → Res β} (h : Wp (fb δ) (fun a δ => Wp (k a δ) R E) (fun c x δ' => Wp ((hGo m hs c x δ').bind k) R E)) : Wp ((sTry m fb hs δ).bind k) R E := by
  unfold sTry
  cases e : fb δ <;> rw [e] at h <;> simpa using h
end
end DL
namespace DL
open PySem PySem.Spec PyProof.Rows L2
def kCatC : List PyData → Env → Res Val := fun zs δ => .ok (.lst zs) δ
@[simp high] theorem kCatC_ap (zs : List PyData) (δ : Env) : kCatC zs δ = .ok (.lst zs) δ := rfl
def kCatB (x : PyData) : PyData → Env → Res Val := fun y δ => (Res.of (oCatL x y) δ).bind kCatC
@[simp high] theorem kCatB_ap (x y : PyData) (δ : Env) : kCatB x y δ = (Res.of (oCatL x y) δ).bind kCatC := rfl
def kCatA (fb : Mo PyData) : PyData → Env → Res Val := fun x δ => (fb δ).bind (kCatB x)
@[simp high] theorem kCatA_ap (fb : Mo PyData) (x : PyData) (δ : Env) : kCatA fb x δ = (fb δ).bind (kCatB x) := rfl
@[simp high] theorem vCat_ev (fa fb : Mo PyData) (δ : Env) : vCat fa fb δ = (fa δ).bind (kCatA fb) := rfl
theorem small_line {n : Nat} (h : n ≤ 1000000) : n < sizeLine := by rw [sizeLine_eq]; omega
theorem small_lineT {n : Nat} (h : n ≤ 1000000) : (n < sizeLine) = True := eq_true (small_line h)
theorem oCatL_ok {xs ys : List PyData} (h : xs.length + ys.length ≤ 1000000) : oCatL (.list xs) (.list ys) = some (xs ++ ys) := by
  simp only [oCatL]; rw [if_pos (Nat.le_of_lt (small_line h))]
theorem oAdd_tup {xs ys : List PyData} (h : xs.length + ys.length ≤ 1000000) : oAdd (.tuple xs) (.tuple ys) = some (.tuple (xs ++ ys)) := by
  simp only [oAdd]; rw [if_pos (Nat.le_of_lt (small_line h))]
theorem oAdd_lst {xs ys : List PyData} (h : xs.length + ys.length ≤ 1000000) : oAdd (.list xs) (.list ys) = some (.list (xs ++ ys)) := by
  simp only [oAdd]; rw [if_pos (Nat.le_of_lt (small_line h))]
@[simp] theorem oSlice_tup (xs : List PyData) (lo hi : Option Int) : oSlice (.tuple xs) lo hi = some (.tuple (cutD xs lo hi)) := rfl
@[simp] theorem oSlice_lst (xs : List PyData) (lo hi : Option Int) : oSlice (.list xs) lo hi = some (.list (cutD xs lo hi)) := rfl
theorem cutD_to (xs : List PyData) (n : Nat) : cutD xs none (some (n : Int)) = xs.take n := by
  unfold cutD
  rw [HT.sIx_none, HT.sIx_nat, List.drop_zero, Nat.sub_zero, List.take_eq_take_iff]
  omega
theorem cutD_from (xs : List PyData) (n : Nat) : cutD xs (some (n : Int)) none = xs.drop n := by
  unfold cutD
  rw [HT.sIx_none, HT.sIx_nat]
  by_cases h : n ≤ xs.length
  · rw [Nat.min_eq_left h, List.take_of_length_le (by rw [List.length_drop]; omega)]
  · rw [Nat.min_eq_right (by omega), List.drop_of_length_le (by omega), List.drop_of_length_le (by omega), List.take_nil]
theorem cutD_part (xs : List PyData) (a b : Nat) : cutD xs (some (a : Int)) (some (b : Int)) = (xs.drop a).take (b - a) := by
  unfold cutD
  rw [HT.sIx_nat, HT.sIx_nat]
  by_cases h : a ≤ xs.length
  · rw [Nat.min_eq_left h, List.take_eq_take_iff, List.length_drop]
    omega
  · have e : min a xs.length = xs.length := Nat.min_eq_right (by omega)
    rw [e, List.drop_of_length_le (Nat.le_refl _), List.drop_of_length_le (by omega), List.take_nil, List.take_nil]
theorem cutD_sub {xs : List PyData} {lo hi : Option Int} {x : PyData} (h : x ∈ cutD xs lo hi) : x ∈ xs := List.mem_of_mem_drop (List.mem_of_mem_take h)
theorem cutD_len (xs : List PyData) (lo hi : Option Int) : (cutD xs lo hi).length ≤ xs.length := by
  unfold cutD
  rw [List.length_take, List.length_drop]; omega
@[simp] theorem cListOf_tup (xs : List PyData) : cListOf [.tuple xs] = some (.list xs) := rfl
@[simp] theorem cListOf_lst (xs : List PyData) : cListOf [.list xs] = some (.list xs) := rfl
@[simp] theorem cTupleOf_lst (xs : List PyData) : cTupleOf [.list xs] = some (.tuple xs) := rfl
@[simp] theorem cTupleOf_tup (xs : List PyData) : cTupleOf [.tuple xs] = some (.tuple xs) := rfl
@[simp] theorem oRev_tup (xs : List PyData) : oRev (.tuple xs) = some (.tuple xs.reverse) := rfl
theorem oMulG_tup {xs : List PyData} {n : Nat} (h : xs ≠ []) (h1 : 2 ≤ n) (h2 : n ≤ 1000) (h3 : xs.length ≤ 1000) : oMulG (.tuple xs) (.int (n : Int)) = some (.tuple (repD xs n)) := by
  simp only [oMulG]; rw [if_pos ⟨h, by omega, by omega, h3⟩]; simp
theorem oMulG_lit {xs : List PyData} {n : Int} (h : xs ≠ []) (h1 : 2 ≤ n) (h2 : n ≤ 1000) (h3 : xs.length ≤ 1000) : oMulG (.tuple xs) (.int n) = some (.tuple (repD xs n.toNat)) := by
  simp only [oMulG]; rw [if_pos ⟨h, h1, h2, h3⟩]
theorem repD_one (x : PyData) (n : Nat) : repD [x] n = List.replicate n x := by
  unfold repD
  induction n with
  | zero => rfl
  | succ n ih => rw [List.replicate_succ, List.flatten_cons, ih, List.replicate_succ]; rfl
theorem rng2_int {i j : Int} (h : -16777216 ≤ j ∧ j ≤ 16777216 ∧ -16777216 ≤ i ∧ i ≤ 16777216 ∧ j - i ≤ 16777216) : rng1 [.int i, .int j] = some ((List.range (j - i).toNat).map fun (k : Nat) => .int (i + (k : Int))) := by
  simp only [rng1]; rw [if_pos h]
end DL
/-! k01: errors as data, what the law's two defs do -/
namespace Lw
open PySem PySem.Spec PyProof.Rows L2 DL
def errD (C : Addr) (fs : List (Str × PyData)) : PyData := exD C (fldsD fs)
@[simp high] theorem mErr0_ev (C : Addr) (δ : DL.Env) : mErr0 C δ = .ok (errD C []) δ := rfl
def kErrI (c : Addr) (ns : List Str) : List PyData → DL.Env → Res PyData := fun ds δ => if okI ns ds then .ok (errD c (ns.zip ds).reverse) δ else .st
@[simp high] theorem mErrI_ev (c : Addr) (ns : List Str) (f : Mo (List PyData)) (δ : DL.Env) : mErrI c ns f δ = (f δ).bind (kErrI c ns) := rfl
theorem kErrI_1 (c : Addr) (n : Str) (i : Int) (δ : DL.Env) (h : fmtI i = true) : kErrI c [n] [.int i] δ = .ok (errD c [(n, .int i)]) δ := by simp [kErrI, okI, h]
theorem kErrI_2 (c : Addr) (n n2 : Str) (i j : Int) (δ : DL.Env) (h : fmtI i = true) (h2 : fmtI j = true) : kErrI c [n, n2] [.int i, .int j] δ = .ok (errD c [(n2, .int j), (n, .int i)]) δ := by simp [kErrI, okI, h, h2]
@[simp] theorem oIsM_err (k : Addr → Addr → Option Bool) (C c : Addr) (fs : List (Str × PyData)) : oIsM k C (errD c fs) = (k c C).map .bool := rfl
@[simp] theorem oIsL_err (L : List Addr) (b : Bool) (c : Addr) (fs : List (Str × PyData)) : oIsL L b (errD c fs) = if c ∈ L then some (.bool b) else none := rfl
theorem oFldE_err (C : Addr) (f : Str) (fs : List (Str × PyData)) : oFldE C f (errD C fs) = fldOf f (fldsD fs) := by
  show (if C = C then _ else none) = _
  rw [if_pos rfl]
theorem oAddL {a b : List PyData} (h : a.length + b.length ≤ 1000000) : oAdd (.list a) (.list b) = some (.list (a ++ b)) := by
  have h3 : 1000000 ≤ sizeLine := by decide
  simp only [oAdd]; rw [if_pos (by omega)]
section
variable {g : PySem.Str → Addr} {m : Addr → Addr → Option Bool}
abbrev N (x : String) : PySem.Str := PySem.Str.ofString x
abbrev errs (g : PySem.Str → Addr) (limit line : Int) : List PyData := [errD (g (N "TooMany")) [(N "limit", .int limit)], errD (g (N "SyntaxProblem")) [(N "column", .int limit), (N "line", .int line)],
  errD (g (N "NoName")) [], errD (g (N "NoBook")) [], errD (g (N "NoFiles")) [], errD (g (N "NoRule")) [], errD (g (N "NoMark")) [], errD (g (N "Mismatch")) [], errD (g (N "InvalidCommand")) []]
theorem made_spec {limit line : Int} (h1 : fmtI limit = true) (h2 : fmtI line = true) : fn__law_made g m [.d (.int limit), .d (.int line)] = .ok (.d (.list (errs g limit line))) [.d (.int limit), .d (.int line)] := by
  simp [fn__law_made, fnOfB_eq, b__law_made, kErrI_1, kErrI_2, h1, h2, oAddL]
theorem classes_run (c : Addr) (fs : List (Str × PyData)) {b0 b1 b2 b3 b4 b5 b6 b7 b8 : Bool} (h0 : m c (g (N "TooMany")) = some b0) (h1 : m c (g (N "SyntaxProblem")) = some b1) (h2 : m c (g (N "NoName")) = some b2) (h3 : m c (g (N "NoBook")) = some b3) (h4 : m c (g (N "NoFiles")) = some b4)
    (h5 : m c (g (N "NoRule")) = some b5) (h6 : m c (g (N "NoMark")) = some b6) (h7 : m c (g (N "Mismatch")) = some b7) (h8 : m c (g (N "InvalidCommand")) = some b8) :
    fn__law_classes g m [.d (errD c fs)] = .ok (.d (.list [.bool b0, .bool b1, .bool b2, .bool b3, .bool b4, .bool b5, .bool b6, .bool b7, .bool b8])) [.d (errD c fs)] := by
  simp [fn__law_classes, fnOfB_eq, b__law_classes, oAddL, h0, h1, h2, h3, h4, h5, h6, h7, h8]
end
end Lw
/-! k01: the law -/
namespace Lw
open PySem PySem.Spec PyProof.Rows L2 DL
def LB (g : PySem.Str → Addr) (m : Addr → Addr → Option Bool) : Mo Fl := sSeq (sIf (mOr (tst (op2 oNe (bnd (mCallD (fn__law_classes g m) (aDat (mVar 6) (aNil))) frzV) (bnd (mLc [8] (tauN 8) (mRng (mCons (mCall cLen (mCons (mVar 4) (mNil))) (mNil))) (mYes) (op2 oEq (mVar 8) (mVar 5))) frzV))) (mNot (tst (bnd (mVar 6) fun d δ => Res.of (oIsM m (g (PySem.Str.ofString "RuleError")) d) δ)))) (sRet (mC (.bool false))) (sNx)) (sIf (mOr (mNot (tst (bnd (mVar 6) fun d δ => Res.of (oIsL (errL g) true d) δ))) (tst (bnd (mVar 6) fun d δ => Res.of (oIsL (errL g) false d) δ))) (sRet (mC (.bool false))) (sNx))
def LT (g : PySem.Str → Addr) (m : Addr → Addr → Option Bool) : Mo Fl := sSeq (sSetN 7 (mLst (mCons (bnd (op2 oIx (mVar 4) (mC (.int 0))) fun d δ => Res.of (oFldE (g (PySem.Str.ofString "TooMany")) (PySem.Str.ofString "limit") d) δ) (mCons (bnd (op2 oIx (mVar 4) (mC (.int 1))) fun d δ => Res.of (oFldE (g (PySem.Str.ofString "SyntaxProblem")) (PySem.Str.ofString "line") d) δ) (mCons (bnd (op2 oIx (mVar 4) (mC (.int 1))) fun d δ => Res.of (oFldE (g (PySem.Str.ofString "SyntaxProblem")) (PySem.Str.ofString "column") d) δ) (mNil)))))) (sRet (vAnd (op2 oEq (mVar 7) (mLst (mCons (mVar 2) (mCons (mVar 3) (mCons (mVar 2) (mNil)))))) (op2 oNotIn (mC (.bool true)) (bnd (mCallD (fn__law_classes g m) (aDat (mErr0 (g (PySem.Str.ofString "RuleError"))) (aNil))) frzV))))
section
variable {g : PySem.Str → Addr} {m : Addr → Addr → Option Bool}
theorem cls0 (M : MOk g m) (fs : List (Str × PyData)) : fn__law_classes g m [.d (errD (g (PySem.Str.ofString "TooMany")) fs)] = .ok (.d (.list [.bool true, .bool false, .bool false, .bool false, .bool false, .bool false, .bool false, .bool false, .bool false])) [.d (errD (g (PySem.Str.ofString "TooMany")) fs)] :=
  classes_run _ _ M.m_TooMany_TooMany M.m_TooMany_SyntaxProblem M.m_TooMany_NoName M.m_TooMany_NoBook M.m_TooMany_NoFiles M.m_TooMany_NoRule M.m_TooMany_NoMark M.m_TooMany_Mismatch M.m_TooMany_InvalidCommand
theorem cls1 (M : MOk g m) (fs : List (Str × PyData)) : fn__law_classes g m [.d (errD (g (PySem.Str.ofString "SyntaxProblem")) fs)] = .ok (.d (.list [.bool false, .bool true, .bool false, .bool false, .bool false, .bool false, .bool false, .bool false, .bool false])) [.d (errD (g (PySem.Str.ofString "SyntaxProblem")) fs)] :=
  classes_run _ _ M.m_SyntaxProblem_TooMany M.m_SyntaxProblem_SyntaxProblem M.m_SyntaxProblem_NoName M.m_SyntaxProblem_NoBook M.m_SyntaxProblem_NoFiles M.m_SyntaxProblem_NoRule M.m_SyntaxProblem_NoMark M.m_SyntaxProblem_Mismatch M.m_SyntaxProblem_InvalidCommand
theorem cls2 (M : MOk g m) (fs : List (Str × PyData)) : fn__law_classes g m [.d (errD (g (PySem.Str.ofString "NoName")) fs)] = .ok (.d (.list [.bool false, .bool false, .bool true, .bool false, .bool false, .bool false, .bool false, .bool false, .bool false])) [.d (errD (g (PySem.Str.ofString "NoName")) fs)] :=
  classes_run _ _ M.m_NoName_TooMany M.m_NoName_SyntaxProblem M.m_NoName_NoName M.m_NoName_NoBook M.m_NoName_NoFiles M.m_NoName_NoRule M.m_NoName_NoMark M.m_NoName_Mismatch M.m_NoName_InvalidCommand
theorem cls3 (M : MOk g m) (fs : List (Str × PyData)) : fn__law_classes g m [.d (errD (g (PySem.Str.ofString "NoBook")) fs)] = .ok (.d (.list [.bool false, .bool false, .bool false, .bool true, .bool false, .bool false, .bool false, .bool false, .bool false])) [.d (errD (g (PySem.Str.ofString "NoBook")) fs)] :=
  classes_run _ _ M.m_NoBook_TooMany M.m_NoBook_SyntaxProblem M.m_NoBook_NoName M.m_NoBook_NoBook M.m_NoBook_NoFiles M.m_NoBook_NoRule M.m_NoBook_NoMark M.m_NoBook_Mismatch M.m_NoBook_InvalidCommand
theorem cls4 (M : MOk g m) (fs : List (Str × PyData)) : fn__law_classes g m [.d (errD (g (PySem.Str.ofString "NoFiles")) fs)] = .ok (.d (.list [.bool false, .bool false, .bool false, .bool false, .bool true, .bool false, .bool false, .bool false, .bool false])) [.d (errD (g (PySem.Str.ofString "NoFiles")) fs)] :=
  classes_run _ _ M.m_NoFiles_TooMany M.m_NoFiles_SyntaxProblem M.m_NoFiles_NoName M.m_NoFiles_NoBook M.m_NoFiles_NoFiles M.m_NoFiles_NoRule M.m_NoFiles_NoMark M.m_NoFiles_Mismatch M.m_NoFiles_InvalidCommand
theorem cls5 (M : MOk g m) (fs : List (Str × PyData)) : fn__law_classes g m [.d (errD (g (PySem.Str.ofString "NoRule")) fs)] = .ok (.d (.list [.bool false, .bool false, .bool false, .bool false, .bool false, .bool true, .bool false, .bool false, .bool false])) [.d (errD (g (PySem.Str.ofString "NoRule")) fs)] :=
  classes_run _ _ M.m_NoRule_TooMany M.m_NoRule_SyntaxProblem M.m_NoRule_NoName M.m_NoRule_NoBook M.m_NoRule_NoFiles M.m_NoRule_NoRule M.m_NoRule_NoMark M.m_NoRule_Mismatch M.m_NoRule_InvalidCommand
theorem cls6 (M : MOk g m) (fs : List (Str × PyData)) : fn__law_classes g m [.d (errD (g (PySem.Str.ofString "NoMark")) fs)] = .ok (.d (.list [.bool false, .bool false, .bool false, .bool false, .bool false, .bool false, .bool true, .bool false, .bool false])) [.d (errD (g (PySem.Str.ofString "NoMark")) fs)] :=
  classes_run _ _ M.m_NoMark_TooMany M.m_NoMark_SyntaxProblem M.m_NoMark_NoName M.m_NoMark_NoBook M.m_NoMark_NoFiles M.m_NoMark_NoRule M.m_NoMark_NoMark M.m_NoMark_Mismatch M.m_NoMark_InvalidCommand
theorem cls7 (M : MOk g m) (fs : List (Str × PyData)) : fn__law_classes g m [.d (errD (g (PySem.Str.ofString "Mismatch")) fs)] = .ok (.d (.list [.bool false, .bool false, .bool false, .bool false, .bool false, .bool false, .bool false, .bool true, .bool false])) [.d (errD (g (PySem.Str.ofString "Mismatch")) fs)] :=
  classes_run _ _ M.m_Mismatch_TooMany M.m_Mismatch_SyntaxProblem M.m_Mismatch_NoName M.m_Mismatch_NoBook M.m_Mismatch_NoFiles M.m_Mismatch_NoRule M.m_Mismatch_NoMark M.m_Mismatch_Mismatch M.m_Mismatch_InvalidCommand
theorem cls8 (M : MOk g m) (fs : List (Str × PyData)) : fn__law_classes g m [.d (errD (g (PySem.Str.ofString "InvalidCommand")) fs)] = .ok (.d (.list [.bool false, .bool false, .bool false, .bool false, .bool false, .bool false, .bool false, .bool false, .bool true])) [.d (errD (g (PySem.Str.ofString "InvalidCommand")) fs)] :=
  classes_run _ _ M.m_InvalidCommand_TooMany M.m_InvalidCommand_SyntaxProblem M.m_InvalidCommand_NoName M.m_InvalidCommand_NoBook M.m_InvalidCommand_NoFiles M.m_InvalidCommand_NoRule M.m_InvalidCommand_NoMark M.m_InvalidCommand_Mismatch M.m_InvalidCommand_InvalidCommand
theorem cls9 (M : MOk g m) (fs : List (Str × PyData)) : fn__law_classes g m [.d (errD (g (PySem.Str.ofString "RuleError")) fs)] = .ok (.d (.list [.bool false, .bool false, .bool false, .bool false, .bool false, .bool false, .bool false, .bool false, .bool false])) [.d (errD (g (PySem.Str.ofString "RuleError")) fs)] :=
  classes_run _ _ M.m_RuleError_TooMany M.m_RuleError_SyntaxProblem M.m_RuleError_NoName M.m_RuleError_NoBook M.m_RuleError_NoFiles M.m_RuleError_NoRule M.m_RuleError_NoMark M.m_RuleError_Mismatch M.m_RuleError_InvalidCommand
theorem fmt_nat {n : Nat} (h : n < 10000000) : fmtI (n : Int) = true := by
  unfold fmtI
  simp only [Bool.and_eq_true, decide_eq_true_eq]
  constructor
  · show (n : Int).natAbs.log2 < 1920
    rw [Int.natAbs_natCast]
    by_cases h0 : n = 0
    · subst h0; decide
    · exact (Nat.log2_lt h0).mpr (Nat.lt_of_lt_of_le h (by
        have : (10000000 : Nat) ≤ 2 ^ 24 := by decide
        exact Nat.le_trans this (Nat.pow_le_pow_right (by decide) (by decide))))
  · have e := int_text_length_le10 (a := (n : Int)) (k := 7) (by decide) (by rw [Int.natAbs_natCast]; exact h)
    show (Str.ofString (toString (n : Int))).length ≤ 1000
    rw [PySem.ofString_length]
    omega
theorem inL (x : PySem.Str) (h : x ∈ errN) : g x ∈ errL g := List.mem_map_of_mem h
theorem turn (c : Addr) (fs : List (Str × PyData)) (j : Nat) (hj : j < 9) (bs : List PyData) (hb : bs = (List.range 9).map fun i => PyData.bool (decide (i = j))) (s0 p : Val) (limit line : Int) (es : List PyData) (hes : es.length = 9) (o7 : Option Val) (z : Int) (hz : z = (j : Int))
    (h1 : fn__law_classes g m [.d (errD c fs)] = .ok (.d (.list bs)) [.d (errD c fs)]) (h2 : m c (g (PySem.Str.ofString "RuleError")) = some true) (h3 : c ∈ errL g) :
    LB g m [some s0, some p, some (.d (.int limit)), some (.d (.int line)), some (.d (.list es)), some (.d (.int z)), some (.d (errD c fs)), o7, none] = .ok .nx [some s0, some p, some (.d (.int limit)), some (.d (.int line)), some (.d (.list es)), some (.d (.int z)), some (.d (errD c fs)), o7, none] := by
  subst hb
  subst hz
  have hlc : lcGo [8] (tauN 8) mYes (op2 oEq (mVar 8) (mVar 5)) (List.map (fun (i : Nat) => PyData.int (i : Int)) (List.range 9)) [some s0, some p, some (.d (.int limit)), some (.d (.int line)), some (.d (.list es)), some (.d (.int j)), some (.d (errD c fs)), o7, none] = .ok ((List.range 9).map fun i => PyData.bool (decide (i = j))) [some s0, some p, some (.d (.int limit)), some (.d (.int line)), some (.d (.list es)), some (.d (.int j)), some (.d (errD c fs)), o7, none] :=
    lcGo_mapF _ _ _ fun a ha => by simp [oEq, eqOk, PyData.plain, PyData.depth, PyData.eqv, Int.ofNat_inj, Bool.beq_eq_decide_eq]
  have hr : rng1 [.int 9] = some (List.map (fun (i : Nat) => PyData.int (i : Int)) (List.range 9)) := rfl
  have hne : oNe (.list ((List.range 9).map fun i => PyData.bool (decide (i = j)))) (.list ((List.range 9).map fun i => PyData.bool (decide (i = j)))) = some (.bool false) := by
    have : j = 0 ∨ j = 1 ∨ j = 2 ∨ j = 3 ∨ j = 4 ∨ j = 5 ∨ j = 6 ∨ j = 7 ∨ j = 8 := by omega
    rcases this with rfl | rfl | rfl | rfl | rfl | rfl | rfl | rfl | rfl <;> rfl
  unfold LB
  simp [h1, h2, h3, hes, hr, hlc, hne]
theorem tail_ok (M : MOk g m) (s0 p : Val) (limit line : Int) (o5 o6 o7 o8 : Option Val) : LT g m [some s0, some p, some (.d (.int limit)), some (.d (.int line)), some (.d (.list (errs g limit line))), o5, o6, o7, o8] = .ok (.ret (.d (.bool true))) [some s0, some p, some (.d (.int limit)), some (.d (.int line)), some (.d (.list (errs g limit line))), o5, o6, some (.d (.list [.int limit, .int line, .int limit])), o8] := by
  have c := cls9 M []
  have e0 : oIx (.list (errs g limit line)) (.int 0) = some (errD (g (N "TooMany")) [(N "limit", .int limit)]) := rfl
  have e1 : oIx (.list (errs g limit line)) (.int 1) = some (errD (g (N "SyntaxProblem")) [(N "column", .int limit), (N "line", .int line)]) := rfl
  have f0 : fldOf (N "limit") (fldsD [(N "limit", .int limit)]) = some (.int limit) := by simp [fldOf, fldsD]
  have f1 : fldOf (N "line") (fldsD [(N "column", .int limit), (N "line", .int line)]) = some (.int line) := by
    have h : N "line" ≠ N "column" := by decide
    simp [fldOf, fldsD, h]
  have f2 : fldOf (N "column") (fldsD [(N "column", .int limit), (N "line", .int line)]) = some (.int limit) := by simp [fldOf, fldsD]
  have q : oEq (.list [.int limit, .int line, .int limit]) (.list [.int limit, .int line, .int limit]) = some (.bool true) := by simp [oEq, eqOk, PyData.plain, PyData.plainAll, PyData.depth, PyData.depthAll, PyData.eqv, PyData.eqvAll]
  have n : oNotIn (.bool true) (.list [.bool false, .bool false, .bool false, .bool false, .bool false, .bool false, .bool false, .bool false, .bool false]) = some (.bool true) := rfl
  unfold LT
  simp [e0, e1, oFldE_err, f0, f1, f2, q, n, c]
theorem law_true {g : PySem.Str → Addr} {m : Addr → Addr → Option Bool} (M : MOk g m) (ns : List Int) (h : ns.length ≤ 63) : ∃ b, fn_law g m [scriptV ns] = .ok (.d (.bool true)) b := by
  obtain ⟨p, hp, e1⟩ := pot_of_spec ns
  obtain ⟨r1, p1, a1, b1, hp1, e2⟩ := below_spec p 1000000 hp (by decide) (by decide)
  obtain ⟨r2, p2, a2, b2, hp2, e3⟩ := below_spec p1 50 hp1 (by decide) (by decide)
  have hpow : oPow (.int 10) (.int 6) = some (.int 1000000) := by unfold oPow iOp; simp
  have hf1 : fmtI (1 + r1) = true := by
    obtain ⟨k, hk⟩ := Int.eq_ofNat_of_zero_le (show 0 ≤ 1 + r1 by omega)
    rw [hk]; exact fmt_nat (by omega)
  have hf2 : fmtI (1 + r2) = true := by
    obtain ⟨k, hk⟩ := Int.eq_ofNat_of_zero_le (show 0 ≤ 1 + r2 by omega)
    rw [hk]; exact fmt_nat (by omega)
  have hm := made_spec (g := g) (m := m) hf1 hf2
  have hl := tail_ok (g := g) (m := m) M (scriptV ns) (.lst p2) (1 + r1) (1 + r2) (some (.d (.int 8))) (some (.d (errD (g (N "InvalidCommand")) []))) none none
  have loop : sForGo (tauT 2 (tausCons (tauN 5) (tausCons (tauN 6) (tausNil)))) (LB g m) (enumD 0 (errs g (1 + r1) (1 + r2))) [some (scriptV ns), some (.lst p2), some (.d (.int (1 + r1))), some (.d (.int (1 + r2))), some (.d (.list (errs g (1 + r1) (1 + r2)))), none, none, none, none] =
      .ok .nx [some (scriptV ns), some (.lst p2), some (.d (.int (1 + r1))), some (.d (.int (1 + r2))), some (.d (.list (errs g (1 + r1) (1 + r2)))), some (.d (.int 8)), some (.d (errD (g (N "InvalidCommand")) [])), none, none] := by
    have st := fun c fs j hj bs hb h1 h2 h3 z hz => turn (g := g) (m := m) c fs j hj bs hb (scriptV ns) (.lst p2) (1 + r1) (1 + r2) (errs g (1 + r1) (1 + r2)) rfl none z hz h1 h2 h3
    have t0 := fun fs => st _ _ 0 (by decide) _ rfl (cls0 M fs) M.m_TooMany_RuleError (inL _ (by decide)) 0 rfl
    have t1 := fun fs => st _ _ 1 (by decide) _ rfl (cls1 M fs) M.m_SyntaxProblem_RuleError (inL _ (by decide)) 1 rfl
    have t2 := fun fs => st _ _ 2 (by decide) _ rfl (cls2 M fs) M.m_NoName_RuleError (inL _ (by decide)) 2 rfl
    have t3 := fun fs => st _ _ 3 (by decide) _ rfl (cls3 M fs) M.m_NoBook_RuleError (inL _ (by decide)) 3 rfl
    have t4 := fun fs => st _ _ 4 (by decide) _ rfl (cls4 M fs) M.m_NoFiles_RuleError (inL _ (by decide)) 4 rfl
    have t5 := fun fs => st _ _ 5 (by decide) _ rfl (cls5 M fs) M.m_NoRule_RuleError (inL _ (by decide)) 5 rfl
    have t6 := fun fs => st _ _ 6 (by decide) _ rfl (cls6 M fs) M.m_NoMark_RuleError (inL _ (by decide)) 6 rfl
    have t7 := fun fs => st _ _ 7 (by decide) _ rfl (cls7 M fs) M.m_Mismatch_RuleError (inL _ (by decide)) 7 rfl
    have t8 := fun fs => st _ _ 8 (by decide) _ rfl (cls8 M fs) M.m_InvalidCommand_RuleError (inL _ (by decide)) 8 rfl
    show sForGo _ _ [.tuple [.int 0, errD (g (N "TooMany")) [(N "limit", .int (1 + r1))]], .tuple [.int 1, errD (g (N "SyntaxProblem")) [(N "column", .int (1 + r1)), (N "line", .int (1 + r2))]], .tuple [.int 2, errD (g (N "NoName")) []], .tuple [.int 3, errD (g (N "NoBook")) []], .tuple [.int 4, errD (g (N "NoFiles")) []], .tuple [.int 5, errD (g (N "NoRule")) []], .tuple [.int 6, errD (g (N "NoMark")) []], .tuple [.int 7, errD (g (N "Mismatch")) []], .tuple [.int 8, errD (g (N "InvalidCommand")) []]] _ = _
    simp [sForGo_cons, t0, t1, t2, t3, t4, t5, t6, t7, t8]
    rfl
  have e : b_law g m = sSeq (sSetV 1 (mCallD fn__law_pot_of (aDat (mVar 0) (aNil)))) (sSeq (sPar 2 3 (mCons (op2 oAdd (mC (.int 1)) (bnd (mCallD fn__law_below (aOwn 1 (aDat (op2 oPow (mC (.int 10)) (mC (.int 6))) (aNil)))) frzV)) (mCons (op2 oAdd (mC (.int 1)) (bnd (mCallD fn__law_below (aOwn 1 (aDat (mC (.int 50)) (aNil)))) frzV)) (mNil)))) (sSeq (sSetN 4 (bnd (mCallD (fn__law_made g m) (aDat (mVar 2) (aDat (mVar 3) (aNil)))) frzV)) (sSeq (sFor (tauT 2 (tausCons (tauN 5) (tausCons (tauN 6) (tausNil)))) (mEnum (mCons (mVar 4) (mNil))) (LB g m)) (LT g m)))) := rfl
  obtain ⟨sd, hsd⟩ : ∃ sd, scriptV ns = .d sd := ⟨_, rfl⟩
  rw [hsd] at e1 hl loop ⊢
  have en : enumOf [.list (errs g (1 + r1) (1 + r2))] = some (enumD 0 (errs g (1 + r1) (1 + r2))) := rfl
  exact ⟨[.d sd], by simp [fn_law, fnOfB_eq, e, e1, e2, e3, hpow, hm, en, loop, hl]⟩
end
end Lw
namespace Lw
open PySem PySem.Spec PyProof.Rows L2 DL
def d__law_kneaded : He.DefD := ⟨("_law_kneaded", none), "_law_kneaded", "_law_kneaded", defArgs s__law_kneaded, defBody s__law_kneaded, defScope s__law_kneaded, [], []⟩
def d__law_pot_of : He.DefD := ⟨("_law_pot_of", none), "_law_pot_of", "_law_pot_of", defArgs s__law_pot_of, defBody s__law_pot_of, defScope s__law_pot_of, [], []⟩
def d__law_below : He.DefD := ⟨("_law_below", none), "_law_below", "_law_below", defArgs s__law_below, defBody s__law_below, defScope s__law_below, [], []⟩
def d__law_made : He.DefD := ⟨("_law_made", none), "_law_made", "_law_made", defArgs s__law_made, defBody s__law_made, defScope s__law_made, [], []⟩
def d__law_classes : He.DefD := ⟨("_law_classes", none), "_law_classes", "_law_classes", defArgs s__law_classes, defBody s__law_classes, defScope s__law_classes, [], []⟩
def d_law : He.DefD := ⟨("law", none), "law", "law", defArgs s_law, defBody s_law, defScope s_law, [], []⟩
def d_TooMany___init__ : He.DefD := ⟨("TooMany", some "__init__"), "__init__", "TooMany.__init__", defArgs s_TooMany___init__, defBody s_TooMany___init__, defScope s_TooMany___init__, [], []⟩
def d_SyntaxProblem___init__ : He.DefD := ⟨("SyntaxProblem", some "__init__"), "__init__", "SyntaxProblem.__init__", defArgs s_SyntaxProblem___init__, defBody s_SyntaxProblem___init__, defScope s_SyntaxProblem___init__, [], []⟩
def fnL : List He.DefD := [d__law_kneaded, d__law_pot_of, d__law_below, d__law_made, d__law_classes, d_law, d_TooMany___init__, d_SyntaxProblem___init__]
def faL : List He.Fa := [.glo "_law_kneaded", .glo "_law_pot_of", .glo "_law_below", .glo "_law_made", .glo "_law_classes", .glo "law", .free "IndexError", .free "KeyError", .free "TypeError", .free "ValueError", .free "abs", .free "enumerate", .free "int", .free "isinstance", .free "len", .free "range", .glo "NoName", .glo "NoBook", .glo "NoFiles", .glo "NoRule", .glo "NoMark", .glo "Mismatch", .glo "InvalidCommand", .glo "RuleError", .exc "NoName", .exc "NoBook", .exc "NoFiles", .exc "NoRule", .exc "NoMark", .exc "Mismatch", .exc "InvalidCommand", .exc "RuleError", .noat "TooMany" "limit", .noat "SyntaxProblem" "line", .noat "SyntaxProblem" "column", .glo "TooMany", .glo "SyntaxProblem", .glo "RuleError"]
abbrev R : PySem.W.OpenRow := PySem.W.OpenLaw.row PySem.Challenge.rw_stemrules_k01_errors
abbrev evT : List (Str × Str × Bool) := (("TooMany", "TooMany", true) : Str × Str × Bool) :: (("TooMany", "SyntaxProblem", false) : Str × Str × Bool) :: (("TooMany", "NoName", false) : Str × Str × Bool) :: (("TooMany", "NoBook", false) : Str × Str × Bool) :: (("TooMany", "NoFiles", false) : Str × Str × Bool) :: (("TooMany", "NoRule", false) : Str × Str × Bool) :: (("TooMany", "NoMark", false) : Str × Str × Bool) :: (("TooMany", "Mismatch", false) : Str × Str × Bool) :: (("TooMany", "InvalidCommand", false) : Str × Str × Bool) :: (("TooMany", "RuleError", true) : Str × Str × Bool) :: (("SyntaxProblem", "TooMany", false) : Str × Str × Bool) :: (("SyntaxProblem", "SyntaxProblem", true) : Str × Str × Bool) :: (("SyntaxProblem", "NoName", false) : Str × Str × Bool) :: (("SyntaxProblem", "NoBook", false) : Str × Str × Bool) :: (("SyntaxProblem", "NoFiles", false) : Str × Str × Bool) :: (("SyntaxProblem", "NoRule", false) : Str × Str × Bool) :: (("SyntaxProblem", "NoMark", false) : Str × Str × Bool) :: (("SyntaxProblem", "Mismatch", false) : Str × Str × Bool) :: (("SyntaxProblem", "InvalidCommand", false) : Str × Str × Bool) :: (("SyntaxProblem", "RuleError", true) : Str × Str × Bool) :: (("NoName", "TooMany", false) : Str × Str × Bool) :: (("NoName", "SyntaxProblem", false) : Str × Str × Bool) :: (("NoName", "NoName", true) : Str × Str × Bool) :: (("NoName", "NoBook", false) : Str × Str × Bool) :: (("NoName", "NoFiles", false) : Str × Str × Bool) :: (("NoName", "NoRule", false) : Str × Str × Bool) :: (("NoName", "NoMark", false) : Str × Str × Bool) :: (("NoName", "Mismatch", false) : Str × Str × Bool) :: (("NoName", "InvalidCommand", false) : Str × Str × Bool) :: (("NoName", "RuleError", true) : Str × Str × Bool) :: (("NoBook", "TooMany", false) : Str × Str × Bool) :: (("NoBook", "SyntaxProblem", false) : Str × Str × Bool) :: (("NoBook", "NoName", false) : Str × Str × Bool) :: (("NoBook", "NoBook", true) : Str × Str × Bool) :: (("NoBook", "NoFiles", false) : Str × Str × Bool) :: (("NoBook", "NoRule", false) : Str × Str × Bool) :: (("NoBook", "NoMark", false) : Str × Str × Bool) :: (("NoBook", "Mismatch", false) : Str × Str × Bool) :: (("NoBook", "InvalidCommand", false) : Str × Str × Bool) :: (("NoBook", "RuleError", true) : Str × Str × Bool) :: (("NoFiles", "TooMany", false) : Str × Str × Bool) :: (("NoFiles", "SyntaxProblem", false) : Str × Str × Bool) :: (("NoFiles", "NoName", false) : Str × Str × Bool) :: (("NoFiles", "NoBook", false) : Str × Str × Bool) :: (("NoFiles", "NoFiles", true) : Str × Str × Bool) :: (("NoFiles", "NoRule", false) : Str × Str × Bool) :: (("NoFiles", "NoMark", false) : Str × Str × Bool) :: (("NoFiles", "Mismatch", false) : Str × Str × Bool) :: (("NoFiles", "InvalidCommand", false) : Str × Str × Bool) :: (("NoFiles", "RuleError", true) : Str × Str × Bool) :: (("NoRule", "TooMany", false) : Str × Str × Bool) :: (("NoRule", "SyntaxProblem", false) : Str × Str × Bool) :: (("NoRule", "NoName", false) : Str × Str × Bool) :: (("NoRule", "NoBook", false) : Str × Str × Bool) :: (("NoRule", "NoFiles", false) : Str × Str × Bool) :: (("NoRule", "NoRule", true) : Str × Str × Bool) :: (("NoRule", "NoMark", false) : Str × Str × Bool) :: (("NoRule", "Mismatch", false) : Str × Str × Bool) :: (("NoRule", "InvalidCommand", false) : Str × Str × Bool) :: (("NoRule", "RuleError", true) : Str × Str × Bool) :: (("NoMark", "TooMany", false) : Str × Str × Bool) :: (("NoMark", "SyntaxProblem", false) : Str × Str × Bool) :: (("NoMark", "NoName", false) : Str × Str × Bool) :: (("NoMark", "NoBook", false) : Str × Str × Bool) :: (("NoMark", "NoFiles", false) : Str × Str × Bool) :: (("NoMark", "NoRule", false) : Str × Str × Bool) :: (("NoMark", "NoMark", true) : Str × Str × Bool) :: (("NoMark", "Mismatch", false) : Str × Str × Bool) :: (("NoMark", "InvalidCommand", false) : Str × Str × Bool) :: (("NoMark", "RuleError", true) : Str × Str × Bool) :: (("Mismatch", "TooMany", false) : Str × Str × Bool) :: (("Mismatch", "SyntaxProblem", false) : Str × Str × Bool) :: (("Mismatch", "NoName", false) : Str × Str × Bool) :: (("Mismatch", "NoBook", false) : Str × Str × Bool) :: (("Mismatch", "NoFiles", false) : Str × Str × Bool) :: (("Mismatch", "NoRule", false) : Str × Str × Bool) :: (("Mismatch", "NoMark", false) : Str × Str × Bool) :: (("Mismatch", "Mismatch", true) : Str × Str × Bool) :: (("Mismatch", "InvalidCommand", false) : Str × Str × Bool) :: (("Mismatch", "RuleError", true) : Str × Str × Bool) :: (("InvalidCommand", "TooMany", false) : Str × Str × Bool) :: (("InvalidCommand", "SyntaxProblem", false) : Str × Str × Bool) :: (("InvalidCommand", "NoName", false) : Str × Str × Bool) :: (("InvalidCommand", "NoBook", false) : Str × Str × Bool) :: (("InvalidCommand", "NoFiles", false) : Str × Str × Bool) :: (("InvalidCommand", "NoRule", false) : Str × Str × Bool) :: (("InvalidCommand", "NoMark", false) : Str × Str × Bool) :: (("InvalidCommand", "Mismatch", false) : Str × Str × Bool) :: (("InvalidCommand", "InvalidCommand", true) : Str × Str × Bool) :: (("InvalidCommand", "RuleError", true) : Str × Str × Bool) :: (("RuleError", "TooMany", false) : Str × Str × Bool) :: (("RuleError", "SyntaxProblem", false) : Str × Str × Bool) :: (("RuleError", "NoName", false) : Str × Str × Bool) :: (("RuleError", "NoBook", false) : Str × Str × Bool) :: (("RuleError", "NoFiles", false) : Str × Str × Bool) :: (("RuleError", "NoRule", false) : Str × Str × Bool) :: (("RuleError", "NoMark", false) : Str × Str × Bool) :: (("RuleError", "Mismatch", false) : Str × Str × Bool) :: (("RuleError", "InvalidCommand", false) : Str × Str × Bool) :: (("RuleError", "RuleError", true) : Str × Str × Bool) :: ([] : List (Str × Str × Bool))
abbrev evO : List (String × Bool) := [("ValueError", true)]
abbrev evL : List (List String × Bool) := [(["KeyError", "IndexError", "TypeError"], false)]
abbrev hk : PySem.W.Hook := hookY 4 faL fnL ["TooMany", "SyntaxProblem"] (some "RuleError") errN evT evO evL
def ob (s : PySem.W.SharedT) : AlE := obsY 4 faL fnL ["TooMany", "SyntaxProblem"] (some "RuleError") errN evT evO evL (HandSHeadRun.getT s)
theorem ob_eq (s : PySem.W.SharedT) : ob s = hk.obs s.abs := obsY_eq (HandSHeadRun.getT_eq s)
theorem run (w : World) : HandSHeadRun.RunEq R (PySem.W.view R.prog [17]) hk ob 4000 ("RuleError" :: "TooMany" :: "SyntaxProblem" :: "NoName" :: "NoBook" :: "NoFiles" :: "NoRule" :: "NoMark" :: "Mismatch" :: "InvalidCommand" :: "_law_kneaded" :: "_law_pot_of" :: "_law_below" :: "_law_made" :: "_law_classes" :: ([] : List Str)) w := by
  intro os
  kernel_rfl
theorem tx {K : PySem.W.Frag} {h : Heap} {mg : Str → Option Value} (X : K.In h) (G : h.Ns mainGlobals mg) (c : He.SaysD faL fnL K) (hsys : sysOk K = true) (hex : exAll K ["TooMany", "SyntaxProblem"] (some "RuleError") = true) (hev : errAll K errN evT evO evL = true) : Tx K mg where
  g__law_kneaded := He.glo_ok X G (c.fact 0 (f := .glo "_law_kneaded") rfl)
  f__law_kneaded := c.def_ 0 (d := d__law_kneaded) rfl
  g__law_pot_of := He.glo_ok X G (c.fact 1 (f := .glo "_law_pot_of") rfl)
  f__law_pot_of := c.def_ 1 (d := d__law_pot_of) rfl
  g__law_below := He.glo_ok X G (c.fact 2 (f := .glo "_law_below") rfl)
  f__law_below := c.def_ 2 (d := d__law_below) rfl
  g__law_made := He.glo_ok X G (c.fact 3 (f := .glo "_law_made") rfl)
  f__law_made := c.def_ 3 (d := d__law_made) rfl
  g__law_classes := He.glo_ok X G (c.fact 4 (f := .glo "_law_classes") rfl)
  f__law_classes := c.def_ 4 (d := d__law_classes) rfl
  g_law := He.glo_ok X G (c.fact 5 (f := .glo "law") rfl)
  f_law := c.def_ 5 (d := d_law) rfl
  n_IndexError := He.free_ok X G (c.fact 6 (f := .free "IndexError") rfl)
  n_KeyError := He.free_ok X G (c.fact 7 (f := .free "KeyError") rfl)
  n_TypeError := He.free_ok X G (c.fact 8 (f := .free "TypeError") rfl)
  n_ValueError := He.free_ok X G (c.fact 9 (f := .free "ValueError") rfl)
  n_abs := He.free_ok X G (c.fact 10 (f := .free "abs") rfl)
  n_enumerate := He.free_ok X G (c.fact 11 (f := .free "enumerate") rfl)
  n_int := He.free_ok X G (c.fact 12 (f := .free "int") rfl)
  n_isinstance := He.free_ok X G (c.fact 13 (f := .free "isinstance") rfl)
  n_len := He.free_ok X G (c.fact 14 (f := .free "len") rfl)
  n_range := He.free_ok X G (c.fact 15 (f := .free "range") rfl)
  e_NoName := ⟨He.glo_ok X G (c.fact 16 (f := .glo "NoName") rfl), (He.exc_ok (c.fact 24 (f := .exc "NoName") rfl)).1, (He.exc_ok (c.fact 24 (f := .exc "NoName") rfl)).2.1, (He.exc_ok (c.fact 24 (f := .exc "NoName") rfl)).2.2.1, (He.exc_ok (c.fact 24 (f := .exc "NoName") rfl)).2.2.2⟩
  e_NoBook := ⟨He.glo_ok X G (c.fact 17 (f := .glo "NoBook") rfl), (He.exc_ok (c.fact 25 (f := .exc "NoBook") rfl)).1, (He.exc_ok (c.fact 25 (f := .exc "NoBook") rfl)).2.1, (He.exc_ok (c.fact 25 (f := .exc "NoBook") rfl)).2.2.1, (He.exc_ok (c.fact 25 (f := .exc "NoBook") rfl)).2.2.2⟩
  e_NoFiles := ⟨He.glo_ok X G (c.fact 18 (f := .glo "NoFiles") rfl), (He.exc_ok (c.fact 26 (f := .exc "NoFiles") rfl)).1, (He.exc_ok (c.fact 26 (f := .exc "NoFiles") rfl)).2.1, (He.exc_ok (c.fact 26 (f := .exc "NoFiles") rfl)).2.2.1, (He.exc_ok (c.fact 26 (f := .exc "NoFiles") rfl)).2.2.2⟩
  e_NoRule := ⟨He.glo_ok X G (c.fact 19 (f := .glo "NoRule") rfl), (He.exc_ok (c.fact 27 (f := .exc "NoRule") rfl)).1, (He.exc_ok (c.fact 27 (f := .exc "NoRule") rfl)).2.1, (He.exc_ok (c.fact 27 (f := .exc "NoRule") rfl)).2.2.1, (He.exc_ok (c.fact 27 (f := .exc "NoRule") rfl)).2.2.2⟩
  e_NoMark := ⟨He.glo_ok X G (c.fact 20 (f := .glo "NoMark") rfl), (He.exc_ok (c.fact 28 (f := .exc "NoMark") rfl)).1, (He.exc_ok (c.fact 28 (f := .exc "NoMark") rfl)).2.1, (He.exc_ok (c.fact 28 (f := .exc "NoMark") rfl)).2.2.1, (He.exc_ok (c.fact 28 (f := .exc "NoMark") rfl)).2.2.2⟩
  e_Mismatch := ⟨He.glo_ok X G (c.fact 21 (f := .glo "Mismatch") rfl), (He.exc_ok (c.fact 29 (f := .exc "Mismatch") rfl)).1, (He.exc_ok (c.fact 29 (f := .exc "Mismatch") rfl)).2.1, (He.exc_ok (c.fact 29 (f := .exc "Mismatch") rfl)).2.2.1, (He.exc_ok (c.fact 29 (f := .exc "Mismatch") rfl)).2.2.2⟩
  e_InvalidCommand := ⟨He.glo_ok X G (c.fact 22 (f := .glo "InvalidCommand") rfl), (He.exc_ok (c.fact 30 (f := .exc "InvalidCommand") rfl)).1, (He.exc_ok (c.fact 30 (f := .exc "InvalidCommand") rfl)).2.1, (He.exc_ok (c.fact 30 (f := .exc "InvalidCommand") rfl)).2.2.1, (He.exc_ok (c.fact 30 (f := .exc "InvalidCommand") rfl)).2.2.2⟩
  e_RuleError := ⟨He.glo_ok X G (c.fact 23 (f := .glo "RuleError") rfl), (He.exc_ok (c.fact 31 (f := .exc "RuleError") rfl)).1, (He.exc_ok (c.fact 31 (f := .exc "RuleError") rfl)).2.1, (He.exc_ok (c.fact 31 (f := .exc "RuleError") rfl)).2.2.1, (He.exc_ok (c.fact 31 (f := .exc "RuleError") rfl)).2.2.2⟩
  nx_TooMany_limit := He.noat_ok (c.fact 32 (f := .noat "TooMany" "limit") rfl)
  nx_SyntaxProblem_line := He.noat_ok (c.fact 33 (f := .noat "SyntaxProblem" "line") rfl)
  nx_SyntaxProblem_column := He.noat_ok (c.fact 34 (f := .noat "SyntaxProblem" "column") rfl)
  x_TooMany := errI_of (He.glo_ok X G (c.fact 35 (f := .glo "TooMany") rfl)) (exAll_at (xs := ["TooMany", "SyntaxProblem"]) (p := some "RuleError") hex "TooMany" (by decide))
  x_SyntaxProblem := errI_of (He.glo_ok X G (c.fact 36 (f := .glo "SyntaxProblem") rfl)) (exAll_at (xs := ["TooMany", "SyntaxProblem"]) (p := some "RuleError") hex "SyntaxProblem" (by decide))
  par_ := parI_of (He.glo_ok X G (c.fact 37 (f := .glo "RuleError") rfl)) (exAll_par (xs := ["TooMany", "SyntaxProblem"]) hex)
  f_TooMany___init__ := c.def_ 6 (d := d_TooMany___init__) rfl
  f_SyntaxProblem___init__ := c.def_ 7 (d := d_SyntaxProblem___init__) rfl
  ec_TooMany := ec_at hev "TooMany" (by decide)
  ec_SyntaxProblem := ec_at hev "SyntaxProblem" (by decide)
  ec_NoName := ec_at hev "NoName" (by decide)
  ec_NoBook := ec_at hev "NoBook" (by decide)
  ec_NoFiles := ec_at hev "NoFiles" (by decide)
  ec_NoRule := ec_at hev "NoRule" (by decide)
  ec_NoMark := ec_at hev "NoMark" (by decide)
  ec_Mismatch := ec_at hev "Mismatch" (by decide)
  ec_InvalidCommand := ec_at hev "InvalidCommand" (by decide)
  ec_RuleError := ec_at hev "RuleError" (by decide)
  b_ValueError := bo_at hev "ValueError" true (by decide)
  bt_0 := bt_at hev ["KeyError", "IndexError", "TypeError"] false (by decide)
  sys := hsys
theorem mok {K : PySem.W.Frag} (hev : errAll K errN evT evO evL = true) : MOk (He.ga K) (eM K) where
  m_NoName_TooMany := tb_at hev "NoName" "TooMany" false (by decide +kernel)
  m_NoName_SyntaxProblem := tb_at hev "NoName" "SyntaxProblem" false (by decide +kernel)
  m_NoName_NoName := tb_at hev "NoName" "NoName" true (by decide +kernel)
  m_NoName_NoBook := tb_at hev "NoName" "NoBook" false (by decide +kernel)
  m_NoName_NoFiles := tb_at hev "NoName" "NoFiles" false (by decide +kernel)
  m_NoName_NoRule := tb_at hev "NoName" "NoRule" false (by decide +kernel)
  m_NoName_NoMark := tb_at hev "NoName" "NoMark" false (by decide +kernel)
  m_NoName_Mismatch := tb_at hev "NoName" "Mismatch" false (by decide +kernel)
  m_NoName_InvalidCommand := tb_at hev "NoName" "InvalidCommand" false (by decide +kernel)
  m_NoName_RuleError := tb_at hev "NoName" "RuleError" true (by decide +kernel)
  m_NoBook_TooMany := tb_at hev "NoBook" "TooMany" false (by decide +kernel)
  m_NoBook_SyntaxProblem := tb_at hev "NoBook" "SyntaxProblem" false (by decide +kernel)
  m_NoBook_NoName := tb_at hev "NoBook" "NoName" false (by decide +kernel)
  m_NoBook_NoBook := tb_at hev "NoBook" "NoBook" true (by decide +kernel)
  m_NoBook_NoFiles := tb_at hev "NoBook" "NoFiles" false (by decide +kernel)
  m_NoBook_NoRule := tb_at hev "NoBook" "NoRule" false (by decide +kernel)
  m_NoBook_NoMark := tb_at hev "NoBook" "NoMark" false (by decide +kernel)
  m_NoBook_Mismatch := tb_at hev "NoBook" "Mismatch" false (by decide +kernel)
  m_NoBook_InvalidCommand := tb_at hev "NoBook" "InvalidCommand" false (by decide +kernel)
  m_NoBook_RuleError := tb_at hev "NoBook" "RuleError" true (by decide +kernel)
  m_NoFiles_TooMany := tb_at hev "NoFiles" "TooMany" false (by decide +kernel)
  m_NoFiles_SyntaxProblem := tb_at hev "NoFiles" "SyntaxProblem" false (by decide +kernel)
  m_NoFiles_NoName := tb_at hev "NoFiles" "NoName" false (by decide +kernel)
  m_NoFiles_NoBook := tb_at hev "NoFiles" "NoBook" false (by decide +kernel)
  m_NoFiles_NoFiles := tb_at hev "NoFiles" "NoFiles" true (by decide +kernel)
  m_NoFiles_NoRule := tb_at hev "NoFiles" "NoRule" false (by decide +kernel)
  m_NoFiles_NoMark := tb_at hev "NoFiles" "NoMark" false (by decide +kernel)
  m_NoFiles_Mismatch := tb_at hev "NoFiles" "Mismatch" false (by decide +kernel)
  m_NoFiles_InvalidCommand := tb_at hev "NoFiles" "InvalidCommand" false (by decide +kernel)
  m_NoFiles_RuleError := tb_at hev "NoFiles" "RuleError" true (by decide +kernel)
  m_NoRule_TooMany := tb_at hev "NoRule" "TooMany" false (by decide +kernel)
  m_NoRule_SyntaxProblem := tb_at hev "NoRule" "SyntaxProblem" false (by decide +kernel)
  m_NoRule_NoName := tb_at hev "NoRule" "NoName" false (by decide +kernel)
  m_NoRule_NoBook := tb_at hev "NoRule" "NoBook" false (by decide +kernel)
  m_NoRule_NoFiles := tb_at hev "NoRule" "NoFiles" false (by decide +kernel)
  m_NoRule_NoRule := tb_at hev "NoRule" "NoRule" true (by decide +kernel)
  m_NoRule_NoMark := tb_at hev "NoRule" "NoMark" false (by decide +kernel)
  m_NoRule_Mismatch := tb_at hev "NoRule" "Mismatch" false (by decide +kernel)
  m_NoRule_InvalidCommand := tb_at hev "NoRule" "InvalidCommand" false (by decide +kernel)
  m_NoRule_RuleError := tb_at hev "NoRule" "RuleError" true (by decide +kernel)
  m_NoMark_TooMany := tb_at hev "NoMark" "TooMany" false (by decide +kernel)
  m_NoMark_SyntaxProblem := tb_at hev "NoMark" "SyntaxProblem" false (by decide +kernel)
  m_NoMark_NoName := tb_at hev "NoMark" "NoName" false (by decide +kernel)
  m_NoMark_NoBook := tb_at hev "NoMark" "NoBook" false (by decide +kernel)
  m_NoMark_NoFiles := tb_at hev "NoMark" "NoFiles" false (by decide +kernel)
  m_NoMark_NoRule := tb_at hev "NoMark" "NoRule" false (by decide +kernel)
  m_NoMark_NoMark := tb_at hev "NoMark" "NoMark" true (by decide +kernel)
  m_NoMark_Mismatch := tb_at hev "NoMark" "Mismatch" false (by decide +kernel)
  m_NoMark_InvalidCommand := tb_at hev "NoMark" "InvalidCommand" false (by decide +kernel)
  m_NoMark_RuleError := tb_at hev "NoMark" "RuleError" true (by decide +kernel)
  m_Mismatch_TooMany := tb_at hev "Mismatch" "TooMany" false (by decide +kernel)
  m_Mismatch_SyntaxProblem := tb_at hev "Mismatch" "SyntaxProblem" false (by decide +kernel)
  m_Mismatch_NoName := tb_at hev "Mismatch" "NoName" false (by decide +kernel)
  m_Mismatch_NoBook := tb_at hev "Mismatch" "NoBook" false (by decide +kernel)
  m_Mismatch_NoFiles := tb_at hev "Mismatch" "NoFiles" false (by decide +kernel)
  m_Mismatch_NoRule := tb_at hev "Mismatch" "NoRule" false (by decide +kernel)
  m_Mismatch_NoMark := tb_at hev "Mismatch" "NoMark" false (by decide +kernel)
  m_Mismatch_Mismatch := tb_at hev "Mismatch" "Mismatch" true (by decide +kernel)
  m_Mismatch_InvalidCommand := tb_at hev "Mismatch" "InvalidCommand" false (by decide +kernel)
  m_Mismatch_RuleError := tb_at hev "Mismatch" "RuleError" true (by decide +kernel)
  m_InvalidCommand_TooMany := tb_at hev "InvalidCommand" "TooMany" false (by decide +kernel)
  m_InvalidCommand_SyntaxProblem := tb_at hev "InvalidCommand" "SyntaxProblem" false (by decide +kernel)
  m_InvalidCommand_NoName := tb_at hev "InvalidCommand" "NoName" false (by decide +kernel)
  m_InvalidCommand_NoBook := tb_at hev "InvalidCommand" "NoBook" false (by decide +kernel)
  m_InvalidCommand_NoFiles := tb_at hev "InvalidCommand" "NoFiles" false (by decide +kernel)
  m_InvalidCommand_NoRule := tb_at hev "InvalidCommand" "NoRule" false (by decide +kernel)
  m_InvalidCommand_NoMark := tb_at hev "InvalidCommand" "NoMark" false (by decide +kernel)
  m_InvalidCommand_Mismatch := tb_at hev "InvalidCommand" "Mismatch" false (by decide +kernel)
  m_InvalidCommand_InvalidCommand := tb_at hev "InvalidCommand" "InvalidCommand" true (by decide +kernel)
  m_InvalidCommand_RuleError := tb_at hev "InvalidCommand" "RuleError" true (by decide +kernel)
  m_RuleError_TooMany := tb_at hev "RuleError" "TooMany" false (by decide +kernel)
  m_RuleError_SyntaxProblem := tb_at hev "RuleError" "SyntaxProblem" false (by decide +kernel)
  m_RuleError_NoName := tb_at hev "RuleError" "NoName" false (by decide +kernel)
  m_RuleError_NoBook := tb_at hev "RuleError" "NoBook" false (by decide +kernel)
  m_RuleError_NoFiles := tb_at hev "RuleError" "NoFiles" false (by decide +kernel)
  m_RuleError_NoRule := tb_at hev "RuleError" "NoRule" false (by decide +kernel)
  m_RuleError_NoMark := tb_at hev "RuleError" "NoMark" false (by decide +kernel)
  m_RuleError_Mismatch := tb_at hev "RuleError" "Mismatch" false (by decide +kernel)
  m_RuleError_InvalidCommand := tb_at hev "RuleError" "InvalidCommand" false (by decide +kernel)
  m_RuleError_RuleError := tb_at hev "RuleError" "RuleError" true (by decide +kernel)
  m_TooMany_TooMany := tb_at hev "TooMany" "TooMany" true (by decide +kernel)
  m_TooMany_SyntaxProblem := tb_at hev "TooMany" "SyntaxProblem" false (by decide +kernel)
  m_TooMany_NoName := tb_at hev "TooMany" "NoName" false (by decide +kernel)
  m_TooMany_NoBook := tb_at hev "TooMany" "NoBook" false (by decide +kernel)
  m_TooMany_NoFiles := tb_at hev "TooMany" "NoFiles" false (by decide +kernel)
  m_TooMany_NoRule := tb_at hev "TooMany" "NoRule" false (by decide +kernel)
  m_TooMany_NoMark := tb_at hev "TooMany" "NoMark" false (by decide +kernel)
  m_TooMany_Mismatch := tb_at hev "TooMany" "Mismatch" false (by decide +kernel)
  m_TooMany_InvalidCommand := tb_at hev "TooMany" "InvalidCommand" false (by decide +kernel)
  m_TooMany_RuleError := tb_at hev "TooMany" "RuleError" true (by decide +kernel)
  m_SyntaxProblem_TooMany := tb_at hev "SyntaxProblem" "TooMany" false (by decide +kernel)
  m_SyntaxProblem_SyntaxProblem := tb_at hev "SyntaxProblem" "SyntaxProblem" true (by decide +kernel)
  m_SyntaxProblem_NoName := tb_at hev "SyntaxProblem" "NoName" false (by decide +kernel)
  m_SyntaxProblem_NoBook := tb_at hev "SyntaxProblem" "NoBook" false (by decide +kernel)
  m_SyntaxProblem_NoFiles := tb_at hev "SyntaxProblem" "NoFiles" false (by decide +kernel)
  m_SyntaxProblem_NoRule := tb_at hev "SyntaxProblem" "NoRule" false (by decide +kernel)
  m_SyntaxProblem_NoMark := tb_at hev "SyntaxProblem" "NoMark" false (by decide +kernel)
  m_SyntaxProblem_Mismatch := tb_at hev "SyntaxProblem" "Mismatch" false (by decide +kernel)
  m_SyntaxProblem_InvalidCommand := tb_at hev "SyntaxProblem" "InvalidCommand" false (by decide +kernel)
  m_SyntaxProblem_RuleError := tb_at hev "SyntaxProblem" "RuleError" true (by decide +kernel)
end Lw
open PySem PySem.W PySem.Calls PyProof.Rows
theorem PySem.Challenge.cw_stemrules_k01_errors_holds : PySem.Challenge.rw_stemrules_k01_errors.Holds := by
  w_on; o_law
  refine HandSHeadRun.head_any (r := OpenLaw.row PySem.Challenge.rw_stemrules_k01_errors) (q := view (OpenLaw.row PySem.Challenge.rw_stemrules_k01_errors).prog [17]) (H := Lw.hk) (ob := Lw.ob) (M := 4000) (loose := ("RuleError" :: "TooMany" :: "SyntaxProblem" :: "NoName" :: "NoBook" :: "NoFiles" :: "NoRule" :: "NoMark" :: "Mismatch" :: "InvalidCommand" :: "_law_kneaded" :: "_law_pot_of" :: "_law_below" :: "_law_made" :: "_law_classes" :: ([] : List Str))) (d := HandSHeadRun.topDef (OpenLaw.row PySem.Challenge.rw_stemrules_k01_errors).prog 17) (kwd := []) Lw.ob_eq
    (by kernel_rfl) (fun s => by kernel_rfl) Lw.run (by kernel_rfl) (by kernel_rfl) (by kernel_rfl) (by rfl) (by first | assumption | decide +kernel) (by decide +kernel) ⟨rfl, rfl, rfl, rfl, rfl, by decide +kernel⟩ ?hw ?hc
  case hw => w_witness2
  case hc =>
    refine DL.walkG (l := PySem.Challenge.rw_stemrules_k01_errors) (n := 63) (k := 4) (x := "script") rfl (by decide) (by kernel_rfl) ⟨rfl, by decide, by decide⟩ ?F
    intro w mg fa h Y G hmg0
    obtain ⟨K, KX, c, hsys, hex, hev⟩ := Y
    have hmg : mg ("law" : PySem.Str) = some (.ref fa) := by
      have e : (HandSHeadRun.topDef (OpenLaw.row PySem.Challenge.rw_stemrules_k01_errors).prog 17).name = ("law" : PySem.Str) := by kernel_rfl
      rw [← e]
      exact hmg0
    have T := Lw.tx KX G c hsys hex hev
    obtain ⟨fd, hb, F⟩ := DL.CallD.law (P := (PySem.Challenge.rw_stemrules_k01_errors).prog) (w := w) h (fun base => Lw.ok_law (base := base) T) hmg
    exact ⟨K, fd, (Lw.fn_law (He.ga K) (Lw.eM K)), KX, fun s v => hb s [v] rfl, fun ns hl => Lw.law_true (Lw.mok hev) ns hl, fun base _ _ => F base⟩
