import PyProof.Rows.All
import Wide.All
import OpenK.AllK
import Wide.FinOn
import HandS.ForMost
import HandS.Walk
import HandS.Wide
import HandS.IsInst
import HandS.DictComp
import HandS.Flow
import HandS.Style
import HandS.Exc
import HandS.TupAny
import HandS.TupMul
import HandS.SortInts
import HandS.FStr
import HandS.ListItems
import HandS.Conv
import HandS.Lambda
import HandS.HeadHook4
import KE.KSortedM
import PyProof.DictUpdate
import PyProof.WalksMore
import PyProof.TupleIter
import PyProof.ConsumeWalk
import HandS.Defaults
import HandS.HeadEnd
import HandS.Head0
import HandS.Head1
import HandS.Head2
import HandS.HeadHook1
import HandS.HeadHook2
import KE.KStateDown
import HandS.RaiseMore
import HandS.ExcValue
import HandS.DictTup
import HandS.SortRule
import HandS.SetFor
import HandS.Strs
import HandS.ForExc
import HandS.ExcField
import KE.KExcSuper
import HandS.EndTab
import KE.KDflt
import KE.KTryMore
import KE.KExcIs
import KE.DataEq
import PyProof.EqAt
import KE.KTupSum
import HandS.Zip
import KE.GoesEnum
import HandS.HeadHook3
import PySem.Challenge.RW_wheelnines_k01_errors
/-! DW0: the defs of the law that make lambdas (printed per law by gen.py) -/
namespace DW
def lamNames : List PySem.Str := []
end DW

set_option Elab.async false
set_option linter.all false
set_option maxRecDepth 100000
set_option maxHeartbeats 4000000
/-! DW1: data without the heap, environments of data, the judgements over data -/
namespace DW
open PySem L2

/-! ### data -/
inductive Dt where
  | non | bl (b : Bool) | int (i : Int) | str (x : Str) | lst (xs : List Dt) | tup (xs : List Dt) | dct (kvs : List (Key × Dt)) | scr (ns : List Int) | xo (cls fld : Str) (val : Dt)
/-- an error object of the class cls, its dict at dd -/
def ExV (a : Addr) (cls : Value) (dd : Addr) : HO := .ext fun h => ∃ (oe : Obj) (vs : Array Value), h.get? a = some oe ∧ Zc cls (some dd) oe ∧ oe.data = .fields vs

/-- an error object of the class cls without a dict, its arguments at t -/
def ExB (a : Addr) (cls : Value) (t : Addr) : HO := .ext fun h => ∃ (oe : Obj) (vs : Array Value), h.get? a = some oe ∧ Zc cls none oe ∧ oe.data = .fields vs ∧ vs[0]? = some (.ref t)

mutual
inductive Da (K : PySem.W.Frag) (H : Hp) : V → Dt → Prop
  | non : Da K H .non .non
  | bl (b : Bool) : Da K H (.bl b) (.bl b)
  | int (i : Int) : Da K H (.int i) (.int i)
  | str (x : Str) : Da K H (.str x) (.str x)
  | lst {a : Addr} {xs : List V} {ds : List Dt} : H a = some (.lst xs) → DaAll K H xs ds → Da K H (.ref a) (.lst ds)
  | tup {a : Addr} {xs : List V} {ds : List Dt} : SqT K H a xs → DaAll K H xs ds → Da K H (.ref a) (.tup ds)
  | dct {a : Addr} {ks : List (Key × V)} {kvs : List (Key × Dt)} : H a = some (.dK ks) → DaKv K H ks kvs → Da K H (.ref a) (.dct kvs)
  | scr {a : Addr} {ns : List Int} : SqL K H a (ns.map V.int) → Da K H (.ref a) (.scr ns)
  | xo {a dd : Addr} {cls fld : Str} {v : V} {d : Dt} : fld ≠ "" → H a = some (ExV a (.ref (He.ga K cls)) dd) → H dd = some (.xd [(fld, v)]) → Da K H v d → Da K H (.ref a) (.xo cls fld d)
  | xb {a t : Addr} {cls x : Str} : H a = some (ExB a (.ref (He.ga K cls)) t) → H t = some (.tup [.str x]) → Da K H (.ref a) (.xo cls "" (.str x))
inductive DaAll (K : PySem.W.Frag) (H : Hp) : List V → List Dt → Prop
  | nil : DaAll K H [] []
  | cons {v : V} {vs : List V} {d : Dt} {ds : List Dt} : Da K H v d → DaAll K H vs ds → DaAll K H (v :: vs) (d :: ds)
inductive DaKv (K : PySem.W.Frag) (H : Hp) : List (Key × V) → List (Key × Dt) → Prop
  | nil : DaKv K H [] []
  | cons {k : Key} {v : V} {ks : List (Key × V)} {d : Dt} {kvs : List (Key × Dt)} : Da K H v d → DaKv K H ks kvs → DaKv K H ((k, v) :: ks) ((k, d) :: kvs)
end

theorem seqL_mono {K : PySem.W.Frag} {H H' : Hp} {a : Addr} {xs : List V} (e : Same H H') (h : SqL K H a xs) : SqL K H' a xs := e.seq h
theorem seqT_mono {K : PySem.W.Frag} {H H' : Hp} {a : Addr} {xs : List V} (e : Same H H') (h : SqT K H a xs) : SqT K H' a xs := by
  rcases h with (h | ⟨o, h⟩) | h
  · exact .inl (.inl (e _ _ h))
  · exact .inl (.inr ⟨o, e _ _ h⟩)
  · exact .inr h

mutual
theorem Da.mono {K : PySem.W.Frag} {H H' : Hp} (e : Same H H') : ∀ {v : V} {d : Dt}, Da K H v d → Da K H' v d
  | _, _, .non => .non
  | _, _, .bl b => .bl b
  | _, _, .int i => .int i
  | _, _, .str x => .str x
  | _, _, .lst h1 h2 => .lst (e _ _ h1) (DaAll.mono e h2)
  | _, _, .scr h1 => .scr (seqL_mono e h1)
  | _, _, .xo h0 h1 h2 h3 => .xo h0 (e _ _ h1) (e _ _ h2) (Da.mono e h3)
  | _, _, .xb h1 h2 => .xb (e _ _ h1) (e _ _ h2)
  | _, _, .tup h1 h2 => .tup (seqT_mono e h1) (DaAll.mono e h2)
  | _, _, .dct h1 h2 => .dct (e _ _ h1) (DaKv.mono e h2)
theorem DaAll.mono {K : PySem.W.Frag} {H H' : Hp} (e : Same H H') : ∀ {v : List V} {d : List Dt}, DaAll K H v d → DaAll K H' v d
  | _, _, .nil => .nil
  | _, _, .cons h1 h2 => .cons (Da.mono e h1) (DaAll.mono e h2)
theorem DaKv.mono {K : PySem.W.Frag} {H H' : Hp} (e : Same H H') : ∀ {v : List (Key × V)} {d : List (Key × Dt)}, DaKv K H v d → DaKv K H' v d
  | _, _, .nil => .nil
  | _, _, .cons h1 h2 => .cons (Da.mono e h1) (DaKv.mono e h2)
end

theorem DaAll.length {K : PySem.W.Frag} {H : Hp} : ∀ {vs : List V} {ds : List Dt}, DaAll K H vs ds → vs.length = ds.length
  | _, _, .nil => rfl
  | _, _, .cons _ h => congrArg (· + 1) h.length
theorem DaAll.get {K : PySem.W.Frag} {H : Hp} : ∀ {vs : List V} {ds : List Dt} {i : Nat} {d : Dt}, DaAll K H vs ds → ds[i]? = some d → ∃ v, vs[i]? = some v ∧ Da K H v d
  | _, _, _, _, .nil, e => by simp at e
  | _, _, 0, _, .cons h _, e => by
    simp at e
    subst e
    exact ⟨_, rfl, h⟩
  | _, _, i + 1, _, .cons _ h, e => by
    simp at e
    obtain ⟨v, h1, h2⟩ := h.get e
    exact ⟨v, by simpa using h1, h2⟩
theorem DaAll.getV {K : PySem.W.Frag} {H : Hp} : ∀ {vs : List V} {ds : List Dt} {i : Nat} {v : V}, DaAll K H vs ds → vs[i]? = some v → ∃ d, ds[i]? = some d ∧ Da K H v d
  | _, _, _, _, .nil, e => by simp at e
  | _, _, 0, _, .cons h _, e => by
    simp at e
    subst e
    exact ⟨_, rfl, h⟩
  | _, _, i + 1, _, .cons _ h, e => by
    simp at e
    obtain ⟨v, h1, h2⟩ := h.getV e
    exact ⟨v, by simpa using h1, h2⟩
theorem DaAll.append {K : PySem.W.Frag} {H : Hp} : ∀ {vs ws : List V} {ds es : List Dt}, DaAll K H vs ds → DaAll K H ws es → DaAll K H (vs ++ ws) (ds ++ es)
  | _, _, _, _, .nil, h => h
  | _, _, _, _, .cons h1 h2, h => .cons h1 (h2.append h)
theorem DaAll.take {K : PySem.W.Frag} {H : Hp} : ∀ {vs : List V} {ds : List Dt} (n : Nat), DaAll K H vs ds → DaAll K H (vs.take n) (ds.take n)
  | _, _, 0, _ => .nil
  | _, _, _ + 1, .nil => .nil
  | _, _, n + 1, .cons h1 h2 => .cons h1 (h2.take n)
theorem DaAll.drop {K : PySem.W.Frag} {H : Hp} : ∀ {vs : List V} {ds : List Dt} (n : Nat), DaAll K H vs ds → DaAll K H (vs.drop n) (ds.drop n)
  | _, _, 0, h => h
  | _, _, _ + 1, .nil => .nil
  | _, _, n + 1, .cons h1 h2 => h2.drop n
theorem DaAll.ints {K : PySem.W.Frag} {H : Hp} : ∀ {vs : List V} {ns : List Int}, DaAll K H vs (ns.map Dt.int) → vs = ns.map V.int
  | _, [], h => by cases h; rfl
  | _, n :: ns, h => by
    cases h with
    | cons h1 h2 =>
      cases h1
      rw [h2.ints]
      rfl
theorem daInts {K : PySem.W.Frag} {H : Hp} : ∀ (ns : List Int), DaAll K H (ns.map V.int) (ns.map Dt.int)
  | [] => .nil
  | n :: ns => .cons (.int n) (daInts ns)
theorem DaAll.bls {K : PySem.W.Frag} {H : Hp} : ∀ {vs : List V} {ns : List Bool}, DaAll K H vs (ns.map Dt.bl) → vs = ns.map V.bl
  | _, [], h => by cases h; rfl
  | _, n :: ns, h => by
    cases h with
    | cons h1 h2 =>
      cases h1
      rw [h2.bls]
      rfl

/-! ### environments -/
/-- where a body began: the base, the heap, the dict that it may change -/
structure Fm where
  H0 : Hp
  H : Hp
  io : Option Addr
/-- raw: a function that is handed on, with where the body began -/
inductive Sl where
  | fr (d : Dt) | ol (xs : List Dt) | od (kvs : List (Key × Dt)) | io (kvs : List (Key × Dt)) | raw (v : V) (F : Fm)
def Sl.own : Sl → Bool
  | .ol _ => true
  | .od _ => true
  | _ => false
def Sl.mut : Sl → Bool
  | .fr _ => false
  | .raw _ _ => false
  | _ => true
theorem Sl.mut_of_own {s : Sl} (h : s.own = true) : s.mut = true := by cases s <;> first | rfl | cases h
abbrev Rho := List (Option Sl)
structure Xc where
  cls : Str
  fld : Str
  val : Dt
inductive R (α : Type) where
  | ok (a : α) (ρ : Rho) | ex (e : Xc) (ρ : Rho) | bad
def R.bind {α β : Type} (r : R α) (g : α → Rho → R β) : R β := match r with
  | .ok a ρ => g a ρ
  | .ex e ρ => .ex e ρ
  | .bad => .bad
inductive SR where
  | nx (ρ : Rho) | rt (s : Sl) (ρ : Rho) | bk (ρ : Rho) | ct (ρ : Rho) | ex (e : Xc) (ρ : Rho) | bad
def R.bindS {α : Type} (r : R α) (g : α → Rho → SR) : SR := match r with
  | .ok a ρ => g a ρ
  | .ex e ρ => .ex e ρ
  | .bad => .bad

structure Gr (F : Fm) (H0 H : Hp) : Prop where
  b0 : Same F.H0 H0
  keep : ∀ a o, F.H a = some o → F.io ≠ some a → H a = some o
  off : ∀ a, F.H a ≠ none → F.H0 a = none → H0 a = none
/-- not a table of code objects -/
def NT (o : HO) : Prop := ∀ ps, o ≠ .tbl ps
theorem nt_lst (xs : List V) : NT (.lst xs) := fun _ z => nomatch z
theorem nt_dK (xs : List (Key × V)) : NT (.dK xs) := fun _ z => nomatch z
/-- the tables of the defs that make lambdas -/
def tT (K : PySem.W.Frag) : List (Addr × Str) := lamNames.map fun n => ((He.cT K (n, none)).2, n ++ ".<locals>." ++ "<lambda>")
def TbOk (K : PySem.W.Frag) (H0 H : Hp) : Prop := ∀ p ∈ tT K, H0 p.1 = none ∧ LamX.TabS H p.1 p.2
/-- as Gr, but tables may have grown -/
structure Gw (F : Fm) (H0 H : Hp) : Prop where
  b0 : Same F.H0 H0
  keep : ∀ a o, F.H a = some o → NT o → F.io ≠ some a → H a = some o
  off : ∀ a, F.H a ≠ none → F.H0 a = none → H0 a = none
  st : ∀ a, F.H a ≠ none → H a ≠ none
theorem tab_away {K : PySem.W.Frag} {H0 H H0' H' : Hp} (t : TbOk K H0 H) (k : ∀ a o, H a = some o → (∀ xs, o ≠ .lst xs) → (∀ xs, o ≠ .dK xs) → H' a = some o) (f : ∀ a, H a ≠ none → H0 a = none → (∀ xs, H a ≠ some (.lst xs)) → (∀ xs, H a ≠ some (.dK xs)) → H0' a = none) : TbOk K H0' H' := fun p hp => by
  obtain ⟨h1, ps, h2, h3, h4⟩ := t p hp
  refine ⟨f p.1 (by rw [h2]; exact fun z => nomatch z) h1 (fun xs z => by rw [h2] at z; cases z) (fun xs z => by rw [h2] at z; cases z), ps, k _ _ h2 (fun _ z => nomatch z) (fun _ z => nomatch z), h3, fun pos cv hc => ?_⟩
  obtain ⟨c, e1, e2⟩ := h4 pos cv hc
  exact ⟨c, e1, k _ _ e2 (fun _ z => nomatch z) (fun _ z => nomatch z)⟩
def SlR (K : PySem.W.Frag) (F : Fm) (H0 H : Hp) (v : V) : Sl → Prop
  | .fr d => Da K H0 v d
  | .ol ds => ∃ a vs, v = .ref a ∧ H0 a = none ∧ F.H a = none ∧ H a = some (.lst vs) ∧ DaAll K H0 vs ds
  | .od kvs => ∃ a ks, v = .ref a ∧ H0 a = none ∧ F.H a = none ∧ H a = some (.dK ks) ∧ DaKv K H0 ks kvs
  | .io kvs => ∃ a ks, v = .ref a ∧ H0 a = none ∧ F.io = some a ∧ H a = some (.dK ks) ∧ DaKv K H0 ks kvs
  | .raw w F' => v = w ∧ F' = F
structure En (K : PySem.W.Frag) (F : Fm) (H0 H : Hp) (σ : L2.St) (ρ : Rho) : Prop where
  gr : Gw F H0 H
  tb : TbOk K H0 H
  ex : Same H0 H
  len : σ.length = ρ.length
  sl : ∀ (i : Nat) (s : Sl), ρ[i]? = some (some s) → ∃ v, σ[i]? = some (some v) ∧ SlR K F H0 H v s
  sep : ∀ (i j : Nat) (s t : Sl) (a : Addr), i ≠ j → ρ[i]? = some (some s) → ρ[j]? = some (some t) → s.own = true → t.own = true → σ[i]? = some (some (.ref a)) → σ[j]? ≠ some (some (.ref a))
  io : ∀ a, F.io = some a → σ[0]? = some (some (.ref a)) ∧ (∃ kvs, ρ[0]? = some (some (.io kvs))) ∧ F.H a ≠ none
  io1 : ∀ (i : Nat) (kvs : List (Key × Dt)), ρ[i]? = some (some (.io kvs)) → i = 0

section
variable {K : PySem.W.Frag} {F : Fm} {H0 H H0' H' : Hp} {σ : L2.St} {ρ : Rho} {v : V} {d : Dt} {s : Sl} {i : Nat} {a p : Addr} {o : HO}

theorem En.ioAt (E : En K F H0 H σ ρ) (h : F.io = some a) : H0 a = none ∧ ∃ ks, H a = some (.dK ks) := by
  obtain ⟨h1, ⟨kvs, h2⟩, _⟩ := E.io a h
  obtain ⟨v, h3, b, ks, rfl, h4, h5, h6, _⟩ := E.sl 0 _ h2
  rw [h1] at h3
  cases h3
  exact ⟨h4, ks, h6⟩
/-- what stood at the beginning stands -/
theorem En.still (E : En K F H0 H σ ρ) (h : F.H a ≠ none) : H a ≠ none := E.gr.st a h
theorem Gw.refl (H0 H : Hp) (io : Option Addr) : Gw ⟨H0, H, io⟩ H0 H := ⟨Same.refl _, fun _ _ h _ _ => h, fun _ _ h => h, fun _ h => h⟩
theorem Gr.refl (H0 H : Hp) (io : Option Addr) (F : Fm := ⟨H0, H, io⟩) (e : F = ⟨H0, H, io⟩ := by rfl) : Gr F H0 H := by
  subst e
  exact ⟨Same.refl _, fun _ _ h _ => h, fun _ _ h => h⟩
theorem Gr.w (g : Gr ⟨H0, H, none⟩ H0' H') : Gw ⟨H0, H, none⟩ H0' H' := ⟨g.b0, fun a o h _ hi => g.keep a o h hi, g.off, fun a h => by
  have h : H a ≠ none := h
  cases e : H a with
  | none => exact absurd e h
  | some o =>
    rw [g.keep a o e (fun z => nomatch z)]
    exact fun z => nomatch z⟩
theorem Gr.tb (g : Gr ⟨H0, H, none⟩ H0' H') (t : TbOk K H0 H) : TbOk K H0' H' := tab_away t (fun a o h _ _ => g.keep a o h (fun z => nomatch z)) (fun a h h0 _ _ => g.off a h h0)
theorem SlR.grow (g : Gw ⟨H0, H, none⟩ H0' H') (h : SlR K F H0 H v s) : SlR K F H0' H' v s := by
  cases s with
  | fr d => exact Da.mono g.b0 h
  | ol ds =>
    obtain ⟨a, vs, rfl, h1, h2, h3, h4⟩ := h
    exact ⟨a, vs, rfl, g.off a (by show H a ≠ none; rw [h3]; exact fun z => nomatch z) h1, h2, g.keep a _ h3 (nt_lst _) (fun z => nomatch z), h4.mono g.b0⟩
  | od ds =>
    obtain ⟨a, vs, rfl, h1, h2, h3, h4⟩ := h
    exact ⟨a, vs, rfl, g.off a (by show H a ≠ none; rw [h3]; exact fun z => nomatch z) h1, h2, g.keep a _ h3 (nt_dK _) (fun z => nomatch z), h4.mono g.b0⟩
  | raw w _ => exact h
  | io ds =>
    obtain ⟨a, vs, rfl, h1, h2, h3, h4⟩ := h
    exact ⟨a, vs, rfl, g.off a (by show H a ≠ none; rw [h3]; exact fun z => nomatch z) h1, h2, g.keep a _ h3 (nt_dK _) (fun z => nomatch z), h4.mono g.b0⟩
/-- something was made, nothing was changed -/
theorem En.growW (E : En K F H0 H σ ρ) (g : Gw ⟨H0, H, none⟩ H0' H') (t : TbOk K H0' H') (e : Same H0' H') : En K F H0' H' σ ρ where
  gr := ⟨E.gr.b0.trans g.b0, fun a o h n hi => g.keep a o (E.gr.keep a o h n hi) n (fun z => nomatch z), fun a h h' => g.off a (E.still h) (E.gr.off a h h'), fun a h => g.st a (E.gr.st a h)⟩
  tb := t
  ex := e
  len := E.len
  sl := fun i s h => by
    obtain ⟨v, h1, h2⟩ := E.sl i s h
    exact ⟨v, h1, h2.grow g⟩
  sep := E.sep
  io := E.io
  io1 := E.io1
theorem En.grow (E : En K F H0 H σ ρ) (g : Gr ⟨H0, H, none⟩ H0' H') (e : Same H0' H') : En K F H0' H' σ ρ := E.growW g.w (g.tb E.tb) e
theorem gr_new (hp : H p = none) (e : Same H0 H) : Gr ⟨H0, H, none⟩ (upd H0 p o) (upd H p o) where
  b0 := fun a u h => by
    rw [upd_ne (ne_of_none (e a u h) hp)]
    exact h
  keep := fun a u h _ => by
    rw [upd_ne (ne_of_none h hp)]
    exact h
  off := fun a h h0 => by
    have : a ≠ p := fun z => h (z ▸ hp)
    rw [upd_ne this]
    exact h0
theorem same_new (hp : H p = none) (e : Same H0 H) : Same (upd H0 p o) (upd H p o) := fun a u h => by
  by_cases ha : a = p
  · subst ha
    rw [upd_same] at h ⊢
    exact h
  · rw [upd_ne ha] at h ⊢
    exact e a u h
theorem En.new (E : En K F H0 H σ ρ) (hp : H p = none) : En K F (upd H0 p o) (upd H p o) σ ρ := E.grow (gr_new hp E.ex) (same_new hp E.ex)
theorem En.newB0 (E : En K F H0 H σ ρ) (hp : H p = none) : Same H0 (upd H0 p o) := (gr_new (o := o) hp E.ex).b0
/-- new, not laid into the base -/
theorem gr_newO (hp : H p = none) : Gr ⟨H0, H, none⟩ H0 (upd H p o) where
  b0 := Same.refl _
  keep := fun a u h _ => by
    rw [upd_ne (ne_of_none h hp)]
    exact h
  off := fun a h h0 => h0
theorem same_newO (hp : H p = none) (e : Same H0 H) : Same H0 (upd H p o) := fun a u h => by
  rw [upd_ne (ne_of_none (e a u h) hp)]
  exact e a u h

/-- the address of a slot's own object -/
def OwnAt (σ : L2.St) (ρ : Rho) (a : Addr) : Prop := ∃ (i : Nat) (s : Sl), ρ[i]? = some (some s) ∧ s.mut = true ∧ σ[i]? = some (some (.ref a))
/-- one expression's doing -/
structure Mw (σ : L2.St) (ρ : Rho) (σ' : L2.St) (ρ' : Rho) (H0 H H0' H' : Hp) : Prop where
  b0 : Same H0 H0'
  keep : ∀ a o, H a = some o → NT o → ¬ OwnAt σ ρ a → H' a = some o
  off : ∀ a, H a ≠ none → H0 a = none → ¬ OwnAt σ ρ a → H0' a = none
  sub : ∀ a, OwnAt σ' ρ' a → OwnAt σ ρ a
  st : ∀ a, H a ≠ none → H' a ≠ none
abbrev Mv (σ : L2.St) (ρ ρ' : Rho) (H0 H H0' H' : Hp) : Prop := Mw σ ρ σ ρ' H0 H H0' H'
theorem Mv.refl : Mv σ ρ ρ H0 H H0 H := ⟨Same.refl _, fun _ _ h _ _ => h, fun _ _ h _ => h, fun _ h => h, fun _ h => h⟩
theorem Mw.fresh {p : Addr} {σ' : L2.St} {ρ' : Rho} (m : Mw σ ρ σ' ρ' H0 H H0' H') (hp : H' p = none) : H p = none := by
  cases e : H p with
  | none => rfl
  | some o => exact absurd hp (m.st p (by rw [e]; exact fun z => nomatch z))
theorem Mw.trans {σ1 σ2 : L2.St} {ρ1 ρ2 : Rho} {B0 B C0 C : Hp} (m : Mw σ ρ σ1 ρ1 H0 H B0 B) (n : Mw σ1 ρ1 σ2 ρ2 B0 B C0 C) : Mw σ ρ σ2 ρ2 H0 H C0 C where
  b0 := m.b0.trans n.b0
  keep := fun a o h t ho => n.keep a o (m.keep a o h t ho) t fun z => ho (m.sub a z)
  off := fun a h h0 ho => n.off a (m.st a h) (m.off a h h0 ho) fun z => ho (m.sub a z)
  sub := fun a h => m.sub a (n.sub a h)
  st := fun a h => n.st a (m.st a h)
theorem Mw.kl {σ' : L2.St} {ρ' : Rho} {xs : List V} (m : Mw σ ρ σ' ρ' H0 H H0' H') (a : Addr) (h : H a = some (.lst xs)) (n : ¬ OwnAt σ ρ a) : H' a = some (.lst xs) := m.keep a _ h (nt_lst xs) n
theorem Mw.kd {σ' : L2.St} {ρ' : Rho} {xs : List (Key × V)} (m : Mw σ ρ σ' ρ' H0 H H0' H') (a : Addr) (h : H a = some (.dK xs)) (n : ¬ OwnAt σ ρ a) : H' a = some (.dK xs) := m.keep a _ h (nt_dK xs) n
theorem Gw.mv (g : Gw ⟨H0, H, none⟩ H0' H') : Mv σ ρ ρ H0 H H0' H' := ⟨g.b0, fun a o h t _ => g.keep a o h t (fun z => nomatch z), fun a h h0 _ => g.off a h h0, fun _ h => h, fun a h => g.st a h⟩
theorem Gr.mv (g : Gr ⟨H0, H, none⟩ H0' H') : Mv σ ρ ρ H0 H H0' H' := g.w.mv
theorem gw_upd {ks : List (Key × V)} {ks' : List (Key × V)} (hH : H a = some (.dK ks)) : Gw ⟨H0, H, some a⟩ H0 (upd H a (.dK ks')) := ⟨Same.refl _, fun b o hb _ hn => by
  have nb : b ≠ a := fun z => hn (by rw [z])
  rw [upd_ne nb]
  exact hb, fun _ _ h => h, fun b hb => by
  by_cases z : b = a
  · rw [z, upd_same]
    exact fun z => nomatch z
  · rw [upd_ne z]
    exact hb⟩
theorem tb_upd {ks : List (Key × V)} (t : TbOk K H0 H) (hH : H a = some (.dK ks)) : TbOk K H0 (upd H a o) := tab_away t (fun b u hb _ n2 => by
  have nb : b ≠ a := fun z => n2 ks (by rw [z, hH] at hb; exact (Option.some.inj hb).symm)
  rw [upd_ne nb]
  exact hb) (fun _ _ h _ _ => h)

/-! ### the judgements -/
structure Gx where
  K : PySem.W.Frag
  mg : Str → Option Value
abbrev gx (X : Cx) : Gx := ⟨X.K, X.mg⟩
abbrev WX := Value → Option Addr → L2.St → Hp → Prop
/-- an exception e: its class, its own dict -/
def XR (g : Gx) (F : Fm) (H0 H : Hp) (e : Xc) (c : Value) (da : Option Addr) : Prop := e.fld ≠ "" ∧ ∃ p v, g.mg e.cls = some c ∧ da = some p ∧ F.H p = none ∧ H p = some (.xd [(e.fld, v)]) ∧ Da g.K H0 v e.val
def XW (g : Gx) (F : Fm) (W : WX) (σ : L2.St) (e : Xc) (ρ' : Rho) : Prop := ∀ c da H0' H', XR g F H0' H' e c da → En g.K F H0' H' σ ρ' → W c da σ H'
def tD (g : Gx) (F : Fm) (W : WX) (f : Rho → R Dt) : TE := fun σ H Q => ∃ H0 ρ, En g.K F H0 H σ ρ ∧ match f ρ with
  | .ok d ρ' => ∀ v H0' H', En g.K F H0' H' σ ρ' → Mv σ ρ ρ' H0 H H0' H' → Da g.K H0' v d → Q v H'
  | .ex e ρ' => XW g F W σ e ρ'
  | .bad => False
def tO (g : Gx) (F : Fm) (W : WX) (f : Rho → R Sl) : TE := fun σ H Q => ∃ H0 ρ, En g.K F H0 H σ ρ ∧ match f ρ with
  | .ok s ρ' => ∀ v H0' H', En g.K F H0' H' σ ρ' → Mv σ ρ ρ' H0 H H0' H' → SlR g.K F H0' H' v s → (s.own = true → ∀ a, v = .ref a → H a = none) → Q v H'
  | .ex e ρ' => XW g F W σ e ρ'
  | .bad => False
def tDT (g : Gx) (F : Fm) (W : WX) (f : Rho → R Bool) : TT := fun σ H Q => ∃ H0 ρ, En g.K F H0 H σ ρ ∧ match f ρ with
  | .ok b ρ' => ∀ H0' H', En g.K F H0' H' σ ρ' → Mv σ ρ ρ' H0 H H0' H' → Q b H'
  | .ex e ρ' => XW g F W σ e ρ'
  | .bad => False
def tDA (g : Gx) (F : Fm) (W : WX) (f : Rho → R (List Dt)) : TA := fun σ H Q => ∃ H0 ρ, En g.K F H0 H σ ρ ∧ match f ρ with
  | .ok ds ρ' => ∀ vs H0' H', En g.K F H0' H' σ ρ' → Mv σ ρ ρ' H0 H H0' H' → DaAll g.K H0' vs ds → Q vs H'
  | .ex e ρ' => XW g F W σ e ρ'
  | .bad => False
def PostS (g : Gx) (F : Fm) (W : WX) (D : Ends) (H0 : Hp) : SR → Prop
  | .nx ρ' => ∀ σ' H0' H', En g.K F H0' H' σ' ρ' → Same H0 H0' → D.nx σ' H'
  | .rt s ρ' => ∀ v σ' H0' H', En g.K F H0' H' σ' ρ' → SlR g.K F H0' H' v s → D.rt v H'
  | .bk ρ' => ∀ σ' H0' H', En g.K F H0' H' σ' ρ' → Same H0 H0' → D.bk σ' H'
  | .ct ρ' => ∀ σ' H0' H', En g.K F H0' H' σ' ρ' → Same H0 H0' → D.ct σ' H'
  | .ex e ρ' => ∀ σ', XW g F W σ' e ρ'
  | .bad => False
def tS (g : Gx) (F : Fm) (W : WX) (f : Rho → SR) : TS := fun D σ H => ∃ H0 ρ, En g.K F H0 H σ ρ ∧ PostS g F W D H0 (f ρ)
theorem PostS.mono {g : Gx} {F : Fm} {W : WX} {D : Ends} {H0 H0' : Hp} {r : SR} (s : Same H0 H0') (h : PostS g F W D H0 r) : PostS g F W D H0' r := by
  cases r with
  | nx ρ' => exact fun σ' C0 C E t => h σ' C0 C E (s.trans t)
  | rt s ρ' => exact h
  | bk ρ' => exact fun σ' C0 C E t => h σ' C0 C E (s.trans t)
  | ct ρ' => exact fun σ' C0 C E t => h σ' C0 C E (s.trans t)
  | ex _ _ => exact h
  | bad => exact h
def DE (X : Cx) (W : WX) (e : Expr) (f : Rho → R Dt) : Prop := ∀ F, PE X e (tD (gx X) F W f)
def DO (X : Cx) (W : WX) (e : Expr) (f : Rho → R Sl) : Prop := ∀ F, PE X e (tO (gx X) F W f)
def DT (X : Cx) (W : WX) (e : Expr) (f : Rho → R Bool) : Prop := ∀ F, PT X e (tDT (gx X) F W f)
def DW' (X : Cx) (W : WX) (e : Expr) (f : Rho → R Bool) : Prop := ∀ F, PW X e (tDT (gx X) F W f)
def DA (X : Cx) (W : WX) (es : List Expr) (f : Rho → R (List Dt)) : Prop := ∀ F, PA X es (tDA (gx X) F W f)
def DS (X : Cx) (W : WX) (st : Stmt) (f : Rho → SR) : Prop := ∀ F, PS X st (tS (gx X) F W f)
def DSs (X : Cx) (W : WX) (st : List Stmt) (f : Rho → SR) : Prop := ∀ F, PSs X st (tS (gx X) F W f)
end

section
variable {X : Cx} {W : WX}
theorem PE.wk {e : Expr} {t u : TE} (h : PE X e t) (k : ∀ σ H Q, u σ H Q → t σ H Q) : PE X e u := ⟨fun pins s σ H Q I q => h.run pins s σ H Q I (k σ H Q q)⟩
theorem PT.wk {e : Expr} {t u : TT} (h : PT X e t) (k : ∀ σ H Q, u σ H Q → t σ H Q) : PT X e u := ⟨fun pins s σ H Q I q => h.run pins s σ H Q I (k σ H Q q)⟩
theorem PW.wk {e : Expr} {t u : TT} (h : PW X e t) (k : ∀ σ H Q, u σ H Q → t σ H Q) : PW X e u := ⟨fun w pins s σ H Q I q => h.run w pins s σ H Q I (k σ H Q q)⟩
theorem PA.wk {e : List Expr} {t u : TA} (h : PA X e t) (k : ∀ σ H Q, u σ H Q → t σ H Q) : PA X e u := ⟨fun p pins s σ H Q I q => h.run p pins s σ H Q I (k σ H Q q)⟩
theorem PS.wk {e : Stmt} {t u : TS} (h : PS X e t) (k : ∀ D σ H, u D σ H → t D σ H) : PS X e u := ⟨fun pins s σ H D I q => h.run pins s σ H D I (k D σ H q)⟩
theorem PSs.wk {e : List Stmt} {t u : TS} (h : PSs X e t) (k : ∀ D σ H, u D σ H → t D σ H) : PSs X e u := ⟨fun pins s σ H D I q => h.run pins s σ H D I (k D σ H q)⟩
end
end DW

set_option Elab.async false
set_option linter.all false
set_option maxRecDepth 100000
set_option maxHeartbeats 4000000
/-! DW2: expressions, tests, arguments, statements over data -/
namespace DW
open PySem L2

section
variable {K : PySem.W.Frag} {F : Fm} {H0 H H0' H' : Hp} {σ : L2.St} {ρ : Rho} {v : V} {d : Dt} {s : Sl} {i : Nat} {a p : Addr} {o : HO}
theorem set_get {α : Type} {l : List α} {i j : Nat} {x y : α} (h : (l.set i x)[j]? = some y) : (j = i ∧ y = x) ∨ (j ≠ i ∧ l[j]? = some y) := by
  by_cases e : i = j
  · subst e
    have hl : i < (l.set i x).length := by
      cases q : (l.set i x)[i]? with
      | none => rw [q] at h; cases h
      | some z => exact (List.getElem?_eq_some_iff.mp q).1
    rw [List.length_set] at hl
    rw [List.getElem?_set_self hl] at h
    exact .inl ⟨rfl, (Option.some.inj h).symm⟩
  · rw [List.getElem?_set_ne e] at h
    exact .inr ⟨Ne.symm e, h⟩
theorem lt_of_get {α : Type} {l : List α} {i : Nat} {x : α} (h : l[i]? = some x) : i < l.length := (List.getElem?_eq_some_iff.mp h).1

def noIo (ρ : Rho) : Bool := match (ρ[0]? : Option (Option Sl)) with
  | some (some (.io _)) => false
  | _ => true
def putR (i : Nat) (s : Sl) (ρ : Rho) : Option Rho := if i = 0 ∧ noIo ρ = false then none else some (ρ.set i (some s))
/-- a slot is stored -/
theorem En.put (E : En K F H0 H σ ρ) (hs : SlR K F H0 H v s) (hio : ∀ kvs, s ≠ .io kvs) (hsep : s.own = true → ∀ a, v = .ref a → ¬ OwnAt σ ρ a) {ρ' : Rho} (h : putR i s ρ = some ρ') : En K F H0 H (σ.set i (some v)) ρ' := by
  unfold putR at h
  split at h
  · cases h
  · rename_i hn
    cases h
    refine ⟨E.gr, E.tb, E.ex, by rw [List.length_set, List.length_set, E.len], fun j t e => ?_, fun j k t u b hjk e1 e2 o1 o2 h1 h2 => ?_, fun b hb => ?_, fun j kvs e => ?_⟩
    · rcases set_get e with ⟨rfl, e2⟩ | ⟨hne, e2⟩
      · cases e2
        have hl : j < σ.length := by
          rw [E.len]
          have := lt_of_get e
          rw [List.length_set] at this
          exact this
        exact ⟨v, List.getElem?_set_self hl, hs⟩
      · obtain ⟨w, h1, h2⟩ := E.sl j t e2
        exact ⟨w, by rw [List.getElem?_set_ne (Ne.symm hne)]; exact h1, h2⟩
    · rcases set_get e1 with ⟨rfl, z1⟩ | ⟨n1, z1⟩
      · cases z1
        rcases set_get e2 with ⟨rfl, z2⟩ | ⟨n2, z2⟩
        · exact hjk rfl
        · rcases set_get h1 with ⟨_, y1⟩ | ⟨n, _⟩
          · cases y1
            rcases set_get h2 with ⟨e, _⟩ | ⟨_, y2⟩
            · exact n2 e
            · exact hsep o1 b rfl ⟨k, u, z2, Sl.mut_of_own o2, y2⟩
          · exact n rfl
      · rcases set_get e2 with ⟨rfl, z2⟩ | ⟨n2, z2⟩
        · cases z2
          rcases set_get h2 with ⟨_, y2⟩ | ⟨n, _⟩
          · cases y2
            rcases set_get h1 with ⟨e, _⟩ | ⟨_, y1⟩
            · exact n1 e
            · exact hsep o2 b rfl ⟨j, t, z1, Sl.mut_of_own o1, y1⟩
          · exact n rfl
        · rcases set_get h1 with ⟨e, _⟩ | ⟨_, y1⟩
          · exact n1 e
          · rcases set_get h2 with ⟨e, _⟩ | ⟨_, y2⟩
            · exact n2 e
            · exact E.sep j k t u b hjk z1 z2 o1 o2 y1 y2
    · obtain ⟨h1, ⟨kvs, h2⟩, h3⟩ := E.io b hb
      have hi : i ≠ 0 := fun z => hn ⟨z, by unfold noIo; rw [h2]⟩
      exact ⟨by rw [List.getElem?_set_ne hi]; exact h1, ⟨kvs, by rw [List.getElem?_set_ne hi]; exact h2⟩, h3⟩
    · rcases set_get e with ⟨rfl, e2⟩ | ⟨hne, e2⟩
      · exact absurd (Option.some.inj e2).symm (hio kvs)
      · exact E.io1 j kvs e2
theorem En.putFr (E : En K F H0 H σ ρ) (hs : Da K H0 v d) {ρ' : Rho} (h : putR i (.fr d) ρ = some ρ') : En K F H0 H (σ.set i (some v)) ρ' := E.put (s := .fr d) hs (fun _ z => nomatch z) (fun z => nomatch z) h

/-- a list of one's own is changed -/
theorem En.mutL (E : En K F H0 H σ ρ) {ds ds' : List Dt} {vs' : List V} (hi : ρ[i]? = some (some (.ol ds))) (hv : σ[i]? = some (some (.ref a))) (hd : DaAll K H0 vs' ds') :
    En K F H0 (upd H a (.lst vs')) σ (ρ.set i (some (.ol ds'))) := by
  obtain ⟨v, h1, b, vs, rfl, h3, h4, h5, h6⟩ := E.sl i _ hi
  rw [hv] at h1
  cases h1
  have hli : i < ρ.length := lt_of_get hi
  have h0i : F.io ≠ some a := fun z => (E.io a z).2.2 h4
  have kp : ∀ b o, H b = some o → b ≠ a → upd H a (.lst vs') b = some o := fun b o hb n => by
    rw [upd_ne n]
    exact hb
  refine ⟨⟨E.gr.b0, fun b o hb nt hi => ?_, E.gr.off, fun b hb => ?_⟩, tab_away E.tb (fun b o hb n1 _ => kp b o hb fun z => n1 vs (by rw [z, h5] at hb; exact (Option.some.inj hb).symm)) (fun b _ h0 _ _ => h0), fun b u hb => ?_, by rw [List.length_set]; exact E.len, fun j t e => ?_, fun j k t u b hjk e1 e2 o1 o2 y1 y2 => ?_, fun b hb => ?_, fun j kvs e => ?_⟩
  · have : b ≠ a := fun z => by
      rw [z, h4] at hb
      cases hb
    rw [upd_ne this]
    exact E.gr.keep b o hb nt hi
  · by_cases z : b = a
    · rw [z, upd_same]
      exact fun z => nomatch z
    · rw [upd_ne z]
      exact E.gr.st b hb
  · have : b ≠ a := fun z => by
      rw [z, h3] at hb
      cases hb
    rw [upd_ne this]
    exact E.ex b u hb
  · rcases set_get e with ⟨rfl, z⟩ | ⟨hne, z⟩
    · cases z
      exact ⟨_, hv, a, vs', rfl, h3, h4, upd_same, hd⟩
    · obtain ⟨w, y1, y2⟩ := E.sl j t z
      refine ⟨w, y1, ?_⟩
      cases t with
      | fr d => exact y2
      | ol es =>
        obtain ⟨c, us, rfl, q1, q2, q3, q4⟩ := y2
        have : c ≠ a := fun z' => E.sep j i _ _ a hne z hi rfl rfl (z' ▸ y1) hv
        exact ⟨c, us, rfl, q1, q2, by rw [upd_ne this]; exact q3, q4⟩
      | od es =>
        obtain ⟨c, us, rfl, q1, q2, q3, q4⟩ := y2
        have : c ≠ a := fun z' => E.sep j i _ _ a hne z hi rfl rfl (z' ▸ y1) hv
        exact ⟨c, us, rfl, q1, q2, by rw [upd_ne this]; exact q3, q4⟩
      | raw w _ => exact y2
      | io es =>
        obtain ⟨c, us, rfl, q1, q2, q3, q4⟩ := y2
        have : c ≠ a := fun z' => h0i (z' ▸ q2)
        exact ⟨c, us, rfl, q1, q2, by rw [upd_ne this]; exact q3, q4⟩
  · have own : ∀ (j : Nat) (t : Sl), (ρ.set i (some (.ol ds')))[j]? = some (some t) → t.own = true → ∃ t', ρ[j]? = some (some t') ∧ t'.own = true := fun j t e o => by
      rcases set_get e with ⟨rfl, z⟩ | ⟨_, z⟩
      · exact ⟨_, hi, rfl⟩
      · exact ⟨t, z, o⟩
    obtain ⟨t', q1, q2⟩ := own j t e1 o1
    obtain ⟨u', q3, q4⟩ := own k u e2 o2
    exact E.sep j k t' u' b hjk q1 q3 q2 q4 y1 y2
  · obtain ⟨y1, ⟨kvs, y2⟩, y3⟩ := E.io b hb
    have hi0 : i ≠ 0 := fun z => by
      subst z
      rw [hi] at y2
      cases y2
    exact ⟨y1, ⟨kvs, by rw [List.getElem?_set_ne hi0]; exact y2⟩, y3⟩
  · rcases set_get e with ⟨rfl, e2⟩ | ⟨hne, e2⟩
    · cases e2
    · exact E.io1 j kvs e2
/-- a dict of one's own, or the one that was handed in, is changed (by the base's growth, too) -/
theorem En.mutD (E : En K F H0 H σ ρ) {s s' : Sl} {ks' : List (Key × V)} {kvs' : List (Key × Dt)} (hi : ρ[i]? = some (some s)) (hv : σ[i]? = some (some (.ref a)))
    (hk : (∃ kvs, s = .od kvs ∧ s' = .od kvs') ∨ (∃ kvs, s = .io kvs ∧ s' = .io kvs'))
    (g : Gw ⟨H0, H, some a⟩ H0' H') (tt : TbOk K H0' H') (e : Same H0' H') (ha : H' a = some (.dK ks')) (hd : DaKv K H0' ks' kvs') :
    En K F H0' H' σ (ρ.set i (some s')) := by
  obtain ⟨v, h1, hsl⟩ := E.sl i _ hi
  rw [hv] at h1
  cases h1
  have hli : i < ρ.length := lt_of_get hi
  have hmut : s.mut = true := by rcases hk with ⟨_, rfl, _⟩ | ⟨_, rfl, _⟩ <;> rfl
  have hA : H0 a = none ∧ (∃ ks, H a = some (.dK ks)) ∧ ((F.H a = none ∧ s.own = true) ∨ F.io = some a) := by
    rcases hk with ⟨_, rfl, _⟩ | ⟨_, rfl, _⟩
    · obtain ⟨b, ks, e', q1, q2, q3, q4⟩ := hsl
      cases e'
      exact ⟨q1, ⟨ks, q3⟩, .inl ⟨q2, rfl⟩⟩
    · obtain ⟨b, ks, e', q1, q2, q3, q4⟩ := hsl
      cases e'
      exact ⟨q1, ⟨ks, q3⟩, .inr q2⟩
  obtain ⟨h3, ⟨ks, h5⟩, h4⟩ := hA
  have h3' : H0' a = none := g.off a (by show H a ≠ none; rw [h5]; exact fun z => nomatch z) h3
  have keep : ∀ b o, b ≠ a → NT o → H b = some o → H' b = some o := fun b o hb n q => g.keep b o q n fun z => hb (Option.some.inj z).symm
  have own : ∀ (j : Nat) (t : Sl), (ρ.set i (some s'))[j]? = some (some t) → t.own = true → ∃ t', ρ[j]? = some (some t') ∧ t'.own = true := fun j t e o => by
    rcases set_get e with ⟨rfl, z⟩ | ⟨_, z⟩
    · cases z
      refine ⟨_, hi, ?_⟩
      rcases hk with ⟨_, rfl, _⟩ | ⟨_, _, rfl⟩
      · rfl
      · cases o
    · exact ⟨t, z, o⟩
  refine ⟨⟨E.gr.b0.trans g.b0, fun b o hb nt hio => ?_, fun b hb h0 => ?_, fun b hb => g.st b (E.gr.st b hb)⟩, tt, e, by rw [List.length_set]; exact E.len, fun j t e1 => ?_, fun j k t u b hjk e1 e2 o1 o2 y1 y2 => ?_, fun b hb => ?_, fun j kvs e1 => ?_⟩
  · have : b ≠ a := fun z => by
      subst z
      rcases h4 with ⟨q, _⟩ | q
      · rw [q] at hb
        cases hb
      · exact hio q
    exact keep b o this nt (E.gr.keep b o hb nt hio)
  · exact g.off b (E.still hb) (E.gr.off b hb h0)
  · rcases set_get e1 with ⟨rfl, z⟩ | ⟨hne, z⟩
    · cases z
      refine ⟨_, hv, ?_⟩
      rcases hk with ⟨_, rfl, rfl⟩ | ⟨_, rfl, rfl⟩
      · rcases h4 with ⟨q, _⟩ | q
        · exact ⟨a, ks', rfl, h3', q, ha, hd⟩
        · obtain ⟨b, ks, e', q1, q2, q3, q4⟩ := hsl
          cases e'
          exact ⟨a, ks', rfl, h3', q2, ha, hd⟩
      · obtain ⟨b, ks, e', q1, q2, q3, q4⟩ := hsl
        cases e'
        exact ⟨a, ks', rfl, h3', q2, ha, hd⟩
    · obtain ⟨w, y1, y2⟩ := E.sl j t z
      refine ⟨w, y1, ?_⟩
      have away : ∀ c, w = .ref c → t.mut = true → F.H c = none ∨ F.io = some c → t.own = true ∨ (∃ k, t = .io k) → c ≠ a := fun c ec tm hc ht z' => by
        subst ec z'
        rcases h4 with ⟨q, so⟩ | q
        · rcases ht with ht | ⟨k, rfl⟩
          · exact E.sep j i _ _ c hne z hi ht so y1 hv
          · obtain ⟨c', us, e', q1, q2, _⟩ := y2
            cases e'
            exact (E.io c q2).2.2 q
        · obtain ⟨x1, ⟨kv, x2⟩, x3⟩ := E.io c q
          rcases ht with ht | ⟨k, rfl⟩
          · have : F.H c = none := by
              cases t with
              | fr d => cases ht
              | ol es => obtain ⟨c', us, e', q1, q2, _⟩ := y2; cases e'; exact q2
              | od es => obtain ⟨c', us, e', q1, q2, _⟩ := y2; cases e'; exact q2
              | raw w _ => cases ht
              | io es => cases ht
            exact x3 this
          · -- both io: the same slot
            have hj0 : s.own = false ∨ s.own = true := by cases s.own <;> simp
            rcases hk with ⟨_, rfl, rfl⟩ | ⟨_, rfl, rfl⟩
            · obtain ⟨b, ks, e', q1, q2, q3, q4⟩ := hsl
              cases e'
              exact x3 q2
            · exact hne ((E.io1 j k z).trans (E.io1 i _ hi).symm)
      cases t with
      | fr d => exact Da.mono g.b0 y2
      | ol es =>
        obtain ⟨c, us, rfl, q1, q2, q3, q4⟩ := y2
        exact ⟨c, us, rfl, g.off c (by show H c ≠ none; rw [q3]; exact fun z => nomatch z) q1, q2, keep c _ (away c rfl rfl (.inl q2) (.inl rfl)) (nt_lst _) q3, q4.mono g.b0⟩
      | od es =>
        obtain ⟨c, us, rfl, q1, q2, q3, q4⟩ := y2
        exact ⟨c, us, rfl, g.off c (by show H c ≠ none; rw [q3]; exact fun z => nomatch z) q1, q2, keep c _ (away c rfl rfl (.inl q2) (.inl rfl)) (nt_dK _) q3, q4.mono g.b0⟩
      | raw w _ => exact y2
      | io es =>
        obtain ⟨c, us, rfl, q1, q2, q3, q4⟩ := y2
        exact ⟨c, us, rfl, g.off c (by show H c ≠ none; rw [q3]; exact fun z => nomatch z) q1, q2, keep c _ (away c rfl rfl (.inr q2) (.inr ⟨_, rfl⟩)) (nt_dK _) q3, q4.mono g.b0⟩
  · obtain ⟨t', q1, q2⟩ := own j t e1 o1
    obtain ⟨u', q3, q4⟩ := own k u e2 o2
    exact E.sep j k t' u' b hjk q1 q3 q2 q4 y1 y2
  · obtain ⟨y1, ⟨kvs, y2⟩, y3⟩ := E.io b hb
    by_cases hi0 : i = 0
    · subst hi0
      rw [hi] at y2
      cases y2
      rcases hk with ⟨_, q, _⟩ | ⟨_, _, rfl⟩
      · cases q
      · exact ⟨y1, ⟨kvs', List.getElem?_set_self hli⟩, y3⟩
    · exact ⟨y1, ⟨kvs, by rw [List.getElem?_set_ne hi0]; exact y2⟩, y3⟩
  · rcases set_get e1 with ⟨rfl, e2⟩ | ⟨hne, e2⟩
    · cases e2
      rcases hk with ⟨_, rfl, q⟩ | ⟨_, rfl, q⟩
      · cases q
      · exact E.io1 _ _ hi
    · exact E.io1 j kvs e2
end
end DW

set_option Elab.async false
set_option linter.all false
set_option maxRecDepth 100000
set_option maxHeartbeats 4000000
/-! DW3: expressions over data -/
namespace DW
open PySem L2

/-! ### data as the library's data -/
mutual
def toPy : Dt → PyData
  | .non => .none
  | .bl b => .bool b
  | .int i => .int i
  | .str x => .str x
  | .lst xs => .list (toPyAll xs)
  | .tup xs => .tuple (toPyAll xs)
  | .dct kvs => .dict (toPyKv kvs)
  | .scr ns => .list (ns.map PyData.int)
  | .xo _ _ _ => .none
def toPyAll : List Dt → List PyData
  | [] => []
  | d :: ds => toPy d :: toPyAll ds
def toPyKv : List (Key × Dt) → List (PyData × PyData)
  | [] => []
  | (k, d) :: ds => ((match k with | .inl i => .int i | .inr x => .str x), toPy d) :: toPyKv ds
end
theorem toPyAll_map : ∀ ds : List Dt, toPyAll ds = ds.map toPy
  | [] => by simp [toPyAll]
  | d :: ds => by simp [toPyAll, toPyAll_map ds]
mutual
/-- no dict within -/
def plainD : Dt → Bool
  | .lst xs => plainAll xs
  | .tup xs => plainAll xs
  | .dct _ => false
  | .non => true
  | .bl _ => true
  | .int _ => true
  | .str _ => true
  | .scr _ => true
  | .xo _ _ _ => false
def plainAll : List Dt → Bool
  | [] => true
  | d :: ds => plainD d && plainAll ds
end
theorem dpInts {K : PySem.W.Frag} {H : Hp} : ∀ ns : List Int, DpAll K H (ns.map V.int) (ns.map PyData.int)
  | [] => .nil
  | n :: ns => .cons (.int n) (dpInts ns)
mutual
theorem Da.dp {K : PySem.W.Frag} {H : Hp} : ∀ {v : V} {d : Dt}, Da K H v d → plainD d = true → Dp K H v (toPy d)
  | _, _, .non, _ => .non
  | _, _, .bl b, _ => .bl b
  | _, _, .int i, _ => .int i
  | _, _, .str x, _ => .str x
  | _, _, .lst h1 h2, p => .lst (SqL.of h1) (DaAll.dp h2 (by simpa [plainD] using p))
  | _, _, .tup h1 h2, p => .tup h1 (DaAll.dp h2 (by simpa [plainD] using p))
  | _, _, .dct _ _, p => by simp [plainD] at p
  | _, _, .scr h, _ => .lst h (dpInts _)
  | _, _, .xo _ _ _ _, p => by simp [plainD] at p
  | _, _, .xb _ _, p => by simp [plainD] at p
theorem DaAll.dp {K : PySem.W.Frag} {H : Hp} : ∀ {v : List V} {d : List Dt}, DaAll K H v d → plainAll d = true → DpAll K H v (toPyAll d)
  | _, _, .nil, _ => .nil
  | _, _, .cons h1 h2, p => by
    simp only [plainAll, Bool.and_eq_true] at p
    exact .cons (Da.dp h1 p.1) (DaAll.dp h2 p.2)
end
def shp (d : Dt) : Bool := plainD d && SeqAt.shaped (toPy d)
def eqt (d e : Dt) : Bool := PyData.eqv (toPy d) (toPy e)

section
variable {K : PySem.W.Frag} {F : Fm} {H0 H H0' H' : Hp} {σ : L2.St} {ρ : Rho} {v : V} {d : Dt} {s : Sl} {i : Nat} {a p : Addr} {o : HO}
/-! ### freezing a slot -/
theorem En.frz (E : En K F H0 H σ ρ) {o : HO} {dd : Dt} (hi : ρ[i]? = some (some s)) (hs : s.own = true) (hv : σ[i]? = some (some (.ref a))) (h0 : H0 a = none) (hF : F.H a = none) (hH : H a = some o) (nt : NT o)
    (hd : Da K (upd H0 a o) (.ref a) dd) : En K F (upd H0 a o) H σ (ρ.set i (some (.fr dd))) ∧ Mv σ ρ (ρ.set i (some (.fr dd))) H0 H (upd H0 a o) H := by
  have sm : Same H0 (upd H0 a o) := fun b u hb => by
    rw [upd_ne (ne_of_none hb h0)]
    exact hb
  have owner : ∀ (j : Nat) (t : Sl), (ρ.set i (some (.fr dd)))[j]? = some (some t) → t.mut = true → j ≠ i ∧ ρ[j]? = some (some t) := fun j t e m => by
    rcases set_get e with ⟨rfl, z⟩ | ⟨hne, z⟩
    · cases z
      cases m
    · exact ⟨hne, z⟩
  have na : ∀ p ∈ tT K, p.1 ≠ a := fun p hp z => by
    obtain ⟨_, ps, h2, _⟩ := E.tb p hp
    rw [z, hH] at h2
    exact nt ps (Option.some.inj h2)
  refine ⟨⟨⟨E.gr.b0.trans sm, E.gr.keep, fun b hb h => ?_, E.gr.st⟩, fun p hp => ⟨by rw [upd_ne (na p hp)]; exact (E.tb p hp).1, (E.tb p hp).2⟩, fun b u hb => ?_, by rw [List.length_set]; exact E.len, fun j t e => ?_, fun j k t u b hjk e1 e2 o1 o2 y1 y2 => ?_, fun b hb => ?_, fun j kvs e => ?_⟩, ⟨sm, fun b u hb _ _ => hb, fun b hb h hn => ?_, fun b ⟨j, t, e, m, y⟩ => ?_, fun _ h => h⟩⟩
  · have : b ≠ a := fun z => hb (z ▸ hF)
    rw [upd_ne this]
    exact E.gr.off b hb h
  · by_cases hba : b = a
    · subst hba
      rw [upd_same] at hb
      cases hb
      exact hH
    · rw [upd_ne hba] at hb
      exact E.ex b u hb
  · rcases set_get e with ⟨rfl, z⟩ | ⟨hne, z⟩
    · cases z
      exact ⟨_, hv, hd⟩
    · obtain ⟨w, y1, y2⟩ := E.sl j t z
      refine ⟨w, y1, ?_⟩
      cases t with
      | fr d => exact Da.mono sm y2
      | ol es =>
        obtain ⟨c, us, rfl, q1, q2, q3, q4⟩ := y2
        have : c ≠ a := fun z' => E.sep j i _ _ a hne z hi rfl hs (z' ▸ y1) hv
        exact ⟨c, us, rfl, by rw [upd_ne this]; exact q1, q2, q3, q4.mono sm⟩
      | od es =>
        obtain ⟨c, us, rfl, q1, q2, q3, q4⟩ := y2
        have : c ≠ a := fun z' => E.sep j i _ _ a hne z hi rfl hs (z' ▸ y1) hv
        exact ⟨c, us, rfl, by rw [upd_ne this]; exact q1, q2, q3, q4.mono sm⟩
      | raw w _ => exact y2
      | io es =>
        obtain ⟨c, us, rfl, q1, q2, q3, q4⟩ := y2
        have : c ≠ a := fun z' => (E.io c q2).2.2 (z' ▸ hF)
        exact ⟨c, us, rfl, by rw [upd_ne this]; exact q1, q2, q3, q4.mono sm⟩
  · obtain ⟨_, q1⟩ := owner j t e1 (Sl.mut_of_own o1)
    obtain ⟨_, q2⟩ := owner k u e2 (Sl.mut_of_own o2)
    exact E.sep j k t u b hjk q1 q2 o1 o2 y1 y2
  · obtain ⟨y1, ⟨kvs, y2⟩, y3⟩ := E.io b hb
    have hi0 : i ≠ 0 := fun z => by
      subst z
      rw [hi] at y2
      cases y2
      cases hs
    exact ⟨y1, ⟨kvs, by rw [List.getElem?_set_ne hi0]; exact y2⟩, y3⟩
  · rcases set_get e with ⟨rfl, e2⟩ | ⟨hne, e2⟩
    · cases e2
    · exact E.io1 j kvs e2
  · have : b ≠ a := fun z => hn ⟨i, s, hi, Sl.mut_of_own hs, z ▸ hv⟩
    rw [upd_ne this]
    exact h
  · exact ⟨j, t, (owner j t e m).2, m, y⟩
end

/-! ### expressions -/
def cst (d : Dt) : Rho → R Dt := fun ρ => .ok d ρ
def var (i : Nat) : Rho → R Dt := fun ρ => match (ρ[i]? : Option (Option Sl)) with
  | some (some (.fr d)) => .ok d ρ
  | some (some (.ol xs)) => .ok (.lst xs) (ρ.set i (some (.fr (.lst xs))))
  | some (some (.od kvs)) => .ok (.dct kvs) (ρ.set i (some (.fr (.dct kvs))))
  | _ => .bad
def bin (g : Dt → Dt → Option Dt) (f1 f2 : Rho → R Dt) : Rho → R Dt := fun ρ => (f1 ρ).bind fun d ρ1 => (f2 ρ1).bind fun e ρ2 => match g d e with
  | some z => .ok z ρ2
  | none => .bad
def un (g : Dt → Option Dt) (f1 : Rho → R Dt) : Rho → R Dt := fun ρ => (f1 ρ).bind fun d ρ1 => match g d with
  | some z => .ok z ρ1
  | none => .bad
/-- a name's own object, read where it stands -/
def pk (i : Nat) (ρ : Rho) : Option Dt := match (ρ[i]? : Option (Option Sl)) with
  | some (some (.fr d)) => some d
  | some (some (.ol xs)) => some (.lst xs)
  | some (some (.od kvs)) => some (.dct kvs)
  | some (some (.io kvs)) => some (.dct kvs)
  | _ => none
def pkF (i : Nat) : Rho → R Dt := fun ρ => match pk i ρ with
  | some d => .ok d ρ
  | none => .bad
/-- the name stands first, its object is read when all is there -/
def binP (g : Dt → Dt → Option Dt) (i : Nat) (f2 : Rho → R Dt) : Rho → R Dt := fun ρ => match pk i ρ with
  | none => .bad
  | some _ => (f2 ρ).bind fun e ρ2 => match pk i ρ2 with
    | some d => match g d e with
      | some z => .ok z ρ2
      | none => .bad
    | none => .bad
/-- what is read of a container -/
def Pk (K : PySem.W.Frag) (H0 H : Hp) (v : V) : Dt → Prop
  | .lst ds => ∃ a vs, v = .ref a ∧ H a = some (.lst vs) ∧ DaAll K H0 vs ds
  | .dct kvs => ∃ a ks, v = .ref a ∧ H a = some (.dK ks) ∧ DaKv K H0 ks kvs
  | d => Da K H0 v d
def tK (g : Gx) (F : Fm) (W : WX) (f : Rho → R Dt) : TE := fun σ H Q => ∃ H0 ρ, En g.K F H0 H σ ρ ∧ match f ρ with
  | .ok d ρ' => ∀ v H0' H', En g.K F H0' H' σ ρ' → Mv σ ρ ρ' H0 H H0' H' → Pk g.K H0' H' v d → Q v H'
  | .ex e ρ' => XW g F W σ e ρ'
  | .bad => False
def DK (X : Cx) (W : WX) (e : Expr) (f : Rho → R Dt) : Prop := ∀ F, PE X e (tK (gx X) F W f)
/-- of the data of two things, the base's data of a new one -/
def OpD (K : PySem.W.Frag) (r : R2) (g : Dt → Dt → Option Dt) : Prop := ∀ x y d e z H0 H, Same H0 H → Pk K H0 H x d → Pk K H0 H y e → g d e = some z → ∀ Q : VK, (∀ v H0' H', Gr ⟨H0, H, none⟩ H0' H' → Same H0' H' → Da K H0' v z → Q v H') → r x y H Q
def UnD (K : PySem.W.Frag) (r : V → Hp → VK → Prop) (g : Dt → Option Dt) : Prop := ∀ x d z H0 H, Same H0 H → Pk K H0 H x d → g d = some z → ∀ Q : VK, (∀ v H0' H', Gr ⟨H0, H, none⟩ H0' H' → Same H0' H' → Da K H0' v z → Q v H') → r x H Q

section
variable {K : PySem.W.Frag} {F : Fm} {H0 H H0' H' : Hp} {σ : L2.St} {ρ : Rho} {v : V} {d : Dt} {s : Sl} {i : Nat} {a p : Addr} {o : HO} {g : Gx} {W : WX}
theorem Da.pk (e : Same H0 H) (h : Da K H0 v d) : Pk K H0 H v d := by
  cases d with
  | lst ds =>
    cases h with
    | lst h1 h2 => exact ⟨_, _, rfl, e _ _ h1, h2⟩
  | dct ds =>
    cases h with
    | dct h1 h2 => exact ⟨_, _, rfl, e _ _ h1, h2⟩
  | _ => exact h
theorem Pk.up (e : Same H0 H) (h : Pk K H0 H v d) : Da K H v d := by
  cases d with
  | lst ds =>
    obtain ⟨a, vs, rfl, h1, h2⟩ := h
    exact .lst h1 (h2.mono e)
  | dct ds =>
    obtain ⟨a, vs, rfl, h1, h2⟩ := h
    exact .dct h1 (h2.mono e)
  | non => exact Da.mono e h
  | bl _ => exact Da.mono e h
  | int _ => exact Da.mono e h
  | str _ => exact Da.mono e h
  | tup _ => exact Da.mono e h
  | scr _ => exact Da.mono e h
  | xo _ _ _ => exact Da.mono e h
theorem pk_at (E : En K F H0 H σ ρ) (h : pk i ρ = some d) : ∃ v, σ[i]? = some (some v) ∧ Pk K H0 H v d := by
  unfold pk at h
  split at h
  · rename_i e
    cases h
    obtain ⟨v, h1, h2⟩ := E.sl i _ e
    exact ⟨v, h1, Da.pk E.ex h2⟩
  · rename_i e
    cases h
    obtain ⟨v, h1, a, vs, rfl, h2, h3, h4, h5⟩ := E.sl i _ e
    exact ⟨_, h1, a, vs, rfl, h4, h5⟩
  · rename_i e
    cases h
    obtain ⟨v, h1, a, vs, rfl, h2, h3, h4, h5⟩ := E.sl i _ e
    exact ⟨_, h1, a, vs, rfl, h4, h5⟩
  · rename_i e
    cases h
    obtain ⟨v, h1, a, vs, rfl, h2, h3, h4, h5⟩ := E.sl i _ e
    exact ⟨_, h1, a, vs, rfl, h4, h5⟩
  · cases h
theorem tD_var (h : tD g F W (var i) σ H Q) : tVar i σ H Q := by
  obtain ⟨H0, ρ, E, q⟩ := h
  unfold var at q
  split at q
  · rename_i d ρ' e0
    split at e0
    · rename_i e
      cases e0
      obtain ⟨v, h1, h2⟩ := E.sl i _ e
      exact ⟨v, h1, q v H0 H E Mv.refl h2⟩
    · rename_i e
      cases e0
      obtain ⟨v, h1, a, vs, rfl, h2, h3, h4, h5⟩ := E.sl i _ e
      have sm : Same H0 (upd H0 a (.lst vs)) := fun b u hb => by
        rw [upd_ne (ne_of_none hb h2)]
        exact hb
      have hd : Da g.K (upd H0 a (.lst vs)) (.ref a) (.lst _) := .lst upd_same (h5.mono sm)
      obtain ⟨q1, q2⟩ := E.frz e rfl h1 h2 h3 h4 (nt_lst _) hd
      exact ⟨_, h1, q _ _ _ q1 q2 hd⟩
    · rename_i e
      cases e0
      obtain ⟨v, h1, a, vs, rfl, h2, h3, h4, h5⟩ := E.sl i _ e
      have sm : Same H0 (upd H0 a (.dK vs)) := fun b u hb => by
        rw [upd_ne (ne_of_none hb h2)]
        exact hb
      have hd : Da g.K (upd H0 a (.dK vs)) (.ref a) (.dct _) := .dct upd_same (h5.mono sm)
      obtain ⟨q1, q2⟩ := E.frz e rfl h1 h2 h3 h4 (nt_dK _) hd
      exact ⟨_, h1, q _ _ _ q1 q2 hd⟩
    · cases e0
  · rename_i e0
    split at e0 <;> cases e0
  · exact q.elim
theorem tK_pk (h : tK g F W (pkF i) σ H Q) : tVar i σ H Q := by
  obtain ⟨H0, ρ, E, q⟩ := h
  unfold pkF at q
  cases e : pk i ρ with
  | none =>
    rw [e] at q
    exact q.elim
  | some d =>
    rw [e] at q
    obtain ⟨v, h1, h2⟩ := pk_at E e
    exact ⟨v, h1, q v H0 H E Mv.refl h2⟩
/-- what came behind a Gr -/
theorem En.post {ρ1 : Rho} {B0 B : Hp} (E : En K F H0 H σ ρ1) (m : Mv σ ρ ρ1 B0 B H0 H) (g : Gr ⟨H0, H, none⟩ H0' H') (e : Same H0' H') : En K F H0' H' σ ρ1 ∧ Mv σ ρ ρ1 B0 B H0' H' := ⟨E.grow g e, m.trans g.mv⟩
theorem En.postW {ρ1 : Rho} {B0 B : Hp} (E : En K F H0 H σ ρ1) (m : Mv σ ρ ρ1 B0 B H0 H) (g : Gw ⟨H0, H, none⟩ H0' H') (t : TbOk K H0' H') (e : Same H0' H') : En K F H0' H' σ ρ1 ∧ Mv σ ρ ρ1 B0 B H0' H' := ⟨E.growW g t e, m.trans g.mv⟩
theorem tK_of (h : tK g F W f σ H Q) : tD g F W f σ H Q := by
  obtain ⟨H0, ρ, E, q⟩ := h
  refine ⟨H0, ρ, E, ?_⟩
  cases e : f ρ with
  | ok d ρ' =>
    rw [e] at q
    exact fun v H0' H' E' m hd => q v H0' H' E' m (Da.pk E'.ex hd)
  | ex x ρ' =>
    rw [e] at q
    exact q
  | bad =>
    rw [e] at q
    exact q
theorem tOp_bin {r : R2} {gg : Dt → Dt → Option Dt} {f1 f2 : Rho → R Dt} (hr : OpD g.K r gg) {σ : L2.St} {H : Hp} {Q : VK} (h : tD g F W (bin gg f1 f2) σ H Q) : tOp r (tD g F W f1) (tK g F W f2) σ H Q := by
  obtain ⟨H0, ρ, E, q⟩ := h
  unfold bin at q
  refine ⟨H0, ρ, E, ?_⟩
  cases e1 : f1 ρ with
  | ok d ρ1 =>
    rw [e1] at q
    intro x H1 B1 E1 m1 d1
    refine ⟨H1, ρ1, E1, ?_⟩
    dsimp only [R.bind] at q
    cases e2 : f2 ρ1 with
    | ok e ρ2 =>
      rw [e2] at q
      intro y H2 B2 E2 m2 d2
      dsimp only [R.bind] at q
      cases e3 : gg d e with
      | some z =>
        rw [e3] at q
        refine hr x y d e z H2 B2 E2.ex (Da.pk E2.ex (d1.mono m2.b0)) d2 e3 Q fun v H3 B3 g3 s3 d3 => ?_
        obtain ⟨q1, q2⟩ := E2.post (m1.trans m2) g3 s3
        exact q v H3 B3 q1 q2 d3
      | none =>
        rw [e3] at q
        exact q.elim
    | ex x ρ' =>
      rw [e2] at q
      exact q
    | bad =>
      rw [e2] at q
      exact q
  | ex x ρ' =>
    rw [e1] at q
    exact q
  | bad =>
    rw [e1] at q
    exact q
theorem tOp_binP {r : R2} {gg : Dt → Dt → Option Dt} {f2 : Rho → R Dt} (hr : OpD g.K r gg) {σ : L2.St} {H : Hp} {Q : VK} (h : tD g F W (binP gg i f2) σ H Q) : tOp r (tVar i) (tK g F W f2) σ H Q := by
  obtain ⟨H0, ρ, E, q⟩ := h
  unfold binP at q
  cases e1 : pk i ρ with
  | none =>
    rw [e1] at q
    exact q.elim
  | some d0 =>
    rw [e1] at q
    obtain ⟨x, hx, _⟩ := pk_at E e1
    refine ⟨x, hx, H0, ρ, E, ?_⟩
    dsimp only [R.bind] at q
    cases e2 : f2 ρ with
    | ok e ρ2 =>
      rw [e2] at q
      intro y H2 B2 E2 m2 d2
      dsimp only [R.bind] at q
      cases e3 : pk i ρ2 with
      | none =>
        rw [e3] at q
        exact q.elim
      | some d =>
        rw [e3] at q
        dsimp only at q
        obtain ⟨x', hx', px⟩ := pk_at E2 e3
        rw [hx] at hx'
        cases hx'
        cases e4 : gg d e with
        | some z =>
          rw [e4] at q
          refine hr x y d e z H2 B2 E2.ex px d2 e4 Q fun v H3 B3 g3 s3 d3 => ?_
          obtain ⟨q1, q2⟩ := E2.post m2 g3 s3
          exact q v H3 B3 q1 q2 d3
        | none =>
          rw [e4] at q
          exact q.elim
    | ex x ρ' =>
      rw [e2] at q
      exact q
    | bad =>
      rw [e2] at q
      exact q
theorem tUn_un {r : V → Hp → VK → Prop} {gg : Dt → Option Dt} {f1 : Rho → R Dt} (hr : UnD g.K r gg) {σ : L2.St} {H : Hp} {Q : VK} (h : tD g F W (un gg f1) σ H Q) : tUn r (tK g F W f1) σ H Q := by
  obtain ⟨H0, ρ, E, q⟩ := h
  unfold un at q
  refine ⟨H0, ρ, E, ?_⟩
  cases e1 : f1 ρ with
  | ok d ρ1 =>
    rw [e1] at q
    intro x H1 B1 E1 m1 d1
    dsimp only [R.bind] at q
    cases e3 : gg d with
    | some z =>
      rw [e3] at q
      refine hr x d z H1 B1 E1.ex d1 e3 Q fun v H3 B3 g3 s3 d3 => ?_
      obtain ⟨q1, q2⟩ := E1.post m1 g3 s3
      exact q v H3 B3 q1 q2 d3
    | none =>
      rw [e3] at q
      exact q.elim
  | ex x ρ' =>
    rw [e1] at q
    exact q
  | bad =>
    rw [e1] at q
    exact q
end
end DW

set_option Elab.async false
set_option linter.all false
set_option maxRecDepth 100000
set_option maxHeartbeats 4000000
/-! DW4: operators over data -/
namespace DW
open PySem L2

section
variable {K : PySem.W.Frag} {F : Fm} {H0 H H0' H' : Hp} {v : V} {d : Dt} {Q : VK}
theorem al_lst {zs : List V} {ds : List Dt} (e : Same H0 H) (hd : DaAll K H0 zs ds) (k : ∀ v H0' H', Gr ⟨H0, H, none⟩ H0' H' → Same H0' H' → Da K H0' v (.lst ds) → Q v H') : ∀ p, H p = none → Q (.ref p) (upd H p (.lst zs)) :=
  fun p hp => k _ _ _ (gr_new hp e) (same_new hp e) (.lst upd_same (hd.mono (gr_new (o := .lst zs) hp e).b0))
theorem al_tup {zs : List V} {ds : List Dt} (e : Same H0 H) (hd : DaAll K H0 zs ds) (k : ∀ v H0' H', Gr ⟨H0, H, none⟩ H0' H' → Same H0' H' → Da K H0' v (.tup ds) → Q v H') : ∀ p, H p = none → Q (.ref p) (upd H p (.tup zs)) :=
  fun p hp => k _ _ _ (gr_new hp e) (same_new hp e) (.tup (SqT.of upd_same) (hd.mono (gr_new (o := .tup zs) hp e).b0))
theorem sc (e : Same H0 H) (hd : Da K H0 v d) (k : ∀ v H0' H', Gr ⟨H0, H, none⟩ H0' H' → Same H0' H' → Da K H0' v d → Q v H') : Q v H := k v H0 H (Gr.refl H0 H none) e hd
end

section
variable {X : Cx}
theorem opr_or {f : Value → Value → Sem Value} {r r' : R2} (h : OpR X f r) (h' : OpR X f r') : OpR X f (fun x y H Q => r x y H Q ∨ r' x y H Q) := by
  intro pins s σ H x y v u Q I rx ry q
  rcases q with q | q
  · exact h pins s σ H x y v u Q I rx ry q
  · exact h' pins s σ H x y v u Q I rx ry q
theorem callr_or {f : Value} {r r' : List V → Hp → VK → Prop} (h : CallR X f r) (h' : CallR X f r') : CallR X f (fun x H Q => r x H Q ∨ r' x H Q) := by
  intro pins s σ H x v Q I rx q
  rcases q with q | q
  · exact h pins s σ H x v Q I rx q
  · exact h' pins s σ H x v Q I rx q

/-! ### + -/
def addD : Dt → Dt → Option Dt
  | .int a, .int b => some (.int (a + b))
  | .str a, .str b => if a.length + b.length ≤ 1000000 then some (.str (a ++ b)) else none
  | .lst a, .lst b => if a.length + b.length ≤ 1000000 then some (.lst (a ++ b)) else none
  | .tup a, .tup b => if a.length + b.length ≤ 1000000 then some (.tup (a ++ b)) else none
  | _, _ => none
def rAddA (K : PySem.W.Frag) : R2 := fun x y H Q => rI0 (fun i j => .int (i + j)) x y H Q ∨ (∃ i j, x = .str i ∧ y = .str j ∧ i.length + j.length ≤ sizeLine ∧ Q (.str (i ++ j)) H) ∨ rCat x y H Q ∨ rCatA K x y H Q
theorem opr_add : OpR X (binaryOp .Add) (rAddA X.K) := opr_or op_add (opr_or op_add_str (opr_or op_cat op_catA))
theorem sizeM {n : Nat} (h : n ≤ 1000000) : n ≤ sizeLine := Nat.le_trans h (by decide)
theorem opd_add (K : PySem.W.Frag) : OpD K (rAddA K) addD := by
  intro x y d e z H0 H s hx hy hg Q k
  unfold addD at hg
  split at hg
  · cases hg
    cases hx
    cases hy
    exact .inl ⟨_, _, rfl, rfl, sc s (.int _) k⟩
  · split at hg
    · rename_i hl
      cases hg
      cases hx
      cases hy
      exact .inr (.inl ⟨_, _, rfl, rfl, sizeM hl, sc s (.str _) k⟩)
    · cases hg
  · split at hg
    · rename_i hl
      cases hg
      obtain ⟨a, vs, rfl, h1, h2⟩ := hx
      obtain ⟨b, ws, rfl, h3, h4⟩ := hy
      exact .inr (.inr (.inl ⟨a, b, vs, ws, rfl, rfl, h1, h3, by rw [h2.length, h4.length]; exact sizeM hl, al_lst s (h2.append h4) k⟩))
    · cases hg
  · split at hg
    · rename_i hl
      cases hg
      cases hx with
      | tup h1 h2 =>
        cases hy with
        | tup h3 h4 =>
          refine .inr (.inr (.inr ⟨_, _, _, _, rfl, rfl, seqT_mono s h1, seqT_mono s h3, by rw [h2.length, h4.length]; exact sizeM hl, fun z => ?_, fun z z' => ?_, fun _ _ => al_tup s (h2.append h4) k⟩))
          · subst z
            cases h2
            exact sc s (.tup h3 h4) k
          · subst z'
            cases h4
            rw [List.append_nil] at k
            exact sc s (.tup h1 h2) k
    · cases hg
  · cases hg

/-! ### -, *, //, %, ** -/
def subD : Dt → Dt → Option Dt
  | .int a, .int b => some (.int (a - b))
  | _, _ => none
theorem opd_sub (K : PySem.W.Frag) : OpD K (rI0 fun i j => .int (i - j)) subD := by
  intro x y d e z H0 H s hx hy hg Q k
  unfold subD at hg
  split at hg
  · cases hg
    cases hx
    cases hy
    exact ⟨_, _, rfl, rfl, sc s (.int _) k⟩
  · cases hg
def mulOk (a b : Int) : Bool := decide (a.natAbs < 2 ^ 64) || decide (b.natAbs < 2 ^ 64) || decide (a.natAbs.log2 + b.natAbs.log2 < 1000000)
/-- a tuple once, or none of nothing: the very one -/
theorem tuple_mul1 (l : Addr) (items : Array Value) (n : Nat) (sl : Array (Option Value)) (dd : Option Addr) (x : Int) (u : Tok) (c0 : (decide (x < -(2 ^ 63)) || decide (x ≥ 2 ^ 63)) = false) (c1 : (items.isEmpty || x == 1) = true) :
    Meets (Builtin.«tuple.__mul__» ⟨[.ref l, .int x u], []⟩) (fun _ R s => s.heap.get? l = some { cls := .type "tuple", dict := dd, data := .seq items n, slots := sl } ∧ R (.ok (.ret (Value.ref l))) s) :=
  .of_wp fun prog w A R s h => by
    obtain ⟨hp, g, d, tk, os⟩ := s
    obtain ⟨hl, h⟩ := h
    have f1 := AutoSeq1.idx_int
    wp_walk using wpAny_loadPart' hl
    repeat (first
      | (refine wpAny_ite_false (decide_eq_false (by rw [c0]; exact Bool.false_ne_true)) ?_; wp_walk using wpAny_loadPart' hl)
      | (refine wpAny_ite_true (decide_eq_true c1) ?_; wp_walk using wpAny_loadPart' hl))
    exact ⟨_, rfl, h⟩
def rRepT1 (K : PySem.W.Frag) : R2 := fun x y H Q => ∃ l k xs, x = .ref l ∧ y = .int k ∧ SqT K H l xs ∧ (xs = [] ∨ k = 1) ∧ -1000000 ≤ k ∧ k ≤ 1000000 ∧ Q (.ref l) H
theorem op_repT1 : OpR X (binaryOp .Mult) (rRepT1 X.K) := by
  intro pins s σ H x y v u Q I rx ry h
  obtain ⟨l, k, xs, rfl, rfl, hT, h1, h2, h3, q⟩ := h
  cases rx
  obtain ⟨t, rfl⟩ := ry
  obtain ⟨its, r, ⟨⟨cls, dd, data, sl⟩, ho, hc, n, hd⟩, hs⟩ := I.tuple hT
  simp only at hc hd
  subst hc hd
  have c0 : (decide (k < -(2 ^ 63)) || decide (k ≥ 2 ^ 63)) = false := by
    rw [decide_eq_false (by omega), decide_eq_false (by omega)] <;> rfl
  have c1 : (its.toArray.isEmpty || k == 1) = true := by
    rcases h1 with h1 | h1
    · subst h1
      cases r
      rfl
    · subst h1
      simp
  refine wpAny_binaryOp_repeat_ref (T := "tuple") (U := "int") (by decide) ⟨_, ho, rfl⟩ (fun s' => typeIs_int s' k t) noFill_tuple_mul F.fills_int_mul F.slot_int_rmul repeat_tuple F.slot_int_index.lookup
    (call_meets F.slot_int_rmul (typeIs_int s k t) F.entry_int_rmul (F.args_int_rmul_2 _ _) (int_rmul_tuple k t l its.toArray n dd sl)
      ⟨ho, rfl, ⟨_, ho, rfl⟩, call_meets F.slot_tuple_mul ⟨_, ho, rfl⟩ F.entry_tuple_mul (F.args_tuple_mul_2 _ _) (tuple_mul1 l its.toArray n sl dd k t c0 c1) ⟨ho, ?_⟩⟩)
  exact ⟨.ref l, H, I, rfl, q⟩
def mulD : Dt → Dt → Option Dt
  | .int a, .int b => if mulOk a b = true then some (.int (a * b)) else none
  | .lst xs, .int k => if 0 ≤ k ∧ k ≤ 1000 ∧ xs.length ≤ 1000 then some (.lst (List.replicate k.toNat xs).flatten) else none
  | .tup xs, .int k => if 2 ≤ k ∧ k ≤ 1000 ∧ xs.length ≤ 1000 ∧ xs ≠ [] then some (.tup (List.replicate k.toNat xs).flatten) else if k = 1 then some (.tup xs) else none
  | _, _ => none
def rMulA (K : PySem.W.Frag) : R2 := fun x y H Q => rI CMul (fun i j => .int (i * j)) x y H Q ∨ rI CMulW (fun i j => .int (i * j)) x y H Q ∨ rRep x y H Q ∨ rRepT K x y H Q ∨ rRepT1 K x y H Q
theorem opr_mul : OpR X (binaryOp .Mult) (rMulA X.K) := opr_or op_mul (opr_or op_mulW (opr_or op_rep (opr_or op_repT op_repT1)))
theorem DaAll.rep {K : PySem.W.Frag} {H : Hp} {vs : List V} {ds : List Dt} (h : DaAll K H vs ds) : ∀ n : Nat, DaAll K H (List.replicate n vs).flatten (List.replicate n ds).flatten
  | 0 => .nil
  | n + 1 => by
    rw [List.replicate_succ, List.replicate_succ, List.flatten_cons, List.flatten_cons]
    exact h.append (h.rep n)
theorem opd_mul (K : PySem.W.Frag) : OpD K (rMulA K) mulD := by
  intro x y d e z H0 H s hx hy hg Q k
  unfold mulD at hg
  split at hg
  · split at hg
    · rename_i a b hm
      cases hg
      cases hx
      cases hy
      unfold mulOk at hm
      rw [Bool.or_eq_true, Bool.or_eq_true] at hm
      rcases hm with (hm | hm) | hm
      · have := of_decide_eq_true hm
        exact .inl ⟨_, _, rfl, rfl, .inl (by omega), sc s (.int _) k⟩
      · have := of_decide_eq_true hm
        exact .inl ⟨_, _, rfl, rfl, .inr (by omega), sc s (.int _) k⟩
      · have hm' : CMulW a b := of_decide_eq_true (p := a.natAbs.log2 + b.natAbs.log2 < 1000000) hm
        exact .inr (.inl ⟨_, _, rfl, rfl, hm', sc s (.int _) k⟩)
    · cases hg
  · split at hg
    · rename_i xs n hm
      cases hg
      obtain ⟨a, vs, rfl, h1, h2⟩ := hx
      cases hy
      refine .inr (.inr (.inl ⟨a, n, vs, rfl, rfl, h1, by omega, by omega, ?_, al_lst s (h2.rep _) k⟩))
      rw [h2.length]
      exact Nat.le_trans (Nat.mul_le_mul hm.2.2 (show n.toNat ≤ 1000 by omega)) (by decide)
    · cases hg
  · split at hg
    · rename_i xs n hm
      cases hg
      cases hx with
      | tup h1 h2 =>
        cases hy
        refine .inr (.inr (.inr (.inl ⟨_, n, _, rfl, rfl, seqT_mono s h1, fun z => ?_, hm.1, hm.2.1, by rw [h2.length]; exact hm.2.2.1, al_tup s (h2.rep _) k⟩)))
        subst z
        cases h2
        exact hm.2.2.2 rfl
    · split at hg
      · rename_i h1
        cases hg
        subst h1
        cases hx with
        | tup h1 h2 =>
          cases hy
          exact .inr (.inr (.inr (.inr ⟨_, 1, _, rfl, rfl, seqT_mono s h1, .inr rfl, by decide, by decide, sc s (.tup h1 h2) k⟩)))
      · cases hg
  · cases hg
def fdivD : Dt → Dt → Option Dt
  | .int a, .int b => if 0 < b ∧ b.natAbs.log2 < 9000 then some (.int (a / b)) else none
  | _, _ => none
theorem opd_fdiv (K : PySem.W.Frag) : OpD K (rI CDivW fun i j => .int (i / j)) fdivD := by
  intro x y d e z H0 H s hx hy hg Q k
  unfold fdivD at hg
  split at hg
  · split at hg
    · rename_i hm
      cases hg
      cases hx
      cases hy
      exact ⟨_, _, rfl, rfl, hm, sc s (.int _) k⟩
    · cases hg
  · cases hg
def modD : Dt → Dt → Option Dt
  | .int a, .int b => if 0 < b then some (.int (a % b)) else none
  | _, _ => none
theorem opd_mod (K : PySem.W.Frag) : OpD K (rI (fun _ j => 0 < j) fun i j => .int (i % j)) modD := by
  intro x y d e z H0 H s hx hy hg Q k
  unfold modD at hg
  split at hg
  · split at hg
    · rename_i hm
      cases hg
      cases hx
      cases hy
      exact ⟨_, _, rfl, rfl, hm, sc s (.int _) k⟩
    · cases hg
  · cases hg
def powD : Dt → Dt → Option Dt
  | .int a, .int b => if 0 ≤ b ∧ b ≤ 1000000 ∧ a.natAbs < 2 ^ 64 then some (.int (a ^ b.toNat)) else none
  | _, _ => none
theorem opd_pow (K : PySem.W.Frag) : OpD K (rI CPow fun i j => .int (i ^ j.toNat)) powD := by
  intro x y d e z H0 H s hx hy hg Q k
  unfold powD at hg
  split at hg
  · split at hg
    · rename_i hm
      cases hg
      cases hx
      cases hy
      exact ⟨_, _, rfl, rfl, hm, sc s (.int _) k⟩
    · cases hg
  · cases hg

/-! ### comparisons -/
def cmpD (p : Int → Int → Bool) : Dt → Dt → Option Dt
  | .int a, .int b => some (.bl (p a b))
  | _, _ => none
theorem opd_cmp (K : PySem.W.Frag) (p : Int → Int → Bool) : OpD K (rI0 fun i j => .bl (p i j)) (cmpD p) := by
  intro x y d e z H0 H s hx hy hg Q k
  unfold cmpD at hg
  split at hg
  · cases hg
    cases hx
    cases hy
    exact ⟨_, _, rfl, rfl, sc s (.bl _) k⟩
  · cases hg
abbrev ltD := cmpD fun i j => decide (i < j)
abbrev leD := cmpD fun i j => decide (i ≤ j)
abbrev gtD := cmpD fun i j => decide (j < i)
abbrev geD := cmpD fun i j => decide (j ≤ i)
def flatD : Dt → Bool
  | .non => true
  | .bl _ => true
  | .int _ => true
  | .str _ => true
  | _ => false
def toV : Dt → V
  | .non => .non
  | .bl b => .bl b
  | .int i => .int i
  | .str x => .str x
  | _ => .non
theorem Da.flat {K : PySem.W.Frag} {H : Hp} {v : V} {d : Dt} (h : Da K H v d) (f : flatD d = true) : v = toV d ∧ flatV v = true := by
  cases h <;> first | exact ⟨rfl, rfl⟩ | cases f
theorem Pk.flat {K : PySem.W.Frag} {H0 H : Hp} {v : V} {d : Dt} (h : Pk K H0 H v d) (f : flatD d = true) : v = toV d ∧ flatV v = true := by
  cases d <;> first | exact Da.flat h f | cases f
theorem DaAll.flat {K : PySem.W.Frag} {H : Hp} : ∀ {vs : List V} {ds : List Dt}, DaAll K H vs ds → ds.all flatD = true → vs = ds.map toV ∧ vs.all flatV = true
  | _, _, .nil, _ => ⟨rfl, rfl⟩
  | _, _, .cons h1 h2, f => by
    rw [List.all_cons, Bool.and_eq_true] at f
    obtain ⟨e1, e2⟩ := h1.flat f.1
    obtain ⟨e3, e4⟩ := h2.flat f.2
    refine ⟨by rw [e1, e3]; rfl, ?_⟩
    rw [List.all_cons, e2, e4]
    rfl
def eqD (d e : Dt) : Option Dt := match d, e with
  | .int a, .int b => some (.bl (decide (a = b)))
  | .str a, .str b => some (.bl (decide (a = b)))
  | d, e => if shp d = true ∧ shp e = true then some (.bl (eqt d e)) else none
def neD (d e : Dt) : Option Dt := match d, e with
  | .int a, .int b => some (.bl (!decide (a = b)))
  | .str a, .str b => some (.bl (!decide (a = b)))
  | d, e => if shp d = true ∧ shp e = true then some (.bl (!eqt d e)) else none
def rEqA (K : PySem.W.Frag) : R2 := fun x y H Q => rEq x y H Q ∨ rEqD K x y H Q
def rNeA (K : PySem.W.Frag) : R2 := fun x y H Q => rNe x y H Q ∨ rNeD K x y H Q
theorem opr_eq (hu : X.A.units + 64 < cLine) : OpR X (compareOp .Eq) (rEqA X.K) := opr_or op_eq (op_eqD hu)
theorem opr_ne (hu : X.A.units + 64 < cLine) : OpR X (compareOp .NotEq) (rNeA X.K) := opr_or op_ne (op_neD hu)
theorem shp_plain {d : Dt} (h : shp d = true) : plainD d = true ∧ SeqAt.shaped (toPy d) = true := Bool.and_eq_true_iff.mp h
theorem dec_V_int {a b : Int} : decide (V.int a = V.int b) = decide (a = b) := by
  by_cases h : a = b
  · subst h
    simp
  · rw [decide_eq_false h, decide_eq_false (fun z => h (V.int.inj z))]
theorem dec_V_str {a b : Str} : decide (V.str a = V.str b) = decide (a = b) := by
  by_cases h : a = b
  · subst h
    simp
  · rw [decide_eq_false h, decide_eq_false (fun z => h (V.str.inj z))]
theorem opd_eq (K : PySem.W.Frag) : OpD K (rEqA K) eqD := by
  intro x y d e z H0 H s hx hy hg Q k
  unfold eqD at hg
  split at hg
  · cases hg
    cases hx
    cases hy
    refine .inl ⟨rfl, ?_⟩
    rw [dec_V_int]
    exact sc s (.bl _) k
  · cases hg
    cases hx
    cases hy
    refine .inl ⟨rfl, ?_⟩
    rw [dec_V_str]
    exact sc s (.bl _) k
  · split at hg
    · rename_i hm
      cases hg
      obtain ⟨p1, s1⟩ := shp_plain hm.1
      obtain ⟨p2, s2⟩ := shp_plain hm.2
      exact .inr ⟨_, _, (Pk.up s hx).dp p1, (Pk.up s hy).dp p2, s1, s2, sc s (.bl _) k⟩
    · cases hg
theorem opd_ne (K : PySem.W.Frag) : OpD K (rNeA K) neD := by
  intro x y d e z H0 H s hx hy hg Q k
  unfold neD at hg
  split at hg
  · cases hg
    cases hx
    cases hy
    refine .inl ⟨rfl, ?_⟩
    rw [dec_V_int]
    exact sc s (.bl _) k
  · cases hg
    cases hx
    cases hy
    refine .inl ⟨rfl, ?_⟩
    rw [dec_V_str]
    exact sc s (.bl _) k
  · split at hg
    · rename_i hm
      cases hg
      obtain ⟨p1, s1⟩ := shp_plain hm.1
      obtain ⟨p2, s2⟩ := shp_plain hm.2
      exact .inr ⟨_, _, (Pk.up s hx).dp p1, (Pk.up s hy).dp p2, s1, s2, sc s (.bl _) k⟩
    · cases hg

/-! ### dicts: what stands at a key -/
def keyD : Dt → Option Key
  | .int i => some (.inl i)
  | .str x => some (.inr x)
  | _ => none
def getK (kvs : List (Key × Dt)) (k : Key) : Option Dt := (kvs.find? fun kv => decide (kv.1 = k)).map (·.2)
def putKD (kvs : List (Key × Dt)) (k : Key) (d : Dt) : List (Key × Dt) := if (kvs.any fun kv => decide (kv.1 = k)) = true then kvs.map fun kv => if kv.1 = k then (kv.1, d) else kv else kvs ++ [(k, d)]
theorem keyD_V {K : PySem.W.Frag} {H0 H : Hp} {v : V} {d : Dt} {k : Key} (h : Pk K H0 H v d) (e : keyD d = some k) : v = kV k := by
  cases d with
  | int i => cases h; cases e; rfl
  | str x => cases h; cases e; rfl
  | _ => cases e
theorem DaKv.get {K : PySem.W.Frag} {H : Hp} (k : Key) : ∀ {ks : List (Key × V)} {kvs : List (Key × Dt)}, DaKv K H ks kvs → (∀ d, getK kvs k = some d → ∃ v, valV ks k = some v ∧ Da K H v d) ∧ (getK kvs k = none → valV ks k = none)
  | _, _, .nil => ⟨fun d h => by simp [getK] at h, fun _ => rfl⟩
  | _, _, .cons (k := k') h1 h2 => by
    obtain ⟨q1, q2⟩ := h2.get k
    by_cases e : k' = k
    · subst e
      refine ⟨fun d h => ?_, fun h => ?_⟩
      · simp [getK] at h
        subst h
        exact ⟨_, by simp [valV], h1⟩
      · simp [getK] at h
    · refine ⟨fun d h => ?_, fun h => ?_⟩
      · obtain ⟨v, h3, h4⟩ := q1 d (by simpa [getK, List.find?_cons, e] using h)
        exact ⟨v, by rw [valV_neg (by exact e)]; exact h3, h4⟩
      · rw [valV_neg (by exact e)]
        exact q2 (by simpa [getK, List.find?_cons, e] using h)
theorem DaKv.length {K : PySem.W.Frag} {H : Hp} : ∀ {ks : List (Key × V)} {kvs : List (Key × Dt)}, DaKv K H ks kvs → ks.length = kvs.length
  | _, _, .nil => rfl
  | _, _, .cons _ h => congrArg (· + 1) h.length
theorem DaKv.anyK {K : PySem.W.Frag} {H : Hp} (k : Key) : ∀ {ks : List (Key × V)} {kvs : List (Key × Dt)}, DaKv K H ks kvs → (ks.any fun kv => decide (kv.1 = k)) = (kvs.any fun kv => decide (kv.1 = k))
  | _, _, .nil => rfl
  | _, _, .cons _ h => by rw [List.any_cons, List.any_cons, h.anyK k]
theorem DaKv.append {K : PySem.W.Frag} {H : Hp} : ∀ {ks ls : List (Key × V)} {kvs lvs : List (Key × Dt)}, DaKv K H ks kvs → DaKv K H ls lvs → DaKv K H (ks ++ ls) (kvs ++ lvs)
  | _, _, _, _, .nil, h => h
  | _, _, _, _, .cons h1 h2, h => .cons h1 (h2.append h)
theorem DaKv.map {K : PySem.W.Frag} {H : Hp} {k : Key} {v : V} {d : Dt} (hd : Da K H v d) : ∀ {ks : List (Key × V)} {kvs : List (Key × Dt)}, DaKv K H ks kvs →
    DaKv K H (ks.map fun kv => if kv.1 = k then (kv.1, v) else kv) (kvs.map fun kv => if kv.1 = k then (kv.1, d) else kv)
  | _, _, .nil => .nil
  | _, _, .cons (k := k') h1 h2 => by
    rw [List.map_cons, List.map_cons]
    by_cases e : k' = k
    · rw [if_pos (by exact e), if_pos (by exact e)]
      exact .cons hd (h2.map hd)
    · rw [if_neg (by exact e), if_neg (by exact e)]
      exact .cons h1 (h2.map hd)
theorem DaKv.put {K : PySem.W.Frag} {H : Hp} {ks : List (Key × V)} {kvs : List (Key × Dt)} {k : Key} {v : V} {d : Dt} (h : DaKv K H ks kvs) (hd : Da K H v d) : DaKv K H (putK ks k v) (putKD kvs k d) := by
  unfold putK putKD
  rw [h.anyK k]
  split
  · exact h.map hd
  · exact h.append (.cons hd .nil)

/-! ### in -/
def inStr (i j : Str) : Bool := !(Builtin.Str.occurrences j i 0 j.length 1).isEmpty
def inB : Dt → Dt → Option Bool
  | d, .lst xs => if flatD d = true ∧ xs.all flatD = true then some (inV (toV d) (xs.map toV)) else none
  | d, .tup xs => if flatD d = true ∧ xs.all flatD = true then some (inV (toV d) (xs.map toV)) else none
  | .int k, .dct kvs => some (getK kvs (.inl k)).isSome
  | .str k, .dct kvs => some (getK kvs (.inr k)).isSome
  | .str i, .str j => some (inStr i j)
  | _, _ => none
def inD (d e : Dt) : Option Dt := (inB d e).map fun b => .bl b
def ninD (d e : Dt) : Option Dt := (inB d e).map fun b => .bl (!b)
def rInA (K : PySem.W.Frag) : R2 := fun x y H Q => rIn K false x y H Q ∨ (∃ a o, y = .ref a ∧ DGet H a x o ∧ Q (.bl o.isSome) H) ∨ ∃ i j, x = .str i ∧ y = .str j ∧ Q (.bl (!(Builtin.Str.occurrences j i 0 j.length 1).isEmpty)) H
def rNinA (K : PySem.W.Frag) : R2 := fun x y H Q => rIn K true x y H Q ∨ (∃ a o, y = .ref a ∧ DGet H a x o ∧ Q (.bl (!o.isSome)) H) ∨ ∃ i j, x = .str i ∧ y = .str j ∧ Q (.bl (!(!(Builtin.Str.occurrences j i 0 j.length 1).isEmpty))) H
theorem opr_in (hu : X.A.units + 1 < cLine) : OpR X (compareOp .In) (rInA X.K) := opr_or op_in_seq (opr_or (by
  intro pins s σ H x y v u Q I rx ry h
  obtain ⟨a, o, rfl, g, q⟩ := h
  cases ry
  exact d_in hu I g rx fun s' I' => ⟨.bl _, H, I', rfl, q⟩) op_in_str)
theorem opr_nin (hu : X.A.units + 1 < cLine) : OpR X (compareOp .NotIn) (rNinA X.K) := opr_or op_notIn_seq (opr_or (by
  intro pins s σ H x y v u Q I rx ry h
  obtain ⟨a, o, rfl, g, q⟩ := h
  cases ry
  exact d_notIn hu I g rx fun s' I' => ⟨.bl _, H, I', rfl, q⟩) op_notIn_str)
theorem inB_key {K : PySem.W.Frag} {H0 H : Hp} {y : V} {kvs : List (Key × Dt)} {k : Key} (hy : Pk K H0 H y (.dct kvs)) : ∃ a o, y = .ref a ∧ DGet H a (kV k) o ∧ o.isSome = (getK kvs k).isSome := by
  obtain ⟨a, ks, rfl, h1, h2⟩ := hy
  refine ⟨a, _, rfl, DGet.k h1, ?_⟩
  obtain ⟨q1, q2⟩ := h2.get k
  cases e : getK kvs k with
  | none => rw [q2 e]; rfl
  | some d =>
    obtain ⟨v, h3, _⟩ := q1 d e
    rw [h3]
    rfl
theorem opd_in (K : PySem.W.Frag) : OpD K (rInA K) inD := by
  intro x y d e z H0 H s hx hy hg Q k
  obtain ⟨b, hb, rfl⟩ := Option.map_eq_some_iff.mp hg
  have q : Q (.bl b) H := sc s (.bl _) k
  unfold inB at hb
  split at hb
  · split at hb
    · rename_i hm
      cases hb
      obtain ⟨a, vs, rfl, h1, h2⟩ := hy
      obtain ⟨e1, e2⟩ := hx.flat hm.1
      obtain ⟨e3, e4⟩ := h2.flat hm.2
      exact .inl ⟨a, vs, rfl, .inl (SqL.of h1), e2, e4, by rw [e1, e3]; exact q⟩
    · cases hb
  · split at hb
    · rename_i hm
      cases hb
      cases hy with
      | tup h1 h2 =>
        obtain ⟨e1, e2⟩ := hx.flat hm.1
        obtain ⟨e3, e4⟩ := h2.flat hm.2
        exact .inl ⟨_, _, rfl, .inr (seqT_mono s h1), e2, e4, by rw [e1, e3]; exact q⟩
    · cases hb
  · rename_i n kvs
    cases hb
    cases hx
    obtain ⟨a, o, rfl, g, e⟩ := inB_key (k := .inl n) hy
    exact .inr (.inl ⟨a, o, rfl, g, by rw [e]; exact q⟩)
  · rename_i n kvs
    cases hb
    cases hx
    obtain ⟨a, o, rfl, g, e⟩ := inB_key (k := .inr n) hy
    exact .inr (.inl ⟨a, o, rfl, g, by rw [e]; exact q⟩)
  · cases hb
    cases hx
    cases hy
    exact .inr (.inr ⟨_, _, rfl, rfl, q⟩)
  · cases hb
theorem opd_nin (K : PySem.W.Frag) : OpD K (rNinA K) ninD := by
  intro x y d e z H0 H s hx hy hg Q k
  obtain ⟨b, hb, rfl⟩ := Option.map_eq_some_iff.mp hg
  have q : Q (.bl (!b)) H := sc s (.bl _) k
  unfold inB at hb
  split at hb
  · split at hb
    · rename_i hm
      cases hb
      obtain ⟨a, vs, rfl, h1, h2⟩ := hy
      obtain ⟨e1, e2⟩ := hx.flat hm.1
      obtain ⟨e3, e4⟩ := h2.flat hm.2
      exact .inl ⟨a, vs, rfl, .inl (SqL.of h1), e2, e4, by rw [e1, e3]; exact q⟩
    · cases hb
  · split at hb
    · rename_i hm
      cases hb
      cases hy with
      | tup h1 h2 =>
        obtain ⟨e1, e2⟩ := hx.flat hm.1
        obtain ⟨e3, e4⟩ := h2.flat hm.2
        exact .inl ⟨_, _, rfl, .inr (seqT_mono s h1), e2, e4, by rw [e1, e3]; exact q⟩
    · cases hb
  · rename_i n kvs
    cases hb
    cases hx
    obtain ⟨a, o, rfl, g, e⟩ := inB_key (k := .inl n) hy
    exact .inr (.inl ⟨a, o, rfl, g, by rw [e]; exact q⟩)
  · rename_i n kvs
    cases hb
    cases hx
    obtain ⟨a, o, rfl, g, e⟩ := inB_key (k := .inr n) hy
    exact .inr (.inl ⟨a, o, rfl, g, by rw [e]; exact q⟩)
  · cases hb
    cases hx
    cases hy
    exact .inr (.inr ⟨_, _, rfl, rfl, q⟩)
  · cases hb
/-! ### is None -/
def isN : Dt → Bool
  | .non => true
  | _ => false
def isND : Dt → Dt → Option Dt
  | d, .non => some (.bl (isN d))
  | _, _ => none
def notND : Dt → Dt → Option Dt
  | d, .non => some (.bl (!isN d))
  | _, _ => none
theorem Pk.isN {K : PySem.W.Frag} {H0 H : Hp} {v : V} {d : Dt} (h : Pk K H0 H v d) : decide (v = .non) = isN d := by
  cases d with
  | lst _ => obtain ⟨a, _, rfl, _⟩ := h; rfl
  | dct _ => obtain ⟨a, _, rfl, _⟩ := h; rfl
  | _ => cases h <;> rfl
theorem opd_isN (K : PySem.W.Frag) : OpD K (fun x y H Q => y = .non ∧ Q (.bl (decide (x = .non))) H) isND := by
  intro x y d e z H0 H s hx hy hg Q k
  unfold isND at hg
  split at hg
  · cases hg
    cases hy
    refine ⟨rfl, ?_⟩
    rw [hx.isN]
    exact sc s (.bl _) k
  · cases hg
theorem opd_notN (K : PySem.W.Frag) : OpD K (fun x y H Q => y = .non ∧ Q (.bl (!decide (x = .non))) H) notND := by
  intro x y d e z H0 H s hx hy hg Q k
  unfold notND at hg
  split at hg
  · cases hg
    cases hy
    refine ⟨rfl, ?_⟩
    rw [hx.isN]
    exact sc s (.bl _) k
  · cases hg

/-! ### subscripts -/
def ixD : Dt → Dt → Option Dt
  | .lst xs, .int i => atI xs i
  | .tup xs, .int i => atI xs i
  | .str z, .int i => if z.length ≤ 1000000 then (atI z.cps.toList i).map fun c => .str ⟨#[c]⟩ else none
  | .dct kvs, .int k => getK kvs (.inl k)
  | .dct kvs, .str k => getK kvs (.inr k)
  | .scr ns, .int i => (atI ns i).map .int
  | _, _ => none
def rIxA (K : PySem.W.Frag) : R2 := fun x y H Q => rIx K x y H Q ∨ ∃ a v, x = .ref a ∧ DGet H a y (some v) ∧ Q v H
theorem atI_da {K : PySem.W.Frag} {H : Hp} {vs : List V} {ds : List Dt} {i : Int} {z : Dt} (h : DaAll K H vs ds) (e : atI ds i = some z) : ∃ v, atI vs i = some v ∧ Da K H v z := by
  unfold atI at e ⊢
  rw [h.length]
  obtain ⟨j, h1, h2⟩ := Option.bind_eq_some_iff.mp e
  obtain ⟨v, h3, h4⟩ := h.get h2
  exact ⟨v, by rw [h1]; exact h3, h4⟩
theorem ixr_all (hu : X.A.units + 1 < cLine) : IxR X (rIxA X.K) := ix_seq.or (by
  intro value slice pins s σ H x y v u Q I rx ry q hs
  obtain ⟨a, w, rfl, g, q⟩ := q
  cases rx
  refine PyProof.Rows.tail_any (ops := [.ref a, u]) (dict_typeIs I g) PySem.F.slot_dict_getitem.lookup (d_getItem hu I g ry fun w' s' I' r' => ⟨w, H, I', r', q⟩) hs)
theorem opd_ix (K : PySem.W.Frag) : OpD K (rIxA K) ixD := by
  intro x y d e z H0 H s hx hy hg Q k
  unfold ixD at hg
  split at hg
  · obtain ⟨a, vs, rfl, h1, h2⟩ := hx
    cases hy
    obtain ⟨v, h3, h4⟩ := atI_da h2 hg
    exact .inl (.inl ⟨a, vs, _, v, rfl, rfl, SqL.of h1, h3, sc s h4 k⟩)
  · cases hy
    cases hx with
    | tup h1 h2 =>
      obtain ⟨v, h3, h4⟩ := atI_da h2 hg
      exact .inl (.inr (.inl ⟨_, _, _, v, rfl, rfl, seqT_mono s h1, h3, sc s h4 k⟩))
  · split at hg
    · rename_i hl
      cases hy
      cases hx
      obtain ⟨c, h1, rfl⟩ := Option.map_eq_some_iff.mp hg
      exact .inl (.inr (.inr ⟨_, _, c, rfl, rfl, sizeM hl, h1, sc s (.str _) k⟩))
    · cases hg
  · cases hy
    obtain ⟨a, ks, rfl, h1, h2⟩ := hx
    rename_i n
    obtain ⟨v, h3, h4⟩ := (h2.get _).1 _ hg
    exact .inr ⟨a, v, rfl, by rw [← h3]; exact DGet.k (k := .inl n) h1, sc s h4 k⟩
  · cases hy
    obtain ⟨a, ks, rfl, h1, h2⟩ := hx
    rename_i n
    obtain ⟨v, h3, h4⟩ := (h2.get _).1 _ hg
    exact .inr ⟨a, v, rfl, by rw [← h3]; exact DGet.k (k := .inr n) h1, sc s h4 k⟩
  · cases hy
    cases hx with
    | scr h1 =>
      obtain ⟨n, h3, rfl⟩ := Option.map_eq_some_iff.mp hg
      refine .inl (.inl ⟨_, _, _, .int n, rfl, rfl, seqL_mono s h1, ?_, sc s (.int _) k⟩)
      unfold atI at h3 ⊢
      rw [List.length_map]
      obtain ⟨j, h4, h5⟩ := Option.bind_eq_some_iff.mp h3
      rw [h4]
      show (List.map V.int _)[j]? = some (V.int n)
      rw [List.getElem?_map, h5]
      rfl
  · cases hg
end
end DW

set_option Elab.async false
set_option linter.all false
set_option maxRecDepth 100000
set_option maxHeartbeats 4000000
/-! DW5: rules for expressions, tests, arguments -/
namespace DW
open PySem L2

/-! ### the functions -/
def truD : Dt → Option Bool
  | .non => some false
  | .bl b => some b
  | .int i => some (i != 0)
  | .str y => if y.length ≤ 1000000 then some ((y.length : Int) != 0) else none
  | .lst xs => some (!xs.isEmpty)
  | .tup xs => some (!xs.isEmpty)
  | .dct xs => some (!xs.isEmpty)
  | .scr xs => some (!xs.isEmpty)
  | .xo _ _ _ => none
def truF (f : Rho → R Dt) : Rho → R Bool := fun ρ => (f ρ).bind fun d ρ1 => match truD d with
  | some b => .ok b ρ1
  | none => .bad
def tstF (f : Rho → R Dt) : Rho → R Bool := fun ρ => (f ρ).bind fun d ρ1 => match d with
  | .bl b => .ok b ρ1
  | _ => .bad
def andT (f g : Rho → R Bool) : Rho → R Bool := fun ρ => (f ρ).bind fun b ρ1 => if b = true then g ρ1 else .ok false ρ1
def orT (f g : Rho → R Bool) : Rho → R Bool := fun ρ => (f ρ).bind fun b ρ1 => if b = true then .ok true ρ1 else g ρ1
def notT (f : Rho → R Bool) : Rho → R Bool := fun ρ => (f ρ).bind fun b ρ1 => .ok (!b) ρ1
def andV (f g : Rho → R Dt) : Rho → R Dt := fun ρ => (f ρ).bind fun d ρ1 => match d with
  | .bl b => if b = true then g ρ1 else .ok (.bl false) ρ1
  | _ => .bad
def orV (f g : Rho → R Dt) : Rho → R Dt := fun ρ => (f ρ).bind fun d ρ1 => match d with
  | .bl b => if b = true then .ok (.bl true) ρ1 else g ρ1
  | _ => .bad
def notD (d : Dt) : Option Dt := (truD d).map fun b => .bl (!b)
def ifE (c : Rho → R Bool) (f g : Rho → R Dt) : Rho → R Dt := fun ρ => (c ρ).bind fun b ρ1 => if b = true then f ρ1 else g ρ1
def chainD (g1 g2 : Dt → Dt → Option Dt) (f1 f2 f3 : Rho → R Dt) : Rho → R Dt := fun ρ => (f1 ρ).bind fun x ρ1 => (f2 ρ1).bind fun y ρ2 => match g1 x y with
  | some (.bl true) => (f3 ρ2).bind fun z ρ3 => match g2 y z with
    | some w => .ok w ρ3
    | none => .bad
  | some (.bl false) => .ok (.bl false) ρ2
  | _ => .bad
def nilA : Rho → R (List Dt) := fun ρ => .ok [] ρ
def consA (f : Rho → R Dt) (g : Rho → R (List Dt)) : Rho → R (List Dt) := fun ρ => (f ρ).bind fun d ρ1 => (g ρ1).bind fun ds ρ2 => .ok (d :: ds) ρ2
def tupD (f : Rho → R (List Dt)) : Rho → R Dt := fun ρ => (f ρ).bind fun ds ρ1 => if ds.length ≤ 1000000 then .ok (.tup ds) ρ1 else .bad
def lstD (f : Rho → R (List Dt)) : Rho → R Dt := fun ρ => (f ρ).bind fun ds ρ1 => if ds.length ≤ 1000000 then .ok (.lst ds) ρ1 else .bad
def lstO (f : Rho → R (List Dt)) : Rho → R Sl := fun ρ => (f ρ).bind fun ds ρ1 => if ds.length ≤ 1000000 then .ok (.ol ds) ρ1 else .bad
def dctO0 : Rho → R Sl := fun ρ => .ok (.od []) ρ
def dctD0 : Rho → R Dt := fun ρ => .ok (.dct []) ρ
def frO (f : Rho → R Dt) : Rho → R Sl := fun ρ => (f ρ).bind fun d ρ1 => .ok (.fr d) ρ1
def cb (g : List Dt → Option Dt) (f : Rho → R (List Dt)) : Rho → R Dt := fun ρ => (f ρ).bind fun ds ρ1 => match g ds with
  | some z => .ok z ρ1
  | none => .bad
def noP : Rho → R (Option Int) := fun ρ => .ok none ρ
def someP (f : Rho → R Dt) : Rho → R (Option Int) := fun ρ => (f ρ).bind fun d ρ1 => match d with
  | .int i => .ok (some i) ρ1
  | _ => .bad
def cutD {α : Type} (xs : List α) (lo hi : Option Int) : List α := (xs.drop (HT.sIx xs.length 0 lo)).take (HT.sIx xs.length xs.length hi - HT.sIx xs.length 0 lo)
def slD : Dt → Option Int → Option Int → Option Dt
  | .lst xs, lo, hi => some (.lst (cutD xs lo hi))
  | .tup xs, lo, hi => some (.tup (cutD xs lo hi))
  | .scr ns, lo, hi => some (.lst ((cutD ns lo hi).map .int))
  | .str z, lo, hi => if z.length ≤ 1000000 then some (.str (cutS z lo hi)) else none
  | _, _, _ => none
def sl3 (f : Rho → R Dt) (fl fh : Rho → R (Option Int)) : Rho → R Dt := fun ρ => (f ρ).bind fun d ρ1 => (fl ρ1).bind fun lo ρ2 => (fh ρ2).bind fun hi ρ3 => match slD d lo hi with
  | some z => .ok z ρ3
  | none => .bad

/-! ### readings -/
section
variable {F : Fm} {g : Gx} {W : WX} {σ : L2.St} {H : Hp}
theorem bind_ok {α β : Type} {r : R α} {k : α → Rho → R β} {b : β} {ρ' : Rho} (h : r.bind k = .ok b ρ') : ∃ a ρ1, r = .ok a ρ1 ∧ k a ρ1 = .ok b ρ' := by
  cases r with
  | ok a ρ1 => exact ⟨a, ρ1, rfl, h⟩
  | ex _ _ => cases h
  | bad => cases h
theorem tC_cst {v : V} {d : Dt} {Q : VK} (hd : ∀ H, Da g.K H v d) (h : tD g F W (cst d) σ H Q) : tC v σ H Q := by
  obtain ⟨H0, ρ, E, q⟩ := h
  exact q v H0 H E Mv.refl (hd _)
theorem tTest_of {f : Rho → R Dt} {Q : Bool → Hp → Prop} (h : tDT g F W (tstF f) σ H Q) : tTest (tD g F W f) σ H Q := by
  obtain ⟨H0, ρ, E, q⟩ := h
  refine ⟨H0, ρ, E, ?_⟩
  unfold tstF at q
  cases e : f ρ with
  | ok d ρ1 =>
    rw [e] at q
    dsimp only [R.bind] at q
    intro v H0' H' E' m hd
    cases d with
    | bl b =>
      cases hd
      exact ⟨b, rfl, q H0' H' E' m⟩
    | _ => exact q.elim
  | ex x ρ1 =>
    rw [e] at q
    exact q
  | bad =>
    rw [e] at q
    exact q
theorem truV_of {K : PySem.W.Frag} {H0 H : Hp} {v : V} {d : Dt} {b : Bool} (e : Same H0 H) (h : Pk K H0 H v d) (hb : truD d = some b) : TruV K v H b := by
  cases d with
  | xo _ _ _ => cases hb
  | non => cases h; cases hb; rfl
  | bl _ => cases h; cases hb; rfl
  | int _ => cases h; cases hb; rfl
  | str y =>
    cases h
    by_cases hl : y.length ≤ 1000000
    · simp only [truD, if_pos hl, Option.some.injEq] at hb
      exact ⟨sizeM hl, hb.symm⟩
    · simp only [truD, if_neg hl] at hb
      cases hb
  | lst xs =>
    obtain ⟨a, vs, rfl, h1, h2⟩ := h
    cases hb
    refine .inl ⟨vs, SqL.of h1, ?_⟩
    cases h2 <;> rfl
  | tup xs =>
    cases hb
    cases h with
    | tup h1 h2 =>
      refine .inr (.inl ⟨_, seqT_mono e h1, ?_⟩)
      cases h2 <;> rfl
  | dct xs =>
    obtain ⟨a, vs, rfl, h1, h2⟩ := h
    cases hb
    refine .inr (.inr ⟨vs, h1, ?_⟩)
    cases h2 <;> rfl
  | scr xs =>
    cases hb
    cases h with
    | scr h1 =>
      refine .inl ⟨_, seqL_mono e h1, ?_⟩
      cases xs <;> rfl
theorem tTru_of {f : Rho → R Dt} {Q : Bool → Hp → Prop} (h : tDT g F W (truF f) σ H Q) : tK g F W f σ H (fun x H' => ∃ k, TruV g.K x H' k ∧ Q k H') := by
  obtain ⟨H0, ρ, E, q⟩ := h
  refine ⟨H0, ρ, E, ?_⟩
  unfold truF at q
  cases e : f ρ with
  | ok d ρ1 =>
    rw [e] at q
    dsimp only [R.bind] at q
    intro v H0' H' E' m hd
    cases e2 : truD d with
    | some b =>
      rw [e2] at q
      exact ⟨b, truV_of E'.ex hd e2, q H0' H' E' m⟩
    | none =>
      rw [e2] at q
      exact q.elim
  | ex x ρ1 =>
    rw [e] at q
    exact q
  | bad =>
    rw [e] at q
    exact q
theorem tNotT_of {f : Rho → R Dt} {Q : VK} (h : tD g F W (un notD f) σ H Q) : tNotT g.K (tK g F W f) σ H Q := by
  obtain ⟨H0, ρ, E, q⟩ := h
  refine ⟨H0, ρ, E, ?_⟩
  unfold un at q
  cases e : f ρ with
  | ok d ρ1 =>
    rw [e] at q
    dsimp only [R.bind, notD] at q
    intro v H0' H' E' m hd
    cases e2 : truD d with
    | some b =>
      rw [e2] at q
      exact ⟨b, truV_of E'.ex hd e2, q _ H0' H' E' m (.bl _)⟩
    | none =>
      rw [e2] at q
      exact q.elim
  | ex x ρ1 =>
    rw [e] at q
    exact q
  | bad =>
    rw [e] at q
    exact q
theorem tAnd_of {f k : Rho → R Bool} {Q : Bool → Hp → Prop} (h : tDT g F W (andT f k) σ H Q) : tAnd (tDT g F W f) (tDT g F W k) σ H Q := by
  obtain ⟨H0, ρ, E, q⟩ := h
  refine ⟨H0, ρ, E, ?_⟩
  unfold andT at q
  cases e : f ρ with
  | ok b ρ1 =>
    rw [e] at q
    dsimp only [R.bind] at q
    intro H0' H' E' m
    cases b with
    | true =>
      rw [if_pos rfl] at q ⊢
      refine ⟨H0', ρ1, E', ?_⟩
      cases e2 : k ρ1 with
      | ok b2 ρ2 =>
        rw [e2] at q
        exact fun H0'' H'' E'' m' => q H0'' H'' E'' (m.trans m')
      | ex x ρ1 =>
        rw [e2] at q
        exact q
      | bad =>
        rw [e2] at q
        exact q
    | false =>
      rw [if_neg Bool.false_ne_true] at q ⊢
      exact q H0' H' E' m
  | ex x ρ1 =>
    rw [e] at q
    exact q
  | bad =>
    rw [e] at q
    exact q
theorem tOr_of {f k : Rho → R Bool} {Q : Bool → Hp → Prop} (h : tDT g F W (orT f k) σ H Q) : tOr (tDT g F W f) (tDT g F W k) σ H Q := by
  obtain ⟨H0, ρ, E, q⟩ := h
  refine ⟨H0, ρ, E, ?_⟩
  unfold orT at q
  cases e : f ρ with
  | ok b ρ1 =>
    rw [e] at q
    dsimp only [R.bind] at q
    intro H0' H' E' m
    cases b with
    | false =>
      rw [if_neg Bool.false_ne_true] at q ⊢
      refine ⟨H0', ρ1, E', ?_⟩
      cases e2 : k ρ1 with
      | ok b2 ρ2 =>
        rw [e2] at q
        exact fun H0'' H'' E'' m' => q H0'' H'' E'' (m.trans m')
      | ex x ρ1 =>
        rw [e2] at q
        exact q
      | bad =>
        rw [e2] at q
        exact q
    | true =>
      rw [if_pos rfl] at q ⊢
      exact q H0' H' E' m
  | ex x ρ1 =>
    rw [e] at q
    exact q
  | bad =>
    rw [e] at q
    exact q
theorem tNot_of {f : Rho → R Bool} {Q : Bool → Hp → Prop} (h : tDT g F W (notT f) σ H Q) : tNot (tDT g F W f) σ H Q := by
  obtain ⟨H0, ρ, E, q⟩ := h
  refine ⟨H0, ρ, E, ?_⟩
  unfold notT at q
  cases e : f ρ with
  | ok b ρ1 =>
    rw [e] at q
    exact fun H0' H' E' m => q H0' H' E' m
  | ex x ρ1 =>
    rw [e] at q
    exact q
  | bad =>
    rw [e] at q
    exact q
theorem tAndV_of {f k : Rho → R Dt} {Q : VK} (h : tD g F W (andV f k) σ H Q) : tAndV (tD g F W f) (tD g F W k) σ H Q := by
  obtain ⟨H0, ρ, E, q⟩ := h
  refine ⟨H0, ρ, E, ?_⟩
  unfold andV at q
  cases e : f ρ with
  | ok d ρ1 =>
    rw [e] at q
    dsimp only [R.bind] at q
    intro v H0' H' E' m hd
    cases d with
    | bl b =>
      cases hd
      refine ⟨b, rfl, ?_⟩
      dsimp only at q
      cases b with
      | true =>
        rw [if_pos rfl] at q ⊢
        refine ⟨H0', ρ1, E', ?_⟩
        cases e2 : k ρ1 with
        | ok b2 ρ2 =>
          rw [e2] at q
          exact fun v H0'' H'' E'' m' hd => q v H0'' H'' E'' (m.trans m') hd
        | ex x ρ1 =>
          rw [e2] at q
          exact q
        | bad =>
          rw [e2] at q
          exact q
      | false =>
        rw [if_neg Bool.false_ne_true] at q ⊢
        exact q _ H0' H' E' m (.bl _)
    | _ => exact q.elim
  | ex x ρ1 =>
    rw [e] at q
    exact q
  | bad =>
    rw [e] at q
    exact q
theorem tOrV_of {f k : Rho → R Dt} {Q : VK} (h : tD g F W (orV f k) σ H Q) : tOrV (tD g F W f) (tD g F W k) σ H Q := by
  obtain ⟨H0, ρ, E, q⟩ := h
  refine ⟨H0, ρ, E, ?_⟩
  unfold orV at q
  cases e : f ρ with
  | ok d ρ1 =>
    rw [e] at q
    dsimp only [R.bind] at q
    intro v H0' H' E' m hd
    cases d with
    | bl b =>
      cases hd
      refine ⟨b, rfl, ?_⟩
      dsimp only at q
      cases b with
      | false =>
        rw [if_neg Bool.false_ne_true] at q ⊢
        refine ⟨H0', ρ1, E', ?_⟩
        cases e2 : k ρ1 with
        | ok b2 ρ2 =>
          rw [e2] at q
          exact fun v H0'' H'' E'' m' hd => q v H0'' H'' E'' (m.trans m') hd
        | ex x ρ1 =>
          rw [e2] at q
          exact q
        | bad =>
          rw [e2] at q
          exact q
      | true =>
        rw [if_pos rfl] at q ⊢
        exact q _ H0' H' E' m (.bl _)
    | _ => exact q.elim
  | ex x ρ1 =>
    rw [e] at q
    exact q
  | bad =>
    rw [e] at q
    exact q
theorem tIf_of {c : Rho → R Bool} {f k : Rho → R Dt} {Q : VK} (h : tD g F W (ifE c f k) σ H Q) : tIf (tDT g F W c) (tD g F W f) (tD g F W k) σ H Q := by
  obtain ⟨H0, ρ, E, q⟩ := h
  refine ⟨H0, ρ, E, ?_⟩
  unfold ifE at q
  cases e : c ρ with
  | ok b ρ1 =>
    rw [e] at q
    dsimp only [R.bind] at q
    intro H0' H' E' m
    cases b with
    | true =>
      rw [if_pos rfl] at q ⊢
      refine ⟨H0', ρ1, E', ?_⟩
      cases e2 : f ρ1 with
      | ok b2 ρ2 =>
        rw [e2] at q
        exact fun v H0'' H'' E'' m' hd => q v H0'' H'' E'' (m.trans m') hd
      | ex x ρ1 =>
        rw [e2] at q
        exact q
      | bad =>
        rw [e2] at q
        exact q
    | false =>
      rw [if_neg Bool.false_ne_true] at q ⊢
      refine ⟨H0', ρ1, E', ?_⟩
      cases e2 : k ρ1 with
      | ok b2 ρ2 =>
        rw [e2] at q
        exact fun v H0'' H'' E'' m' hd => q v H0'' H'' E'' (m.trans m') hd
      | ex x ρ1 =>
        rw [e2] at q
        exact q
      | bad =>
        rw [e2] at q
        exact q
  | ex x ρ1 =>
    rw [e] at q
    exact q
  | bad =>
    rw [e] at q
    exact q
theorem tChain_of {r r' : R2} {g1 g2 : Dt → Dt → Option Dt} {f1 f2 f3 : Rho → R Dt} (h1 : OpD g.K r g1) (h2 : OpD g.K r' g2) {Q : VK} (h : tD g F W (chainD g1 g2 f1 f2 f3) σ H Q) :
    tChain r r' (tD g F W f1) (tD g F W f2) (tD g F W f3) σ H Q := by
  obtain ⟨H0, ρ, E, q⟩ := h
  refine ⟨H0, ρ, E, ?_⟩
  unfold chainD at q
  cases e1 : f1 ρ with
  | ok d ρ1 =>
    rw [e1] at q
    dsimp only [R.bind] at q
    intro x B0 B E1 m1 d1
    refine ⟨B0, ρ1, E1, ?_⟩
    cases e2 : f2 ρ1 with
    | ok e ρ2 =>
      rw [e2] at q
      dsimp only [R.bind] at q
      intro y C0 C E2 m2 d2
      cases e3 : g1 d e with
      | none =>
        rw [e3] at q
        exact q.elim
      | some z =>
        rw [e3] at q
        refine h1 x y d e z C0 C E2.ex (Da.pk E2.ex (d1.mono m2.b0)) (Da.pk E2.ex d2) e3 _ fun v D0 D g3 s3 d3 => ?_
        obtain ⟨E3, m3⟩ := E2.post (m1.trans m2) g3 s3
        cases z with
        | bl b =>
          cases d3
          refine ⟨b, rfl, ?_⟩
          cases b with
          | true =>
            rw [if_pos rfl]
            refine ⟨D0, ρ2, E3, ?_⟩
            dsimp only at q
            cases e4 : f3 ρ2 with
            | ok z ρ3 =>
              rw [e4] at q
              dsimp only [R.bind] at q
              intro w' G0 G E4 m4 d4
              cases e5 : g2 e z with
              | none =>
                rw [e5] at q
                exact q.elim
              | some u =>
                rw [e5] at q
                refine h2 y w' e z u G0 G E4.ex (Da.pk E4.ex ((d2.mono g3.b0).mono m4.b0)) (Da.pk E4.ex d4) e5 _ fun v I0 I g5 s5 d5 => ?_
                obtain ⟨E5, m5⟩ := E4.post (m3.trans m4) g5 s5
                exact q v I0 I E5 m5 d5
            | ex x ρ1 =>
              rw [e4] at q
              exact q
            | bad =>
              rw [e4] at q
              exact q
          | false =>
            rw [if_neg Bool.false_ne_true]
            exact q _ D0 D E3 m3 (.bl _)
        | _ => exact q.elim
    | ex x ρ1 =>
      rw [e2] at q
      exact q
    | bad =>
      rw [e2] at q
      exact q
  | ex x ρ1 =>
    rw [e1] at q
    exact q
  | bad =>
    rw [e1] at q
    exact q
theorem tNil_of {Q : List V → Hp → Prop} (h : tDA g F W nilA σ H Q) : tNil σ H Q := by
  obtain ⟨H0, ρ, E, q⟩ := h
  exact q [] H0 H E Mv.refl .nil
theorem tCons_of {f : Rho → R Dt} {k : Rho → R (List Dt)} {Q : List V → Hp → Prop} (h : tDA g F W (consA f k) σ H Q) : tCons (tD g F W f) (tDA g F W k) σ H Q := by
  obtain ⟨H0, ρ, E, q⟩ := h
  refine ⟨H0, ρ, E, ?_⟩
  unfold consA at q
  cases e : f ρ with
  | ok d ρ1 =>
    rw [e] at q
    dsimp only [R.bind] at q
    intro v H0' H' E' m hd
    refine ⟨H0', ρ1, E', ?_⟩
    cases e2 : k ρ1 with
    | ok ds ρ2 =>
      rw [e2] at q
      exact fun vs H0'' H'' E'' m' hs => q (v :: vs) H0'' H'' E'' (m.trans m') (.cons (hd.mono m'.b0) hs)
    | ex x ρ1 =>
      rw [e2] at q
      exact q
    | bad =>
      rw [e2] at q
      exact q
  | ex x ρ1 =>
    rw [e] at q
    exact q
  | bad =>
    rw [e] at q
    exact q
theorem tTup_of {f : Rho → R (List Dt)} {Q : VK} (h : tD g F W (tupD f) σ H Q) : tTup (tDA g F W f) σ H Q := by
  obtain ⟨H0, ρ, E, q⟩ := h
  refine ⟨H0, ρ, E, ?_⟩
  unfold tupD at q
  cases e : f ρ with
  | ok ds ρ1 =>
    rw [e] at q
    dsimp only [R.bind] at q
    intro vs H0' H' E' m hd
    by_cases hl : ds.length ≤ 1000000
    · rw [if_pos hl] at q
      refine ⟨by rw [hd.length]; exact sizeM hl, al_tup E'.ex hd fun v C0 C gr s2 hv => ?_⟩
      obtain ⟨E3, m3⟩ := E'.post m gr s2
      exact q v C0 C E3 m3 hv
    · rw [if_neg hl] at q
      exact q.elim
  | ex x ρ1 =>
    rw [e] at q
    exact q
  | bad =>
    rw [e] at q
    exact q
theorem tLst_of {f : Rho → R (List Dt)} {Q : VK} (h : tD g F W (lstD f) σ H Q) : tLst (tDA g F W f) σ H Q := by
  obtain ⟨H0, ρ, E, q⟩ := h
  refine ⟨H0, ρ, E, ?_⟩
  unfold lstD at q
  cases e : f ρ with
  | ok ds ρ1 =>
    rw [e] at q
    dsimp only [R.bind] at q
    intro vs H0' H' E' m hd
    by_cases hl : ds.length ≤ 1000000
    · rw [if_pos hl] at q
      refine ⟨by rw [hd.length]; exact sizeM hl, al_lst E'.ex hd fun v C0 C gr s2 hv => ?_⟩
      obtain ⟨E3, m3⟩ := E'.post m gr s2
      exact q v C0 C E3 m3 hv
    · rw [if_neg hl] at q
      exact q.elim
  | ex x ρ1 =>
    rw [e] at q
    exact q
  | bad =>
    rw [e] at q
    exact q
end
end DW

set_option Elab.async false
set_option linter.all false
set_option maxRecDepth 100000
set_option maxHeartbeats 4000000
/-! DW6: rules for expressions: the text's side -/
namespace DW
open PySem L2
section
variable {X : Cx} {W : WX} {a b c e : Expr} {es : List Expr} {pos p p2 : Pos} {f1 f2 f3 : Rho → R Dt}

theorem de_int {i j} : DE X W (.Constant (.int i) j pos) (cst (.int i)) := fun F => PE.wk pe_int fun _ _ _ h => tC_cst (fun _ => .int i) h
theorem de_bl {i j} : DE X W (.Constant (.bool i) j pos) (cst (.bl i)) := fun F => PE.wk pe_bl fun _ _ _ h => tC_cst (fun _ => .bl i) h
theorem de_non {j} : DE X W (.Constant .none j pos) (cst .non) := fun F => PE.wk pe_non fun _ _ _ h => tC_cst (fun _ => .non) h
theorem de_str {x j} : DE X W (.Constant (.str x) j pos) (cst (.str x)) := fun F => PE.wk pe_str fun _ _ _ h => tC_cst (fun _ => .str x) h
theorem de_var (i : Nat) {x : Str} (hN : X.N[i]? = some x := by rfl) (hv : Vis X.env.scope x := by first | exact Or.inl rfl | exact Or.inr (Or.inl rfl) | exact Or.inr (Or.inr rfl)) (hd : (x == ("__debug__" : Str)) = false := by decide)
    (hcd : (x == ("__classdict__" : Str)) = false := by decide) : DE X W (.Name x pos) (var i) := fun F => PE.wk (pe_var hN hv hd hcd) fun _ _ _ h => tD_var h
theorem dk_var (i : Nat) {x : Str} (hN : X.N[i]? = some x := by rfl) (hv : Vis X.env.scope x := by first | exact Or.inl rfl | exact Or.inr (Or.inl rfl) | exact Or.inr (Or.inr rfl)) (hd : (x == ("__debug__" : Str)) = false := by decide)
    (hcd : (x == ("__classdict__" : Str)) = false := by decide) : DK X W (.Name x pos) (pkF i) := fun F => PE.wk (pe_var hN hv hd hcd) fun _ _ _ h => tK_pk h
theorem dk_of (h : DE X W e f1) : DK X W e f1 := fun F => PE.wk (h F) fun _ _ _ q => tK_of q
theorem de_gi {x : Str} {i : Int} {t : Tok} (hg : Gl X x) (hm : X.mg x = some (.int i t)) (hd : (x == ("__debug__" : Str)) = false := by decide) : DE X W (.Name x pos) (cst (.int i)) :=
  fun F => PE.wk (pe_glob (v := .int i) hg hm ⟨_, rfl⟩ hd) fun _ _ _ h => tC_cst (v := .int i) (fun _ => .int i) h
theorem de_gs {x : Str} {i : Str} {t : Tok} (hg : Gl X x) (hm : X.mg x = some (.str i t)) (hd : (x == ("__debug__" : Str)) = false := by decide) : DE X W (.Name x pos) (cst (.str i)) :=
  fun F => PE.wk (pe_glob (v := .str i) hg hm ⟨_, rfl⟩ hd) fun _ _ _ h => tC_cst (v := .str i) (fun _ => .str i) h

/-! ### operators -/
theorem de_op {op : Operator} {r : R2} {gg : Dt → Dt → Option Dt} (ho : OpR X (binaryOp op) r) (hd : OpD X.K r gg) (ha : DE X W a f1) (hb : DK X W b f2) : DE X W (.BinOp a op b pos) (bin gg f1 f2) :=
  fun F => PE.wk (pe_op ho (ha F) (hb F)) fun _ _ _ h => tOp_bin hd h
theorem de_opP {op : Operator} {r : R2} {gg : Dt → Dt → Option Dt} {i : Nat} {x : Str} (ho : OpR X (binaryOp op) r) (hd : OpD X.K r gg) (ha : PE X (.Name x p) (tVar i)) (hb : DK X W b f2) : DE X W (.BinOp (.Name x p) op b pos) (binP gg i f2) :=
  fun F => PE.wk (pe_op ho ha (hb F)) fun _ _ _ h => tOp_binP hd h
theorem de_add (ha : DE X W a f1) (hb : DK X W b f2) : DE X W (.BinOp a .Add b pos) (bin addD f1 f2) := de_op opr_add (opd_add _) ha hb
theorem de_sub (ha : DE X W a f1) (hb : DK X W b f2) : DE X W (.BinOp a .Sub b pos) (bin subD f1 f2) := de_op op_sub (opd_sub _) ha hb
theorem de_mul (ha : DE X W a f1) (hb : DK X W b f2) : DE X W (.BinOp a .Mult b pos) (bin mulD f1 f2) := de_op opr_mul (opd_mul _) ha hb
theorem de_fdiv (ha : DE X W a f1) (hb : DK X W b f2) : DE X W (.BinOp a .FloorDiv b pos) (bin fdivD f1 f2) := de_op op_fdivW (opd_fdiv _) ha hb
theorem de_mod (ha : DE X W a f1) (hb : DK X W b f2) : DE X W (.BinOp a .Mod b pos) (bin modD f1 f2) := de_op op_mod (opd_mod _) ha hb
theorem de_pow (ha : DE X W a f1) (hb : DK X W b f2) : DE X W (.BinOp a .Pow b pos) (bin powD f1 f2) := de_op op_pow (opd_pow _) ha hb
def negD : Dt → Option Dt
  | .int i => some (.int (-i))
  | _ => none
theorem de_neg (ha : DE X W a f1) : DE X W (.UnaryOp .USub a pos) (un negD f1) := fun F => PE.wk (pe_un un_neg (dk_of ha F)) fun _ _ _ h => tUn_un (fun x d z H0 H s hx hg Q k => by
  unfold negD at hg
  split at hg
  · cases hg
    cases hx
    exact ⟨_, rfl, sc s (.int _) k⟩
  · cases hg) h

/-! ### comparisons -/
theorem de_cmp {op : CmpOp} {r : R2} {gg : Dt → Dt → Option Dt} (ho : OpR X (compareOp op) r) (hd : OpD X.K r gg) (hm : behindInMarks op b = false) (ha : DE X W a f1) (hb : DK X W b f2) : DE X W (.Compare a [op] [b] pos) (bin gg f1 f2) :=
  fun F => PE.wk (pe_cmpR ho (ha F) (hb F) hm) fun _ _ _ h => tOp_bin hd h
theorem dt_cmp {op : CmpOp} {r : R2} {gg : Dt → Dt → Option Dt} (ho : OpR X (compareOp op) r) (hd : OpD X.K r gg) (hm : behindInMarks op b = false) (ha : DE X W a f1) (hb : DK X W b f2) : DT X W (.Compare a [op] [b] pos) (tstF (bin gg f1 f2)) :=
  fun F => PT.wk (pt_cmpR ho (ha F) (hb F) hm) fun _ _ _ h => tOp_bin hd (tTest_of h)
theorem de_cmpP {op : CmpOp} {r : R2} {gg : Dt → Dt → Option Dt} {i : Nat} {x : Str} (ho : OpR X (compareOp op) r) (hd : OpD X.K r gg) (hm : behindInMarks op b = false) (ha : PE X (.Name x p) (tVar i)) (hb : DK X W b f2) : DE X W (.Compare (.Name x p) [op] [b] pos) (binP gg i f2) :=
  fun F => PE.wk (pe_cmpR ho ha (hb F) hm) fun _ _ _ h => tOp_binP hd h
theorem dt_cmpP {op : CmpOp} {r : R2} {gg : Dt → Dt → Option Dt} {i : Nat} {x : Str} (ho : OpR X (compareOp op) r) (hd : OpD X.K r gg) (hm : behindInMarks op b = false) (ha : PE X (.Name x p) (tVar i)) (hb : DK X W b f2) : DT X W (.Compare (.Name x p) [op] [b] pos) (tstF (binP gg i f2)) :=
  fun F => PT.wk (pt_cmpR ho ha (hb F) hm) fun _ _ _ h => tOp_binP hd (tTest_of h)
theorem de_chain {op op' : CmpOp} {r r' : R2} {g1 g2 : Dt → Dt → Option Dt} (ho : OpR X (compareOp op) r) (h1 : OpD X.K r g1) (ho' : OpR X (compareOp op') r') (h2 : OpD X.K r' g2) (ha : DE X W a f1) (hb : DE X W b f2) (hc : DE X W c f3)
    (hm : lastMarks [op, op'] [b, c] = false := by with_unfolding_all rfl) : DE X W (.Compare a [op, op'] [b, c] pos) (chainD g1 g2 f1 f2 f3) :=
  fun F => PE.wk (pe_chain ho ho' (ha F) (hb F) (hc F) hm) fun _ _ _ h => tChain_of h1 h2 h
theorem dt_chain {op op' : CmpOp} {r r' : R2} {g1 g2 : Dt → Dt → Option Dt} (ho : OpR X (compareOp op) r) (h1 : OpD X.K r g1) (ho' : OpR X (compareOp op') r') (h2 : OpD X.K r' g2) (ha : DE X W a f1) (hb : DE X W b f2) (hc : DE X W c f3)
    (hm : lastMarks [op, op'] [b, c] = false := by with_unfolding_all rfl) : DT X W (.Compare a [op, op'] [b, c] pos) (tstF (chainD g1 g2 f1 f2 f3)) :=
  fun F => PT.wk (pt_chain ho ho' (ha F) (hb F) (hc F) hm) fun _ _ _ h => tChain_of h1 h2 (tTest_of h)

/-! ### tests -/
theorem dt_tru (ha : DK X W a f1) (he : ∀ whole, isTrue a X.env whole = (do let v ← whole; standAt a.pos; holding [v] (truthy v)) := by intro _; rfl) : DT X W a (truF f1) :=
  fun F => PT.wk (pt_truth (ha F) he) fun _ _ _ h => tTru_of h
variable {t1 t2 : Rho → R Bool} {rest : List Expr}
theorem dw_and1 (ha : DT X W a t1) : DW' X W (.BoolOp .And [a] pos) t1 := fun F => pw_and1 (ha F)
theorem dw_or1 (ha : DT X W a t1) : DW' X W (.BoolOp .Or [a] pos) t1 := fun F => pw_or1 (ha F)
theorem dw_and (ha : DT X W a t1) (hb : DW' X W (.BoolOp .And (b :: rest) pos) t2) : DW' X W (.BoolOp .And (a :: b :: rest) pos) (andT t1 t2) := fun F => PW.wk (pw_and (ha F) (hb F)) fun _ _ _ h => tAnd_of h
theorem dw_or (ha : DT X W a t1) (hb : DW' X W (.BoolOp .Or (b :: rest) pos) t2) : DW' X W (.BoolOp .Or (a :: b :: rest) pos) (orT t1 t2) := fun F => PW.wk (pw_or (ha F) (hb F)) fun _ _ _ h => tOr_of h
theorem dt_w (h : DW' X W a t1) : DT X W a t1 := fun F => (h F).pt
theorem dt_not (ha : DT X W a t1) : DT X W (.UnaryOp .Not a pos) (notT t1) := fun F => PT.wk (pt_not (ha F)) fun _ _ _ h => tNot_of h
theorem de_not (ha : DK X W a f1) : DE X W (.UnaryOp .Not a pos) (un notD f1) := fun F => PE.wk (pe_notT (ha F)) fun _ _ _ h => tNotT_of h
theorem de_one {op} (ha : DE X W a f1) : DE X W (.BoolOp op [a] pos) f1 := fun F => pe_one (ha F)
theorem de_and (ha : DE X W a f1) (hb : DE X W (.BoolOp .And (b :: rest) pos) f2) : DE X W (.BoolOp .And (a :: b :: rest) pos) (andV f1 f2) := fun F => PE.wk (pe_and (ha F) (hb F)) fun _ _ _ h => tAndV_of h
theorem de_or (ha : DE X W a f1) (hb : DE X W (.BoolOp .Or (b :: rest) pos) f2) : DE X W (.BoolOp .Or (a :: b :: rest) pos) (orV f1 f2) := fun F => PE.wk (pe_or (ha F) (hb F)) fun _ _ _ h => tOrV_of h
theorem de_if (hc : DT X W c t1) (ha : DE X W a f1) (hb : DE X W b f2) : DE X W (.IfExp c a b pos) (ifE t1 f1 f2) := fun F => PE.wk (pe_ifExp (hc F) (ha F) (hb F)) fun _ _ _ h => tIf_of h

/-! ### arguments, displays -/
variable {fa : Rho → R (List Dt)}
theorem da_nil : DA X W [] nilA := fun F => PA.wk pa_nil fun _ _ _ h => tNil_of h
theorem da_cons (ha : DE X W a f1) (hr : DA X W es fa) (he : starEach (a :: es) X.env = (false, eval a X.env) :: starEach es X.env := by rfl) : DA X W (a :: es) (consA f1 fa) := fun F => PA.wk (pa_cons (ha F) (hr F) he) fun _ _ _ h => tCons_of h
theorem de_tup {k} (h : DA X W es fa) : DE X W (.Tuple es k pos) (tupD fa) := fun F => PE.wk (pe_tup (h F)) fun _ _ _ q => tTup_of q
theorem de_lst (h : DA X W es fa) : DE X W (.List es pos) (lstD fa) := fun F => PE.wk (pe_lst (h F)) fun _ _ _ q => tLst_of q

/-! ### subscripts, slices -/
theorem de_ix (hu : X.A.units + 1 < cLine) (ha : DE X W a f1) (hb : DK X W b f2) (hs : PlainIx b) : DE X W (.Subscript a b pos) (bin ixD f1 f2) := fun F => PE.wk (pe_ix (ixr_all hu) (ha F) (hb F) hs) fun _ _ _ h => tOp_bin (opd_ix _) h
theorem de_ixP {i : Nat} {x : Str} (hu : X.A.units + 1 < cLine) (ha : PE X (.Name x p) (tVar i)) (hb : DK X W b f2) (hs : PlainIx b) : DE X W (.Subscript (.Name x p) b pos) (binP ixD i f2) := fun F => PE.wk (pe_ix (ixr_all hu) ha (hb F) hs) fun _ _ _ h => tOp_binP (opd_ix _) h
def tDP (g : Gx) (F : Fm) (W : WX) (f : Rho → R (Option Int)) : TO := fun σ H Q => ∃ H0 ρ, En g.K F H0 H σ ρ ∧ match f ρ with
  | .ok o ρ' => ∀ H0' H', En g.K F H0' H' σ ρ' → Mv σ ρ ρ' H0 H H0' H' → Q o H'
  | .ex e ρ' => XW g F W σ e ρ'
  | .bad => False
def DP (X : Cx) (W : WX) (e : Option Expr) (f : Rho → R (Option Int)) : Prop := ∀ F, PO X e (tDP (gx X) F W f)
theorem PO.wk {e : Option Expr} {t u : TO} (h : PO X e t) (k : ∀ σ H Q, u σ H Q → t σ H Q) : PO X e u := ⟨fun pins s σ H Q I q => h.run pins s σ H Q I (k σ H Q q)⟩
theorem dp_none : DP X W none noP := fun F => PO.wk po_none fun _ _ _ ⟨H0, ρ, E, q⟩ => q H0 _ E Mv.refl
theorem dp_some (h : DE X W e f1) : DP X W (some e) (someP f1) := fun F => PO.wk (po_some (h F)) fun σ H Q ⟨H0, ρ, E, q⟩ => by
  refine ⟨H0, ρ, E, ?_⟩
  unfold someP at q
  cases e : f1 ρ with
  | ok d ρ1 =>
    rw [e] at q
    dsimp only [R.bind] at q
    intro v H0' H' E' m hd
    cases d with
    | int i =>
      cases hd
      exact ⟨i, rfl, q H0' H' E' m⟩
    | _ => exact q.elim
  | ex x ρ1 =>
    rw [e] at q
    exact q
  | bad =>
    rw [e] at q
    exact q
def rSlAll (K : PySem.W.Frag) : V → Option Int → Option Int → Hp → VK → Prop := fun x lo hi H Q => rSlL K x lo hi H Q ∨ rSlA K x lo hi H Q ∨ rSlS x lo hi H Q
theorem slr_all : L2.SlR X (rSlAll X.K) := sl_list.or (sl_tupA.or sl_str)
theorem DaAll.cut {K : PySem.W.Frag} {H : Hp} {vs : List V} {ds : List Dt} (h : DaAll K H vs ds) (lo hi : Option Int) : DaAll K H (cutV vs lo hi) (cutD ds lo hi) := by
  unfold cutV cutD
  rw [h.length]
  exact (h.drop _).take _
theorem cut_whole {α : Type} (xs : List α) (lo hi : Option Int) (h : HT.sIx xs.length 0 lo = 0 ∧ HT.sIx xs.length xs.length hi = xs.length) : cutD xs lo hi = xs := by
  unfold cutD
  rw [h.1, h.2, List.drop_zero, Nat.sub_zero, List.take_length]
theorem cutD_map {α β : Type} (f : α → β) (xs : List α) (lo hi : Option Int) : cutD (xs.map f) lo hi = (cutD xs lo hi).map f := by
  unfold cutD
  rw [List.length_map, List.map_take, List.map_drop]
theorem slD_ok {K : PySem.W.Frag} {H0 H : Hp} {x : V} {d z : Dt} {lo hi : Option Int} (s : Same H0 H) (hx : Pk K H0 H x d) (hg : slD d lo hi = some z) {Q : VK} (k : ∀ v H0' H', Gr ⟨H0, H, none⟩ H0' H' → Same H0' H' → Da K H0' v z → Q v H') : rSlAll K x lo hi H Q := by
  unfold slD at hg
  split at hg
  · cases hg
    obtain ⟨a, vs, rfl, h1, h2⟩ := hx
    exact .inl ⟨a, vs, rfl, SqL.of h1, al_lst s (h2.cut _ _) k⟩
  · cases hg
    cases hx with
    | tup h1 h2 =>
      refine .inr (.inl ⟨_, _, rfl, seqT_mono s h1, fun hw => ?_, fun _ => al_tup s (h2.cut _ _) k⟩)
      rw [h2.length] at hw
      rw [cut_whole _ _ _ hw] at k
      exact sc s (.tup h1 h2) k
  · cases hg
    cases hx with
    | scr h1 =>
      refine .inl ⟨_, _, rfl, seqL_mono s h1, al_lst s ?_ k⟩
      rw [← cutD_map]
      exact (daInts _).cut _ _
  · split at hg
    · rename_i hl
      cases hg
      cases hx
      exact .inr (.inr ⟨_, rfl, sizeM hl, sc s (.str _) k⟩)
    · cases hg
  · cases hg
theorem tSl_of {g : Gx} {F : Fm} {W : WX} {f : Rho → R Dt} {fl fh : Rho → R (Option Int)} {σ : L2.St} {H : Hp} {Q : VK} (h : tD g F W (sl3 f fl fh) σ H Q) : tSl (rSlAll g.K) (tD g F W f) (tDP g F W fl) (tDP g F W fh) σ H Q := by
  obtain ⟨H0, ρ, E, q⟩ := h
  refine ⟨H0, ρ, E, ?_⟩
  unfold sl3 at q
  cases e1 : f ρ with
  | ok d ρ1 =>
    rw [e1] at q
    dsimp only [R.bind] at q
    intro x B0 B E1 m1 d1
    refine ⟨B0, ρ1, E1, ?_⟩
    cases e2 : fl ρ1 with
    | ok lo ρ2 =>
      rw [e2] at q
      dsimp only [R.bind] at q
      intro C0 C E2 m2
      refine ⟨C0, ρ2, E2, ?_⟩
      cases e3 : fh ρ2 with
      | ok hi ρ3 =>
        rw [e3] at q
        dsimp only [R.bind] at q
        intro D0 D E3 m3
        cases e4 : slD d lo hi with
        | none =>
          rw [e4] at q
          exact q.elim
        | some z =>
          rw [e4] at q
          refine slD_ok E3.ex (Da.pk E3.ex ((d1.mono m2.b0).mono m3.b0)) e4 fun v I0 I gr s4 d4 => ?_
          obtain ⟨E4, m4⟩ := E3.post ((m1.trans m2).trans m3) gr s4
          exact q v I0 I E4 m4 d4
      | ex x ρ1 =>
        rw [e3] at q
        exact q
      | bad =>
        rw [e3] at q
        exact q
    | ex x ρ1 =>
      rw [e2] at q
      exact q
    | bad =>
      rw [e2] at q
      exact q
  | ex x ρ1 =>
    rw [e1] at q
    exact q
  | bad =>
    rw [e1] at q
    exact q
theorem de_sl {lo hi : Option Expr} {fl fh : Rho → R (Option Int)} (he : DE X W e f1) (hl : DP X W lo fl) (hh : DP X W hi fh) : DE X W (.Subscript e (.Slice lo hi none p2) pos) (sl3 f1 fl fh) := fun F => PE.wk (pe_slice slr_all (he F) (hl F) (hh F)) fun _ _ _ h => tSl_of h

/-! ### built-in functions of one thing -/
theorem tCB1_of {g : Gx} {F : Fm} {W : WX} {f : Rho → R Dt} {r : List V → Hp → VK → Prop} {gg : Dt → Option Dt} (hr : UnD g.K (fun x H Q => r [x] H Q) gg) {σ : L2.St} {H : Hp} {Q : VK} (h : tD g F W (un gg f) σ H Q) : tCB r (tCons (tK g F W f) tNil) σ H Q := tUn_un (r := fun x H Q => r [x] H Q) hr h
theorem de_b1 {x : Str} {id : String} {r : List V → Hp → VK → Prop} {gg : Dt → Option Dt} (hc : CallR X (.builtin id) r) (hr : UnD X.K (fun x H Q => r [x] H Q) gg) (hg : Gl X x) (hm : X.mg x = none) (hv : bootBuiltins x = some (.builtin id)) (ha : DK X W e f1)
    (hn : x ≠ "__name__" := by decide) (hdb : (x == ("__debug__" : Str)) = false := by decide) (he : starEach (e :: []) X.env = (false, eval e X.env) :: starEach [] X.env := by rfl) (hpl : (backTo pos (starEach [] X.env)).any (·.1) = false := by rfl) :
    DE X W (.Call (.Name x p) [e] [] pos) (un gg f1) := fun F => PE.wk (pe_callB hc hg hm hv (pa_cons (ha F) pa_nil he) hn hdb he hpl) fun _ _ _ h => tCB1_of hr h
theorem de_t1 {x : Str} {T : String} {r : List V → Hp → VK → Prop} {gg : Dt → Option Dt} (hc : CallR X (.type T) r) (hr : UnD X.K (fun x H Q => r [x] H Q) gg) (hg : Gl X x) (hm : X.mg x = none) (hv : bootBuiltins x = some (.type T)) (ha : DK X W e f1)
    (hn : x ≠ "__name__" := by decide) (hdb : (x == ("__debug__" : Str)) = false := by decide) (he : starEach (e :: []) X.env = (false, eval e X.env) :: starEach [] X.env := by rfl) (hpl : (backTo pos (starEach [] X.env)).any (·.1) = false := by rfl) :
    DE X W (.Call (.Name x p) [e] [] pos) (un gg f1) := fun F => PE.wk (pe_callTy hc hg hm hv (pa_cons (ha F) pa_nil he) hn hdb he hpl) fun _ _ _ h => tCB1_of hr h
def lenD : Dt → Option Dt
  | .lst xs => some (.int xs.length)
  | .tup xs => some (.int xs.length)
  | .scr xs => some (.int xs.length)
  | .str z => if z.length ≤ 1000000 then some (.int z.length) else none
  | .dct kvs => some (.int kvs.length)
  | _ => none
def rLenA (K : PySem.W.Frag) : List V → Hp → VK → Prop := fun xs H Q => (∃ p ys, xs = [.ref p] ∧ (SqL K H p ys ∨ SqT K H p ys) ∧ Q (.int ys.length) H) ∨ (∃ z, xs = [.str z] ∧ z.length ≤ sizeLine ∧ Q (.int z.length) H) ∨ ∃ p kvs, xs = [.ref p] ∧ H p = some (.dK kvs) ∧ Q (.int kvs.length) H
theorem callr_len : CallR X (.builtin "len") (rLenA X.K) := callr_or call_len_seq (callr_or call_len_str (by
  intro pins s σ H xs us Q I r h
  obtain ⟨a, kvs, rfl, hd, q⟩ := h
  cases r with
  | cons r1 r2 =>
    cases r2
    cases r1
    exact d_len I (.inl hd) fun t s' I' => ⟨.int _, H, I', ⟨_, rfl⟩, q⟩))
theorem und_len (K : PySem.W.Frag) : UnD K (fun x H Q => rLenA K [x] H Q) lenD := by
  intro x d z H0 H s hx hg Q k
  unfold lenD at hg
  split at hg
  · cases hg
    obtain ⟨a, vs, rfl, h1, h2⟩ := hx
    exact .inl ⟨a, vs, rfl, .inl (SqL.of h1), by rw [h2.length]; exact sc s (.int _) k⟩
  · cases hg
    cases hx with
    | tup h1 h2 => exact .inl ⟨_, _, rfl, .inr (seqT_mono s h1), by rw [h2.length]; exact sc s (.int _) k⟩
  · cases hg
    cases hx with
    | scr h1 => exact .inl ⟨_, _, rfl, .inl (seqL_mono s h1), by rw [List.length_map]; exact sc s (.int _) k⟩
  · split at hg
    · rename_i hl
      cases hg
      cases hx
      exact .inr (.inl ⟨_, rfl, sizeM hl, sc s (.int _) k⟩)
    · cases hg
  · cases hg
    obtain ⟨a, ks, rfl, h1, h2⟩ := hx
    exact .inr (.inr ⟨a, ks, rfl, h1, by rw [h2.length]; exact sc s (.int _) k⟩)
  · cases hg
theorem de_len (hg : Gl X "len") (hm : X.mg "len" = none) (ha : DK X W e f1) (he : starEach (e :: []) X.env = (false, eval e X.env) :: starEach [] X.env := by rfl) : DE X W (.Call (.Name "len" p) [e] [] pos) (un lenD f1) := de_b1 callr_len (und_len _) hg hm PySem.boot_len ha (he := he)
/-- the ints of a list -/
def intsOf : List Dt → Option (List Int)
  | [] => some []
  | .int i :: ds => (intsOf ds).map (i :: ·)
  | _ :: _ => none
theorem intsOf_eq : ∀ {ds : List Dt} {ns : List Int}, intsOf ds = some ns → ds = ns.map .int
  | [], _, h => by cases h; rfl
  | .int i :: ds, ns, h => by
    obtain ⟨ms, h1, rfl⟩ := Option.map_eq_some_iff.mp h
    rw [intsOf_eq h1]
    rfl
  | .non :: _, _, h => by cases h
  | .bl _ :: _, _, h => by cases h
  | .str _ :: _, _, h => by cases h
  | .lst _ :: _, _, h => by cases h
  | .tup _ :: _, _, h => by cases h
  | .dct _ :: _, _, h => by cases h
  | .scr _ :: _, _, h => by cases h
theorem intsOf_map : ∀ ns : List Int, intsOf (ns.map .int) = some ns
  | [] => rfl
  | n :: ns => by
    show (intsOf (ns.map .int)).map (n :: ·) = _
    rw [intsOf_map ns]
    rfl
def sumD : Dt → Option Dt
  | .lst ds => (intsOf ds).map fun ns => .int ns.sum
  | _ => none
theorem und_sum (K : PySem.W.Frag) : UnD K (fun x H Q => rSum K [x] H Q) sumD := by
  intro x d z H0 H s hx hg Q k
  unfold sumD at hg
  split at hg
  · obtain ⟨ns, h, rfl⟩ := Option.map_eq_some_iff.mp hg
    obtain ⟨a, vs, rfl, h1, h2⟩ := hx
    rw [intsOf_eq h] at h2
    rw [h2.ints] at h1
    exact ⟨a, ns, rfl, SqL.of h1, sc s (.int _) k⟩
  · cases hg
theorem de_sum (hc : X.calm = true) (hg : Gl X "sum") (hm : X.mg "sum" = none) (ha : DK X W e f1) (he : starEach (e :: []) X.env = (false, eval e X.env) :: starEach [] X.env := by rfl) : DE X W (.Call (.Name "sum" p) [e] [] pos) (un sumD f1) :=
  de_b1 (cr_sum hc) (und_sum _) hg hm (by decide +kernel) ha (he := he)
/-- the greatest, the least -/
def maxL : Int → List Int → Int
  | m, [] => m
  | m, n :: ns => maxL (if m < n then n else m) ns
def minL : Int → List Int → Int
  | m, [] => m
  | m, n :: ns => minL (if n < m then n else m) ns
theorem maxL_spec : ∀ (ns : List Int) (m : Int), (maxL m ns = m ∨ maxL m ns ∈ ns) ∧ m ≤ maxL m ns ∧ ∀ y ∈ ns, y ≤ maxL m ns
  | [], m => ⟨.inl rfl, Int.le_refl _, fun _ h => nomatch h⟩
  | n :: ns, m => by
    obtain ⟨h1, h2, h3⟩ := maxL_spec ns (if m < n then n else m)
    show (maxL (if m < n then n else m) ns = m ∨ maxL (if m < n then n else m) ns ∈ n :: ns) ∧ m ≤ maxL (if m < n then n else m) ns ∧ ∀ y ∈ n :: ns, y ≤ maxL (if m < n then n else m) ns
    refine ⟨?_, ?_, fun y hy => ?_⟩
    · rcases h1 with h | h
      · rw [h]
        split
        · exact .inr List.mem_cons_self
        · exact .inl rfl
      · exact .inr (List.mem_cons_of_mem _ h)
    · exact Int.le_trans (by split <;> omega) h2
    · rcases List.mem_cons.mp hy with rfl | hy
      · exact Int.le_trans (by split <;> omega) h2
      · exact h3 y hy
theorem minL_spec : ∀ (ns : List Int) (m : Int), (minL m ns = m ∨ minL m ns ∈ ns) ∧ minL m ns ≤ m ∧ ∀ y ∈ ns, minL m ns ≤ y
  | [], m => ⟨.inl rfl, Int.le_refl _, fun _ h => nomatch h⟩
  | n :: ns, m => by
    obtain ⟨h1, h2, h3⟩ := minL_spec ns (if n < m then n else m)
    show (minL (if n < m then n else m) ns = m ∨ minL (if n < m then n else m) ns ∈ n :: ns) ∧ minL (if n < m then n else m) ns ≤ m ∧ ∀ y ∈ n :: ns, minL (if n < m then n else m) ns ≤ y
    refine ⟨?_, ?_, fun y hy => ?_⟩
    · rcases h1 with h | h
      · rw [h]
        split
        · exact .inr List.mem_cons_self
        · exact .inl rfl
      · exact .inr (List.mem_cons_of_mem _ h)
    · exact Int.le_trans h2 (by split <;> omega)
    · rcases List.mem_cons.mp hy with rfl | hy
      · exact Int.le_trans h2 (by split <;> omega)
      · exact h3 y hy
def maxD : Dt → Option Dt
  | .lst ds => (intsOf ds).bind fun ns => match ns with
    | [] => none
    | n :: ns => some (.int (maxL n ns))
  | _ => none
def minD : Dt → Option Dt
  | .lst ds => (intsOf ds).bind fun ns => match ns with
    | [] => none
    | n :: ns => some (.int (minL n ns))
  | _ => none
theorem und_max (K : PySem.W.Frag) : UnD K (fun x H Q => rMax K [x] H Q) maxD := by
  intro x d z H0 H s hx hg Q k
  unfold maxD at hg
  split at hg
  · obtain ⟨ns, h, hg⟩ := Option.bind_eq_some_iff.mp hg
    obtain ⟨a, vs, rfl, h1, h2⟩ := hx
    rw [intsOf_eq h] at h2
    rw [h2.ints] at h1
    cases ns with
    | nil => cases hg
    | cons n ns =>
      cases hg
      refine ⟨a, n :: ns, rfl, SqL.of h1, Nat.succ_pos _, fun m hm hl => ?_⟩
      obtain ⟨q1, q2, q3⟩ := maxL_spec ns n
      have e : m = maxL n ns := by
        have l1 : m ≤ maxL n ns := by
          rcases List.mem_cons.mp hm with rfl | hm
          · exact q2
          · exact q3 m hm
        have l2 : maxL n ns ≤ m := hl _ (by
          rcases q1 with q | q
          · rw [q]; exact List.mem_cons_self
          · exact List.mem_cons_of_mem _ q)
        omega
      rw [e]
      exact sc s (.int _) k
  · cases hg
theorem und_min (K : PySem.W.Frag) : UnD K (fun x H Q => rMin K [x] H Q) minD := by
  intro x d z H0 H s hx hg Q k
  unfold minD at hg
  split at hg
  · obtain ⟨ns, h, hg⟩ := Option.bind_eq_some_iff.mp hg
    obtain ⟨a, vs, rfl, h1, h2⟩ := hx
    rw [intsOf_eq h] at h2
    rw [h2.ints] at h1
    cases ns with
    | nil => cases hg
    | cons n ns =>
      cases hg
      refine ⟨a, n :: ns, rfl, SqL.of h1, Nat.succ_pos _, fun m hm hl => ?_⟩
      obtain ⟨q1, q2, q3⟩ := minL_spec ns n
      have e : m = minL n ns := by
        have l1 : minL n ns ≤ m := by
          rcases List.mem_cons.mp hm with rfl | hm
          · exact q2
          · exact q3 m hm
        have l2 : m ≤ minL n ns := hl _ (by
          rcases q1 with q | q
          · rw [q]; exact List.mem_cons_self
          · exact List.mem_cons_of_mem _ q)
        omega
      rw [e]
      exact sc s (.int _) k
  · cases hg
theorem de_max (hc : X.calm = true) (hg : Gl X "max") (hm : X.mg "max" = none) (ha : DK X W e f1) (he : starEach (e :: []) X.env = (false, eval e X.env) :: starEach [] X.env := by rfl) : DE X W (.Call (.Name "max" p) [e] [] pos) (un maxD f1) :=
  de_b1 (cr_max hc) (und_max _) hg hm (by decide +kernel) ha (he := he)
theorem de_min (hc : X.calm = true) (hg : Gl X "min") (hm : X.mg "min" = none) (ha : DK X W e f1) (he : starEach (e :: []) X.env = (false, eval e X.env) :: starEach [] X.env := by rfl) : DE X W (.Call (.Name "min" p) [e] [] pos) (un minD f1) :=
  de_b1 (cr_min hc) (und_min _) hg hm (by decide +kernel) ha (he := he)
def blsOf : List Dt → Option (List Bool)
  | [] => some []
  | .bl i :: ds => (blsOf ds).map (i :: ·)
  | _ :: _ => none
theorem blsOf_eq : ∀ {ds : List Dt} {ns : List Bool}, blsOf ds = some ns → ds = ns.map .bl
  | [], _, h => by cases h; rfl
  | .bl i :: ds, ns, h => by
    obtain ⟨ms, h1, rfl⟩ := Option.map_eq_some_iff.mp h
    rw [blsOf_eq h1]
    rfl
  | .non :: _, _, h => by cases h
  | .int _ :: _, _, h => by cases h
  | .str _ :: _, _, h => by cases h
  | .lst _ :: _, _, h => by cases h
  | .tup _ :: _, _, h => by cases h
  | .dct _ :: _, _, h => by cases h
  | .scr _ :: _, _, h => by cases h
theorem blsOf_map : ∀ ns : List Bool, blsOf (ns.map .bl) = some ns
  | [] => rfl
  | n :: ns => by
    show (blsOf (ns.map .bl)).map (n :: ·) = _
    rw [blsOf_map ns]
    rfl
def allD : Dt → Option Dt
  | .lst ds => (blsOf ds).map fun bs => .bl (bs.all id)
  | _ => none
theorem und_all (K : PySem.W.Frag) : UnD K (fun x H Q => rAll K [x] H Q) allD := by
  intro x d z H0 H s hx hg Q k
  unfold allD at hg
  split at hg
  · obtain ⟨ns, h, rfl⟩ := Option.map_eq_some_iff.mp hg
    obtain ⟨a, vs, rfl, h1, h2⟩ := hx
    rw [blsOf_eq h] at h2
    rw [h2.bls] at h1
    exact ⟨a, ns, rfl, SqL.of h1, sc s (.bl _) k⟩
  · cases hg
theorem de_all (hc : X.calm = true) (hg : Gl X "all") (hm : X.mg "all" = none) (ha : DK X W e f1) (he : starEach (e :: []) X.env = (false, eval e X.env) :: starEach [] X.env := by rfl) : DE X W (.Call (.Name "all" p) [e] [] pos) (un allD f1) :=
  de_b1 (cr_all hc) (und_all _) hg hm (by decide +kernel) ha (he := he)
/-! ### tuple(x), list(x), int(x) -/
def tupleD : Dt → Option Dt
  | .lst ds => some (.tup ds)
  | .tup ds => some (.tup ds)
  | .scr ns => some (.tup (ns.map .int))
  | _ => none
theorem und_tuple : UnD X.K (fun x H Q => ∃ p ys, [x] = [V.ref p] ∧ ((SqL X.K H p ys ∧ ∀ l, H l = none → Q (.ref l) (upd H l (.tup ys))) ∨ (SqT X.K H p ys ∧ Q (.ref p) H))) tupleD := by
  intro x d z H0 H s hx hg Q k
  unfold tupleD at hg
  split at hg
  · cases hg
    obtain ⟨a, vs, rfl, h1, h2⟩ := hx
    exact ⟨a, vs, rfl, .inl ⟨SqL.of h1, al_tup s h2 k⟩⟩
  · cases hg
    cases hx with
    | tup h1 h2 => exact ⟨_, _, rfl, .inr ⟨seqT_mono s h1, sc s (.tup h1 h2) k⟩⟩
  · cases hg
    cases hx with
    | scr h1 => exact ⟨_, _, rfl, .inl ⟨seqL_mono s h1, al_tup s (daInts _) k⟩⟩
  · cases hg
theorem de_tuple (hg : Gl X "tuple") (hm : X.mg "tuple" = none) (ha : DK X W e f1) (he : starEach (e :: []) X.env = (false, eval e X.env) :: starEach [] X.env := by rfl) : DE X W (.Call (.Name "tuple" p) [e] [] pos) (un tupleD f1) :=
  de_t1 call_tuple_of und_tuple hg hm (by decide +kernel) ha (he := he)
def listD : Dt → Option Dt
  | .lst ds => some (.lst ds)
  | .tup ds => some (.lst ds)
  | .scr ns => some (.lst (ns.map .int))
  | _ => none
theorem und_list : UnD X.K (fun x H Q => ∃ p ys, [x] = [V.ref p] ∧ (SqL X.K H p ys ∨ SqT X.K H p ys) ∧ ∀ l, H l = none → Q (.ref l) (upd H l (.lst ys))) listD := by
  intro x d z H0 H s hx hg Q k
  unfold listD at hg
  split at hg
  · cases hg
    obtain ⟨a, vs, rfl, h1, h2⟩ := hx
    exact ⟨a, vs, rfl, .inl (SqL.of h1), al_lst s h2 k⟩
  · cases hg
    cases hx with
    | tup h1 h2 => exact ⟨_, _, rfl, .inr (seqT_mono s h1), al_lst s h2 k⟩
  · cases hg
    cases hx with
    | scr h1 => exact ⟨_, _, rfl, .inl (seqL_mono s h1), al_lst s (daInts _) k⟩
  · cases hg
theorem de_list (hg : Gl X "list") (hm : X.mg "list" = none) (ha : DK X W e f1) (he : starEach (e :: []) X.env = (false, eval e X.env) :: starEach [] X.env := by rfl) : DE X W (.Call (.Name "list" p) [e] [] pos) (un listD f1) :=
  de_t1 call_list_of und_list hg hm (by decide +kernel) ha (he := he)
def intD : Dt → Option Dt
  | .int i => some (.int i)
  | .bl b => some (.int (if b then 1 else 0))
  | _ => none
theorem und_int (K : PySem.W.Frag) : UnD K (fun x H Q => (∃ i, [x] = [V.int i] ∧ Q (.int i) H) ∨ ∃ k, [x] = [V.bl k] ∧ Q (.int (if k then 1 else 0)) H) intD := by
  intro x d z H0 H s hx hg Q k
  unfold intD at hg
  split at hg
  · cases hg
    cases hx
    exact .inl ⟨_, rfl, sc s (.int _) k⟩
  · cases hg
    cases hx
    exact .inr ⟨_, rfl, sc s (.int _) k⟩
  · cases hg
theorem de_toint (hg : Gl X "int") (hm : X.mg "int" = none) (ha : DK X W e f1) (he : starEach (e :: []) X.env = (false, eval e X.env) :: starEach [] X.env := by rfl) : DE X W (.Call (.Name "int" p) [e] [] pos) (un intD f1) :=
  de_t1 call_int1 (und_int _) hg hm (by decide +kernel) ha (he := he)
end
end DW

set_option Elab.async false
set_option linter.all false
set_option maxRecDepth 100000
set_option maxHeartbeats 4000000
/-! DW7: isinstance, calls of defs, statements, a def's promise -/
namespace DW
open PySem PySem.Spec PyProof.Rows L2

/-! ### isinstance -/
inductive Ty where
  | int | bool | tuple | str | list | dict | none
  deriving DecidableEq
def Ty.nm : Ty → String
  | .int => "int" | .bool => "bool" | .tuple => "tuple" | .str => "str" | .list => "list" | .dict => "dict" | .none => "NoneType"
def tyD : Dt → Ty
  | .non => .none
  | .bl _ => .bool
  | .int _ => .int
  | .str _ => .str
  | .lst _ => .list
  | .tup _ => .tuple
  | .dct _ => .dict
  | .scr _ => .list
  | .xo _ _ _ => .none
def isiT : Ty → Ty → Bool
  | .int, .int => true | .int, .bool => true | .bool, .bool => true | .tuple, .tuple => true | .str, .str => true | .list, .list => true | .dict, .dict => true | .none, .none => true
  | _, _ => false
theorem kit_T (T t : Ty) (h : T ≠ .none) : kitB t.nm T.nm = some (isiT T t) := by
  cases T <;> cases t <;> first | exact absurd rfl h | decide +kernel
def isiD (T : Ty) (d : Dt) : Option Dt := match d with
  | .xo _ _ _ => none
  | d => some (.bl (isiT T (tyD d)))
theorem isiD_some {T : Ty} {d z : Dt} (h : isiD T d = some z) : z = .bl (isiT T (tyD d)) ∧ ∀ c f v, d ≠ .xo c f v := by
  cases d with
  | xo _ _ _ => cases h
  | _ => cases h; exact ⟨rfl, fun _ _ _ z => nomatch z⟩
theorem tyX_of {K : PySem.W.Frag} {H0 H : Hp} {v : V} {d : Dt} (s : Same H0 H) (h : Pk K H0 H v d) (hx : ∀ c f v, d ≠ .xo c f v) : TyX K H v (.type (tyD d).nm) := by
  cases d with
  | xo c f v => exact absurd rfl (hx c f v)
  | non => cases h; exact .base .non
  | bl b => cases h; exact .base (.bl b)
  | int b => cases h; exact .base (.int b)
  | str b => cases h; exact .base (.str b)
  | lst ds =>
    obtain ⟨a, vs, rfl, h1, _⟩ := h
    exact .base (.lst h1)
  | dct ds =>
    obtain ⟨a, vs, rfl, h1, _⟩ := h
    exact .base (.dK h1)
  | tup ds =>
    cases h with
    | tup h1 h2 =>
      rcases seqT_mono s h1 with (h | ⟨o, h⟩) | ⟨o, its, n, h, c, _⟩
      · exact .base (.tup h)
      · exact .fTuple h
      · exact .kTuple h c
  | scr ds =>
    cases h with
    | scr h1 =>
      rcases seqL_mono s h1 with (h | ⟨o, h⟩) | ⟨o, its, n, h, c, _⟩
      · exact .base (.lst h)
      · exact .base (.frz h)
      · exact .kList h c
section
variable {X : Cx} {W : WX} {a b c e : Expr} {es : List Expr} {pos p p2 : Pos} {f1 f2 f3 : Rho → R Dt}
theorem de_isi (T : Ty) {x : Str} (hT : T ≠ .none) (hg : Gl X "isinstance") (hm : X.mg "isinstance" = none) (hgT : Gl X x) (hmT : X.mg x = none) (hvT : bootBuiltins x = some (.type T.nm)) (ha : DK X W e f1) (hnx : x ≠ "__name__" := by decide) (hdx : (x == ("__debug__" : Str)) = false := by decide)
    (he : starEach (e :: [.Name x p2]) X.env = (false, eval e X.env) :: starEach [.Name x p2] X.env := by rfl) (hpl : (backTo pos (starEach [.Name x p2] X.env)).any (·.1) = false := by rfl) (he2 : starEach (.Name x p2 :: []) X.env = (false, eval (.Name x p2) X.env) :: starEach [] X.env := by rfl) :
    DE X W (.Call (.Name "isinstance" p) [e, .Name x p2] [] pos) (un (isiD T) f1) := fun F =>
  PE.wk (pe_callB call_isi hg hm (by decide +kernel) (pa_cons (ha F) (pa_cons (pe_bltn (v := .ty T.nm) hgT hmT hvT rfl hnx hdx) pa_nil he2) he) (he := he) (hpl := hpl)) fun σ H Q h =>
    tUn_un (r := fun x H Q => rIsi X.K [x, .ty T.nm] H Q) (fun x d z H0 H s hx hg Q k => by
      obtain ⟨rfl, hn⟩ := isiD_some hg
      exact ⟨x, .ty T.nm, _, _, _, rfl, .ty _, tyX_of s hx hn, kit_ty (kit_T T (tyD d) hT), sc s (.bl _) k⟩) h

/-! ### a def's promise -/
inductive FR where
  | ok (s : Sl) | ex (e : Xc) | bad
abbrev Fn := List Dt → FR
def envOf (n : Nat) (ds : List Dt) : Rho := ds.map (fun d => some (.fr d)) ++ List.replicate (n - ds.length) none
def runF (np nn : Nat) (body : Rho → SR) : Fn := fun ds => if ds.length = np then match body (envOf nn ds) with
  | .rt s _ => .ok s
  | .nx _ => .ok (.fr .non)
  | .ex e _ => .ex e
  | _ => .bad
  else .bad
def spF (g : Gx) (fn : Fn) : Sp := fun vs H Q _ => ∃ H0 ds, Same H0 H ∧ TbOk g.K H0 H ∧ DaAll g.K H0 vs ds ∧ match fn ds with
  | .ok s => ∀ v H0' H', Gw ⟨H0, H, none⟩ H0' H' → TbOk g.K H0' H' → Same H0' H' → SlR g.K ⟨H0, H, none⟩ H0' H' v s → Q v H'
  | _ => False
abbrev WF : WX := fun _ _ _ _ => False
/-- a def with a dict handed in that it may change -/
inductive FM where
  | ok (s : Sl) (kvs : List (Key × Dt)) | ex (e : Xc) | bad
abbrev FnM := List (Key × Dt) → List Dt → FM
def envM (n : Nat) (kvs : List (Key × Dt)) (ds : List Dt) : Rho := some (.io kvs) :: (ds.map (fun d => some (.fr d)) ++ List.replicate (n - (ds.length + 1)) none)
def ioOf (ρ : Rho) : Option (List (Key × Dt)) := match ρ with
  | some (.io kvs) :: _ => some kvs
  | _ => none
def runM (np nn : Nat) (body : Rho → SR) : FnM := fun kvs ds => if ds.length + 1 = np then match body (envM nn kvs ds) with
  | .rt s ρ => match ioOf ρ with
    | some kvs' => .ok s kvs'
    | none => .bad
  | .nx ρ => match ioOf ρ with
    | some kvs' => .ok (.fr .non) kvs'
    | none => .bad
  | .ex e _ => .ex e
  | _ => .bad
  else .bad
def spM (g : Gx) (fn : FnM) : Sp := fun vs H Q _ => ∃ H0 a ks kvs vs' ds, vs = .ref a :: vs' ∧ Same H0 H ∧ TbOk g.K H0 H ∧ H0 a = none ∧ H a = some (.dK ks) ∧ DaKv g.K H0 ks kvs ∧ DaAll g.K H0 vs' ds ∧ match fn kvs ds with
  | .ok s kvs' => ∀ v ks' H0' H', Gw ⟨H0, H, some a⟩ H0' H' → TbOk g.K H0' H' → Same H0' H' → H' a = some (.dK ks') → DaKv g.K H0' ks' kvs' → SlR g.K ⟨H0, H, some a⟩ H0' H' v s → Q v H'
  | _ => False

theorem envOf_get {n : Nat} {ds : List Dt} {i : Nat} {s : Sl} (h : (envOf n ds)[i]? = some (some s)) : ∃ d, s = .fr d ∧ ds[i]? = some d := by
  unfold envOf at h
  by_cases hi : i < ds.length
  · rw [List.getElem?_append_left (by simpa using hi), List.getElem?_map] at h
    cases e : ds[i]? with
    | none => rw [e] at h; cases h
    | some d =>
      rw [e] at h
      cases h
      exact ⟨d, rfl, rfl⟩
  · rw [List.getElem?_append_right (by simpa using Nat.le_of_not_lt hi)] at h
    obtain ⟨h1, h2⟩ := List.getElem?_eq_some_iff.mp h
    rw [List.getElem_replicate] at h2
    cases h2
theorem start_get {N : List Str} {vs : List V} {i : Nat} {v : V} (h : vs[i]? = some v) : (L2.start N vs)[i]? = some (some v) := by
  unfold L2.start
  have hi := lt_of_get h
  rw [List.getElem?_append_left (by simpa using hi), List.getElem?_map, h]
  rfl
theorem en_start {K : PySem.W.Frag} {H0 H : Hp} {N : List Str} {vs : List V} {ds : List Dt} (s : Same H0 H) (t : TbOk K H0 H) (h : DaAll K H0 vs ds) (hl : ds.length ≤ N.length) : En K ⟨H0, H, none⟩ H0 H (L2.start N vs) (envOf N.length ds) where
  gr := Gw.refl H0 H none
  tb := t
  ex := s
  len := by
    unfold L2.start envOf
    simp only [List.length_append, List.length_map, List.length_replicate, h.length]
  sl := fun i s hs => by
    obtain ⟨d, rfl, hd⟩ := envOf_get hs
    obtain ⟨v, h1, h2⟩ := h.get hd
    exact ⟨v, start_get h1, h2⟩
  sep := fun i j s t a _ h1 _ o1 _ _ => by
    obtain ⟨d, rfl, _⟩ := envOf_get h1
    cases o1
  io := fun a z => nomatch z
  io1 := fun i kvs h => by
    obtain ⟨d, z, _⟩ := envOf_get h
    cases z
theorem envM_get {n : Nat} {kvs : List (Key × Dt)} {ds : List Dt} {i : Nat} {s : Sl} (h : (envM n kvs ds)[i]? = some (some s)) : (i = 0 ∧ s = .io kvs) ∨ ∃ j d, i = j + 1 ∧ s = .fr d ∧ ds[j]? = some d := by
  cases i with
  | zero =>
    simp [envM] at h
    exact .inl ⟨rfl, h.symm⟩
  | succ j =>
    refine .inr ⟨j, ?_⟩
    have h' : (ds.map (fun d => some (Sl.fr d)) ++ List.replicate (n - (ds.length + 1)) none)[j]? = some (some s) := by simpa [envM] using h
    by_cases hi : j < ds.length
    · rw [List.getElem?_append_left (by simpa using hi), List.getElem?_map] at h'
      cases e : ds[j]? with
      | none => rw [e] at h'; cases h'
      | some d =>
        rw [e] at h'
        cases h'
        exact ⟨d, rfl, rfl, rfl⟩
    · rw [List.getElem?_append_right (by simpa using Nat.le_of_not_lt hi)] at h'
      obtain ⟨h1, h2⟩ := List.getElem?_eq_some_iff.mp h'
      rw [List.getElem_replicate] at h2
      cases h2
theorem en_startM {K : PySem.W.Frag} {H0 H : Hp} {N : List Str} {a : Addr} {ks : List (Key × V)} {kvs : List (Key × Dt)} {vs : List V} {ds : List Dt} (s : Same H0 H) (t : TbOk K H0 H) (h0 : H0 a = none) (ha : H a = some (.dK ks)) (hk : DaKv K H0 ks kvs) (h : DaAll K H0 vs ds) (hl : ds.length + 1 ≤ N.length) :
    En K ⟨H0, H, some a⟩ H0 H (L2.start N (.ref a :: vs)) (envM N.length kvs ds) where
  gr := Gw.refl H0 H (some a)
  tb := t
  ex := s
  len := by
    unfold L2.start envM
    simp only [List.length_append, List.length_map, List.length_replicate, List.length_cons, h.length]
    omega
  sl := fun i s hs => by
    rcases envM_get hs with ⟨rfl, rfl⟩ | ⟨j, d, rfl, rfl, hd⟩
    · exact ⟨.ref a, start_get rfl, a, ks, rfl, h0, rfl, ha, hk⟩
    · obtain ⟨v, h1, h2⟩ := h.get hd
      exact ⟨v, start_get (by simpa using h1), h2⟩
  sep := fun i j s t b hij h1 _ o1 _ _ => by
    rcases envM_get h1 with ⟨_, rfl⟩ | ⟨_, d, _, rfl, _⟩ <;> cases o1
  io := fun b z => by
    cases z
    refine ⟨start_get rfl, ⟨kvs, rfl⟩, ?_⟩
    show H a ≠ none
    rw [ha]
    exact fun z => nomatch z
  io1 := fun i kvs' h => by
    rcases envM_get h with ⟨rfl, _⟩ | ⟨j, d, _, z, _⟩
    · rfl
    · cases z
end
section
variable {P : Program} {w : World} {K : PySem.W.Frag} {mg : Str → Option Value} {base : Heap}
/-- THE RULE for a def that raises nothing -/
theorem fn0 {x qual : Str} {st : Stmt} {f : Addr} {fd : FuncData} {N ps : List Str} {k : Nat} {body : Rho → SR} (F : Fun K x qual st f fd) (S : FnScope N ps (defScope st)) (hN : ps.length ≤ N.length)
    (hb : ∀ (cdv : Value) (A : Around) (outer : List Env) (s : Shared) (H : Hp) (E : XK), Room k (A.deeper (envOfC qual (defScope st) s.heap.objs.size f cdv)) → DSs (cxOf CX0 P w K mg base N qual (defScope st) f cdv A outer s H E).nox WF (defBody st) body) :
    FnOk P w K mg base CX0 (k + 1) f fd ps (spF ⟨K, mg⟩ (runF ps.length N.length body)) := by
  have lem : ∀ ds : List Dt, (∃ s, runF ps.length N.length body ds = .ok s) → ds.length = ps.length := fun ds ⟨s, h⟩ => by
    unfold runF at h
    split at h
    · assumption
    · cases h
  refine F.ok S (fun vs H Q E h => ?_) (fun cdv A outer s H vs Q E hr h => ?_)
  · obtain ⟨H0, ds, h1, tb, h2, h3⟩ := h
    cases e : runF ps.length N.length body ds with
    | ok s => rw [h2.length]; exact lem ds ⟨s, e⟩
    | ex _ => rw [e] at h3; exact h3.elim
    | bad => rw [e] at h3; exact h3.elim
  · obtain ⟨H0, ds, h1, tb, h2, h3⟩ := h
    have hl : ds.length = ps.length := by
      cases e : runF ps.length N.length body ds with
      | ok s => exact lem ds ⟨s, e⟩
      | ex _ => rw [e] at h3; exact h3.elim
      | bad => rw [e] at h3; exact h3.elim
    refine ⟨_, hb cdv A outer s H E hr ⟨H0, H, none⟩, H0, envOf N.length ds, en_start h1 tb h2 (by omega), ?_⟩
    unfold runF at h3
    rw [if_pos hl] at h3
    cases e : body (envOf N.length ds) with
    | nx ρ' =>
      rw [e] at h3
      exact fun σ' H0' H' E' _ => h3 _ H0' H' E'.gr E'.tb E'.ex (Da.non : Da K H0' .non .non)
    | rt s ρ' =>
      rw [e] at h3
      exact fun v σ' H0' H' E' hs => h3 _ H0' H' E'.gr E'.tb E'.ex hs
    | bk _ => rw [e] at h3; exact h3.elim
    | ct _ => rw [e] at h3; exact h3.elim
    | ex _ _ => rw [e] at h3; exact h3.elim
    | bad => rw [e] at h3; exact h3.elim
theorem fnM {x qual : Str} {st : Stmt} {f : Addr} {fd : FuncData} {N ps : List Str} {k : Nat} {body : Rho → SR} (F : Fun K x qual st f fd) (S : FnScope N ps (defScope st)) (hN : ps.length ≤ N.length)
    (hb : ∀ (cdv : Value) (A : Around) (outer : List Env) (s : Shared) (H : Hp) (E : XK), Room k (A.deeper (envOfC qual (defScope st) s.heap.objs.size f cdv)) → DSs (cxOf CX0 P w K mg base N qual (defScope st) f cdv A outer s H E).nox WF (defBody st) body) :
    FnOk P w K mg base CX0 (k + 1) f fd ps (spM ⟨K, mg⟩ (runM ps.length N.length body)) := by
  have lem : ∀ kvs (ds : List Dt), (∃ s kvs', runM ps.length N.length body kvs ds = .ok s kvs') → ds.length + 1 = ps.length := fun kvs ds ⟨s, kvs', h⟩ => by
    unfold runM at h
    split at h
    · assumption
    · cases h
  have lem2 : ∀ {Q : VK} {E : XK} {vs : List V} {H : Hp}, spM ⟨K, mg⟩ (runM ps.length N.length body) vs H Q E → vs.length = ps.length := fun {Q E vs H} h => by
    obtain ⟨H0, a, ks, kvs, vs', ds, rfl, h1, tb, h2, h3, h4, h5, h6⟩ := h
    cases e : runM ps.length N.length body kvs ds with
    | ok s kvs' => rw [List.length_cons, h5.length]; exact lem kvs ds ⟨s, kvs', e⟩
    | ex _ => rw [e] at h6; exact h6.elim
    | bad => rw [e] at h6; exact h6.elim
  refine F.ok S (fun vs H Q E h => lem2 h) (fun cdv A outer s H vs Q E hr h => ?_)
  have hvl := lem2 h
  obtain ⟨H0, a, ks, kvs, vs', ds, rfl, h1, tb, h2, h3, h4, h5, h6⟩ := h
  have hl : ds.length + 1 = ps.length := by rw [List.length_cons, h5.length] at hvl; exact hvl
  refine ⟨_, hb cdv A outer s H E hr ⟨H0, H, some a⟩, H0, envM N.length kvs ds, en_startM h1 tb h2 h3 h4 h5 (by omega), ?_⟩
  unfold runM at h6
  rw [if_pos hl] at h6
  have atIo : ∀ {σ' : L2.St} {ρ' : Rho} {H0' H' : Hp} {kvs' : List (Key × Dt)}, En K ⟨H0, H, some a⟩ H0' H' σ' ρ' → ioOf ρ' = some kvs' → ∃ ks', H' a = some (.dK ks') ∧ DaKv K H0' ks' kvs' := fun {σ' ρ' H0' H' kvs'} E' hio => by
    obtain ⟨y1, ⟨kv, y2⟩, _⟩ := E'.io a rfl
    obtain ⟨v, z1, b, ks2, rfl, z2, z3, z4, z5⟩ := E'.sl 0 _ y2
    rw [y1] at z1
    cases z1
    refine ⟨ks2, z4, ?_⟩
    cases ρ' with
    | nil => cases y2
    | cons x r =>
      have hx : x = some (.io kv) := by simpa using y2
      subst hx
      have : kv = kvs' := by simpa [ioOf] using hio
      subst this
      exact z5
  cases e : body (envM N.length kvs ds) with
  | nx ρ' =>
    rw [e] at h6
    intro σ' H0' H' E' _
    cases e2 : ioOf ρ' with
    | none => dsimp only at h6; rw [e2] at h6; exact h6.elim
    | some kvs' =>
      dsimp only at h6
      rw [e2] at h6
      obtain ⟨ks', q1, q2⟩ := atIo E' e2
      exact h6 _ ks' H0' H' E'.gr E'.tb E'.ex q1 q2 (Da.non : Da K H0' .non .non)
  | rt s ρ' =>
    rw [e] at h6
    intro v σ' H0' H' E' hs
    cases e2 : ioOf ρ' with
    | none => dsimp only at h6; rw [e2] at h6; exact h6.elim
    | some kvs' =>
      dsimp only at h6
      rw [e2] at h6
      obtain ⟨ks', q1, q2⟩ := atIo E' e2
      exact h6 _ ks' H0' H' E'.gr E'.tb E'.ex q1 q2 hs
  | bk _ => rw [e] at h6; exact h6.elim
  | ct _ => rw [e] at h6; exact h6.elim
  | ex _ _ => rw [e] at h6; exact h6.elim
  | bad => rw [e] at h6; exact h6.elim
end

/-! ### calls of defs -/
def callF (fn : Fn) (fa : Rho → R (List Dt)) : Rho → R Dt := fun ρ => (fa ρ).bind fun ds ρ1 => match fn ds with
  | .ok (.fr d) => .ok d ρ1
  | _ => .bad
def callO (fn : Fn) (fa : Rho → R (List Dt)) : Rho → R Sl := fun ρ => (fa ρ).bind fun ds ρ1 => match fn ds with
  | .ok (.raw _ _) => .bad
  | .ok s => .ok s ρ1
  | _ => .bad
/-- the dict in a slot, what stands there when it has become another -/
def dAt (i : Nat) (ρ : Rho) : Option (List (Key × Dt)) := match (ρ[i]? : Option (Option Sl)) with
  | some (some (.od kvs)) => some kvs
  | some (some (.io kvs)) => some kvs
  | _ => none
def dPut (i : Nat) (kvs' : List (Key × Dt)) (ρ : Rho) : Rho := match (ρ[i]? : Option (Option Sl)) with
  | some (some (.od _)) => ρ.set i (some (.od kvs'))
  | some (some (.io _)) => ρ.set i (some (.io kvs'))
  | _ => ρ
def callM (fn : FnM) (i : Nat) (fa : Rho → R (List Dt)) : Rho → R Dt := fun ρ => match dAt i ρ with
  | none => .bad
  | some _ => (fa ρ).bind fun ds ρ1 => match dAt i ρ1 with
    | none => .bad
    | some kvs => match fn kvs ds with
      | .ok (.fr d) kvs' => .ok d (dPut i kvs' ρ1)
      | _ => .bad
section
variable {g : Gx} {F : Fm} {W : WX} {σ : L2.St} {H : Hp} {Q : VK}
theorem tCall_of {fn : Fn} {fa : Rho → R (List Dt)} {E : XK} (h : tD g F W (callF fn fa) σ H Q) : tCall (spF g fn) [] E (tDA g F W fa) σ H Q := by
  obtain ⟨H0, ρ, E, q⟩ := h
  refine ⟨H0, ρ, E, ?_⟩
  unfold callF at q
  cases e : fa ρ with
  | ok ds ρ1 =>
    rw [e] at q
    dsimp only [R.bind] at q
    intro vs H0' H' E' m hd
    rw [List.append_nil]
    refine ⟨H0', ds, E'.ex, E'.tb, hd, ?_⟩
    cases e2 : fn ds with
    | ok s =>
      rw [e2] at q
      cases s with
      | fr d =>
        intro v C0 C gr tt s2 hv
        obtain ⟨E3, m3⟩ := E'.postW m gr tt s2
        exact q v C0 C E3 m3 hv
      | _ => exact q.elim
    | ex _ => rw [e2] at q; exact q.elim
    | bad => rw [e2] at q; exact q.elim
  | ex x ρ1 =>
    rw [e] at q
    exact q
  | bad =>
    rw [e] at q
    exact q
theorem tCallO_of {fn : Fn} {fa : Rho → R (List Dt)} {E : XK} (h : tO g F W (callO fn fa) σ H Q) : tCall (spF g fn) [] E (tDA g F W fa) σ H Q := by
  obtain ⟨H0, ρ, E, q⟩ := h
  refine ⟨H0, ρ, E, ?_⟩
  unfold callO at q
  cases e : fa ρ with
  | ok ds ρ1 =>
    rw [e] at q
    dsimp only [R.bind] at q
    intro vs H0' H' E' m hd
    rw [List.append_nil]
    refine ⟨H0', ds, E'.ex, E'.tb, hd, ?_⟩
    cases e2 : fn ds with
    | ok s =>
      rw [e2] at q
      intro v C0 C gr tt s2 hv
      obtain ⟨E3, m3⟩ := E'.postW m gr tt s2
      have up : ∀ a, H' a = none → F.H a = none := fun a ha => by
        cases z : F.H a with
        | none => rfl
        | some o => exact absurd ha (E'.still (by rw [z]; exact fun z => nomatch z))
      cases s with
      | fr d => exact q v C0 C E3 m3 hv (fun z => nomatch z)
      | ol ds =>
        obtain ⟨a, us, rfl, q1, q2, q3, q4⟩ := hv
        exact q _ C0 C E3 m3 ⟨a, us, rfl, q1, up a q2, q3, q4⟩ (fun _ b z => by cases z; exact m.fresh q2)
      | od ds =>
        obtain ⟨a, us, rfl, q1, q2, q3, q4⟩ := hv
        exact q _ C0 C E3 m3 ⟨a, us, rfl, q1, up a q2, q3, q4⟩ (fun _ b z => by cases z; exact m.fresh q2)
      | raw w _ => exact q.elim
      | io ds =>
        obtain ⟨a, us, rfl, q1, q2, q3, q4⟩ := hv
        cases q2
    | ex _ => rw [e2] at q; exact q.elim
    | bad => rw [e2] at q; exact q.elim
  | ex x ρ1 =>
    rw [e] at q
    exact q
  | bad =>
    rw [e] at q
    exact q
theorem dAt_put {K : PySem.W.Frag} {H0 H : Hp} {ρ : Rho} {i : Nat} {kvs : List (Key × Dt)} (E : En K F H0 H σ ρ) (h : dAt i ρ = some kvs) : ∃ a ks, σ[i]? = some (some (.ref a)) ∧ H0 a = none ∧ H a = some (.dK ks) ∧ DaKv K H0 ks kvs ∧ OwnAt σ ρ a ∧
    ∀ (ks' : List (Key × V)) (kvs' : List (Key × Dt)) H0' H', Gw ⟨H0, H, some a⟩ H0' H' → TbOk K H0' H' → Same H0' H' → H' a = some (.dK ks') → DaKv K H0' ks' kvs' → En K F H0' H' σ (dPut i kvs' ρ) ∧ Mv σ ρ (dPut i kvs' ρ) H0 H H0' H' := by
  have main : ∀ (s s' : List (Key × Dt) → Sl), (s = .od ∧ s' = .od) ∨ (s = .io ∧ s' = .io) → ρ[i]? = some (some (s kvs)) → (∀ kvs', dPut i kvs' ρ = ρ.set i (some (s' kvs'))) → (∃ a ks, σ[i]? = some (some (.ref a)) ∧ H0 a = none ∧ H a = some (.dK ks) ∧ DaKv K H0 ks kvs ∧ OwnAt σ ρ a ∧
      ∀ (ks' : List (Key × V)) (kvs' : List (Key × Dt)) H0' H', Gw ⟨H0, H, some a⟩ H0' H' → TbOk K H0' H' → Same H0' H' → H' a = some (.dK ks') → DaKv K H0' ks' kvs' → En K F H0' H' σ (dPut i kvs' ρ) ∧ Mv σ ρ (dPut i kvs' ρ) H0 H H0' H') := fun s s' hs hi hp => by
    have : ∃ a ks, σ[i]? = some (some (.ref a)) ∧ H0 a = none ∧ H a = some (.dK ks) ∧ DaKv K H0 ks kvs ∧ (s kvs).mut = true := by
      rcases hs with ⟨rfl, rfl⟩ | ⟨rfl, rfl⟩
      · obtain ⟨v, h1, a, ks, rfl, h2, h3, h4, h5⟩ := E.sl i _ hi
        exact ⟨a, ks, h1, h2, h4, h5, rfl⟩
      · obtain ⟨v, h1, a, ks, rfl, h2, h3, h4, h5⟩ := E.sl i _ hi
        exact ⟨a, ks, h1, h2, h4, h5, rfl⟩
    obtain ⟨a, ks, h1, h2, h3, h4, h5⟩ := this
    have own : OwnAt σ ρ a := ⟨i, _, hi, h5, h1⟩
    refine ⟨a, ks, h1, h2, h3, h4, own, fun ks' kvs' H0' H' gr tt sm ha hd => ?_⟩
    rw [hp kvs']
    refine ⟨E.mutD hi h1 (by rcases hs with ⟨rfl, rfl⟩ | ⟨rfl, rfl⟩; exact .inl ⟨_, rfl, rfl⟩; exact .inr ⟨_, rfl, rfl⟩) gr tt sm ha hd, gr.b0, fun b o hb nt ho => gr.keep b o hb nt fun z => ho (Option.some.inj z ▸ own), fun b hb h0 _ => gr.off b hb h0, fun b ⟨j, t, e, mt, y⟩ => ?_, fun b hb => ?_⟩
    · rcases set_get e with ⟨rfl, z⟩ | ⟨hne, z⟩
      · exact ⟨j, _, hi, h5, y⟩
      · exact ⟨j, t, z, mt, y⟩
    · exact gr.st b hb
  unfold dAt at h
  split at h
  · rename_i e
    cases h
    exact main .od .od (.inl ⟨rfl, rfl⟩) e fun kvs' => by unfold dPut; rw [e]
  · rename_i e
    cases h
    exact main .io .io (.inr ⟨rfl, rfl⟩) e fun kvs' => by unfold dPut; rw [e]
  · cases h
theorem tCallM_of {fn : FnM} {i : Nat} {fa : Rho → R (List Dt)} {E : XK} (h : tD g F W (callM fn i fa) σ H Q) : tCall (spM g fn) [] E (tCons (tVar i) (tDA g F W fa)) σ H Q := by
  obtain ⟨H0, ρ, E, q⟩ := h
  unfold callM at q
  cases e0 : dAt i ρ with
  | none => rw [e0] at q; exact q.elim
  | some kvs0 =>
    rw [e0] at q
    dsimp only at q
    obtain ⟨a, ks0, ha, _⟩ := dAt_put E e0
    refine ⟨.ref a, ha, H0, ρ, E, ?_⟩
    cases e : fa ρ with
    | ok ds ρ1 =>
      rw [e] at q
      dsimp only [R.bind] at q
      intro vs H0' H' E' m hd
      show spM g fn ((V.ref a :: vs) ++ []) H' Q _
      rw [List.append_nil]
      cases e1 : dAt i ρ1 with
      | none => rw [e1] at q; exact q.elim
      | some kvs =>
        rw [e1] at q
        dsimp only at q
        obtain ⟨a', ks, ha', h2, h3, h4, own, k⟩ := dAt_put E' e1
        rw [ha] at ha'
        cases ha'
        refine ⟨H0', a, ks, kvs, vs, ds, rfl, E'.ex, E'.tb, h2, h3, h4, hd, ?_⟩
        cases e2 : fn kvs ds with
        | ok s kvs' =>
          rw [e2] at q
          cases s with
          | fr d =>
            intro v ks' C0 C gr tt s2 hc hdk hv
            obtain ⟨E3, m3⟩ := k ks' kvs' C0 C gr tt s2 hc hdk
            exact q v C0 C E3 (m.trans m3) hv
          | _ => exact q.elim
        | ex _ => rw [e2] at q; exact q.elim
        | bad => rw [e2] at q; exact q.elim
    | ex x ρ1 =>
      rw [e] at q
      exact q
    | bad =>
      rw [e] at q
      exact q
end
section
variable {X : Cx} {W : WX} {e : Expr} {es : List Expr} {pos p p2 : Pos} {fa : Rho → R (List Dt)} {k : Nat} {f : Addr} {fd : FuncData} {ps : List Str} {x : Str}
theorem de_call {fn : Fn} (G : FnOk X.prog X.w X.K X.mg X.base CX0 k f fd ps (spF ⟨X.K, X.mg⟩ fn)) (hr : Room k X.A) (hg : Gl X x) (hm : X.mg x = some (.ref f)) (hk : PySem.W.keepIn X.K (.ref f) = true) (hb : Binds X.K fd ps [])
    (ha : DA X W (e :: es) fa) (hdb : (x == ("__debug__" : Str)) = false := by decide) (he : starEach (e :: es) X.env = (false, eval e X.env) :: starEach es X.env := by rfl) (hpl : (backTo pos (starEach es X.env)).any (·.1) = false := by rfl) :
    DE X W (.Call (.Name x p) (e :: es) [] pos) (callF fn fa) := fun F => PE.wk (pe_call G hr hg hm hk hb .nil pass0 (ha F) hdb he hpl) fun _ _ _ h => tCall_of h
theorem de_call0 {fn : Fn} (G : FnOk X.prog X.w X.K X.mg X.base CX0 k f fd ps (spF ⟨X.K, X.mg⟩ fn)) (hr : Room k X.A) (hg : Gl X x) (hm : X.mg x = some (.ref f)) (hk : PySem.W.keepIn X.K (.ref f) = true) (hb : Binds X.K fd ps [])
    (hdb : (x == ("__debug__" : Str)) = false := by decide) : DE X W (.Call (.Name x p) [] [] pos) (callF fn nilA) := fun F => PE.wk (pe_call0 G hr hg hm hk hb .nil pass0 hdb) fun σ H Q h => by
  obtain ⟨H0, ρ, E, q⟩ := tCall_of (E := E0) h
  exact q [] H0 H E Mv.refl .nil
theorem do_call {fn : Fn} (G : FnOk X.prog X.w X.K X.mg X.base CX0 k f fd ps (spF ⟨X.K, X.mg⟩ fn)) (hr : Room k X.A) (hg : Gl X x) (hm : X.mg x = some (.ref f)) (hk : PySem.W.keepIn X.K (.ref f) = true) (hb : Binds X.K fd ps [])
    (ha : DA X W (e :: es) fa) (hdb : (x == ("__debug__" : Str)) = false := by decide) (he : starEach (e :: es) X.env = (false, eval e X.env) :: starEach es X.env := by rfl) (hpl : (backTo pos (starEach es X.env)).any (·.1) = false := by rfl) :
    DO X W (.Call (.Name x p) (e :: es) [] pos) (callO fn fa) := fun F => PE.wk (pe_call G hr hg hm hk hb .nil pass0 (ha F) hdb he hpl) fun _ _ _ h => tCallO_of h
theorem de_callM {fn : FnM} {i : Nat} {y : Str} (G : FnOk X.prog X.w X.K X.mg X.base CX0 k f fd ps (spM ⟨X.K, X.mg⟩ fn)) (hr : Room k X.A) (hg : Gl X x) (hm : X.mg x = some (.ref f)) (hk : PySem.W.keepIn X.K (.ref f) = true) (hb : Binds X.K fd ps [])
    (hy : PE X (.Name y p2) (tVar i)) (ha : DA X W es fa) (hdb : (x == ("__debug__" : Str)) = false := by decide) (he : starEach (.Name y p2 :: es) X.env = (false, eval (.Name y p2) X.env) :: starEach es X.env := by rfl) (hpl : (backTo pos (starEach es X.env)).any (·.1) = false := by rfl) :
    DE X W (.Call (.Name x p) (.Name y p2 :: es) [] pos) (callM fn i fa) := fun F => PE.wk (pe_call G hr hg hm hk hb .nil pass0 (pa_cons hy (ha F) he) hdb he hpl) fun _ _ _ h => tCallM_of h
end
end DW

set_option Elab.async false
set_option linter.all false
set_option maxRecDepth 100000
set_option maxHeartbeats 4000000
/-! DW8: statements, loops -/
namespace DW
open PySem PySem.Spec PyProof.Rows L2

def skipS : Rho → SR := fun ρ => .nx ρ
def badS : Rho → SR := fun _ => .bad
def bkS : Rho → SR := fun ρ => .bk ρ
def ctS : Rho → SR := fun ρ => .ct ρ
def seqS (f k : Rho → SR) : Rho → SR := fun ρ => match f ρ with
  | .nx ρ1 => k ρ1
  | .rt s ρ1 => .rt s ρ1
  | .bk ρ1 => .bk ρ1
  | .ct ρ1 => .ct ρ1
  | .ex e ρ1 => .ex e ρ1
  | .bad => .bad
def nxO : Option Rho → SR
  | some ρ => .nx ρ
  | none => .bad
def setS (i : Nat) (f : Rho → R Dt) : Rho → SR := fun ρ => (f ρ).bindS fun d ρ1 => nxO (putR i (.fr d) ρ1)
def setOS (i : Nat) (f : Rho → R Sl) : Rho → SR := fun ρ => (f ρ).bindS fun s ρ1 => match s with
  | .io _ => .bad
  | s => nxO (putR i s ρ1)
def retS (f : Rho → R Dt) : Rho → SR := fun ρ => (f ρ).bindS fun d ρ1 => .rt (.fr d) ρ1
def retOS (f : Rho → R Sl) : Rho → SR := fun ρ => (f ρ).bindS fun s ρ1 => .rt s ρ1
def exprS (f : Rho → R Dt) : Rho → SR := fun ρ => (f ρ).bindS fun _ ρ1 => .nx ρ1
def ifS (c : Rho → R Bool) (f k : Rho → SR) : Rho → SR := fun ρ => (c ρ).bindS fun b ρ1 => if b = true then f ρ1 else k ρ1
def whS (c : Rho → R Bool) (b : Rho → SR) : Nat → Rho → SR
  | 0, _ => .bad
  | n + 1, ρ => (c ρ).bindS fun t ρ1 => if t = true then (match b ρ1 with
    | .nx ρ2 => whS c b n ρ2
    | .ct ρ2 => whS c b n ρ2
    | .bk ρ2 => .nx ρ2
    | .rt s ρ2 => .rt s ρ2
    | .ex e ρ2 => .ex e ρ2
    | .bad => .bad) else .nx ρ1
def forL (t : Dt → Rho → Option Rho) (b : Rho → SR) : List Dt → Rho → SR
  | [], ρ => .nx ρ
  | d :: ds, ρ => match t d ρ with
    | none => .bad
    | some ρ1 => match b ρ1 with
      | .nx ρ2 => forL t b ds ρ2
      | .ct ρ2 => forL t b ds ρ2
      | .bk ρ2 => .nx ρ2
      | .rt s ρ2 => .rt s ρ2
      | .ex e ρ2 => .ex e ρ2
      | .bad => .bad
def forS (it : Rho → R (List Dt)) (t : Dt → Rho → Option Rho) (b : Rho → SR) : Rho → SR := fun ρ => (it ρ).bindS fun ds ρ1 => forL t b ds ρ1
/-- targets -/
def tgN (i : Nat) : Dt → Rho → Option Rho := fun d ρ => putR i (.fr d) ρ
def putAll : List Nat → List Dt → Rho → Option Rho
  | [], [], ρ => some ρ
  | i :: is, d :: ds, ρ => match putR i (.fr d) ρ with
    | some ρ1 => putAll is ds ρ1
    | none => none
  | _, _, _ => none
def tgT (is : List Nat) : Dt → Rho → Option Rho := fun d ρ => match d with
  | .tup ds => putAll is ds ρ
  | _ => none
def asgS (t : Dt → Rho → Option Rho) (f : Rho → R Dt) : Rho → SR := fun ρ => (f ρ).bindS fun d ρ1 => nxO (t d ρ1)
/-- the own list in a slot -/
def lAt (i : Nat) (ρ : Rho) : Option (List Dt) := match (ρ[i]? : Option (Option Sl)) with
  | some (some (.ol xs)) => some xs
  | _ => none
def appS (i : Nat) (f : Rho → R Dt) : Rho → SR := fun ρ => match lAt i ρ with
  | none => .bad
  | some _ => (f ρ).bindS fun d ρ1 => match lAt i ρ1 with
    | none => .bad
    | some xs => if xs.length < 1000000 then .nx (ρ1.set i (some (.ol (xs ++ [d])))) else .bad
/-- d[k] = v -/
def dputS (i : Nat) (fk fv : Rho → R Dt) : Rho → SR := fun ρ => (fv ρ).bindS fun d ρ1 => match dAt i ρ1 with
  | none => .bad
  | some _ => (fk ρ1).bindS fun k ρ2 => match keyD k, dAt i ρ2 with
    | some k, some kvs => if kvs.length < 1000000 then .nx (dPut i (putKD kvs k d) ρ2) else .bad
    | _, _ => .bad
/-- several things that are made, in a row -/
def argsO : List (Rho → R Sl) → Rho → R (List Sl)
  | [], ρ => .ok [] ρ
  | f :: fs, ρ => (f ρ).bind fun s ρ1 => (argsO fs ρ1).bind fun ss ρ2 => .ok (s :: ss) ρ2
def putSl : List Nat → List Sl → Rho → Option Rho
  | [], [], ρ => some ρ
  | i :: is, s :: ss, ρ => match s with
    | .io _ => none
    | s => match putR i s ρ with
      | some ρ1 => putSl is ss ρ1
      | none => none
  | _, _, _ => none
def parS (is : List Nat) (fs : List (Rho → R Sl)) : Rho → SR := fun ρ => (argsO fs ρ).bindS fun ss ρ1 => nxO (putSl is ss ρ1)

theorem En.notOwn {K : PySem.W.Frag} {F : Fm} {H0 H : Hp} {σ : L2.St} {ρ : Rho} {a : Addr} (E : En K F H0 H σ ρ) (hn : H a = none) : ¬ OwnAt σ ρ a := fun ⟨i, t, h1, h2, h3⟩ => by
  obtain ⟨w, h4, h5⟩ := E.sl i t h1
  rw [h3] at h4
  cases h4
  cases t with
  | fr _ => cases h2
  | ol _ => obtain ⟨b, _, e', _, _, q3, _⟩ := h5; cases e'; rw [hn] at q3; cases q3
  | od _ => obtain ⟨b, _, e', _, _, q3, _⟩ := h5; cases e'; rw [hn] at q3; cases q3
  | raw _ _ => cases h2
  | io _ => obtain ⟨b, _, e', _, _, q3, _⟩ := h5; cases e'; rw [hn] at q3; cases q3
section
variable {g : Gx} {F : Fm} {W : WX} {σ : L2.St} {H : Hp}
theorem tSeq_of {f k : Rho → SR} {D : Ends} (h : tS g F W (seqS f k) D σ H) : tSeq (tS g F W f) (tS g F W k) D σ H := by
  obtain ⟨H0, ρ, E, q⟩ := h
  refine ⟨H0, ρ, E, ?_⟩
  unfold seqS at q
  cases e : f ρ with
  | nx ρ1 =>
    rw [e] at q
    exact fun σ' H0' H' E' s' => ⟨H0', ρ1, E', q.mono s'⟩
  | rt s ρ1 => rw [e] at q; exact q
  | bk ρ1 => rw [e] at q; exact q
  | ct ρ1 => rw [e] at q; exact q
  | ex _ _ => rw [e] at q; exact q
  | bad => rw [e] at q; exact q
/-- an expression, then something -/
theorem tD_bindS {f : Rho → R Dt} {k : Dt → Rho → SR} {D : Ends} {Q : VK} (h : tS g F W (fun ρ => (f ρ).bindS k) D σ H)
    (hQ : ∀ v H0 H' ρ1 d, En g.K F H0 H' σ ρ1 → Da g.K H0 v d → PostS g F W D H0 (k d ρ1) → Q v H') : tD g F W f σ H Q := by
  obtain ⟨H0, ρ, E, q⟩ := h
  refine ⟨H0, ρ, E, ?_⟩
  dsimp only at q
  cases e : f ρ with
  | ok d ρ1 =>
    rw [e] at q
    exact fun v H0' H' E' m hd => hQ v H0' H' ρ1 d E' hd (PostS.mono m.b0 q)
  | ex x ρ1 =>
    rw [e] at q
    exact q σ
  | bad =>
    rw [e] at q
    exact q
theorem tO_bindS {f : Rho → R Sl} {k : Sl → Rho → SR} {D : Ends} {Q : VK} (h : tS g F W (fun ρ => (f ρ).bindS k) D σ H)
    (hQ : ∀ v H0 H' ρ1 s, En g.K F H0 H' σ ρ1 → SlR g.K F H0 H' v s → (s.own = true → ∀ a, v = .ref a → ¬ OwnAt σ ρ1 a) → PostS g F W D H0 (k s ρ1) → Q v H') : tO g F W f σ H Q := by
  obtain ⟨H0, ρ, E, q⟩ := h
  refine ⟨H0, ρ, E, ?_⟩
  dsimp only at q
  cases e : f ρ with
  | ok d ρ1 =>
    rw [e] at q
    intro v H0' H' E' m hd hfr
    exact hQ v H0' H' ρ1 d E' hd (fun ho a ea own => E.notOwn (hfr ho a ea) (m.sub a own)) (PostS.mono m.b0 q)
  | ex x ρ1 =>
    rw [e] at q
    exact q σ
  | bad =>
    rw [e] at q
    exact q
theorem tDT_bindS {f : Rho → R Bool} {k : Bool → Rho → SR} {D : Ends} {Q : Bool → Hp → Prop} (h : tS g F W (fun ρ => (f ρ).bindS k) D σ H)
    (hQ : ∀ H0 H' ρ1 b, En g.K F H0 H' σ ρ1 → PostS g F W D H0 (k b ρ1) → Q b H') : tDT g F W f σ H Q := by
  obtain ⟨H0, ρ, E, q⟩ := h
  refine ⟨H0, ρ, E, ?_⟩
  dsimp only at q
  cases e : f ρ with
  | ok d ρ1 =>
    rw [e] at q
    exact fun H0' H' E' m => hQ H0' H' ρ1 d E' (PostS.mono m.b0 q)
  | ex x ρ1 =>
    rw [e] at q
    exact q σ
  | bad =>
    rw [e] at q
    exact q
theorem nxO_post {D : Ends} {H0 : Hp} {o : Option Rho} (h : PostS g F W D H0 (nxO o)) : ∃ ρ, o = some ρ ∧ ∀ σ' H', En g.K F H0 H' σ' ρ → D.nx σ' H' := by
  cases o with
  | none => exact h.elim
  | some ρ => exact ⟨ρ, rfl, fun σ' H' E => h σ' H0 H' E (Same.refl _)⟩

/-! ### targets -/
def setAll : List Nat → List V → L2.St → L2.St
  | i :: is, v :: vs, σ => setAll is vs (σ.set i (some v))
  | _, _, σ => σ
def tG (g : Gx) (F : Fm) (is : List Nat) (t : Dt → Rho → Option Rho) : TG := fun v σ H Q => ∃ H0 ρ d, En g.K F H0 H σ ρ ∧ Da g.K H0 v d ∧ ∃ ρ', t d ρ = some ρ' ∧ ∀ us, En g.K F H0 H (setAll is us σ) ρ' → (∀ a, OwnAt (setAll is us σ) ρ' a → OwnAt σ ρ a) → Q (setAll is us σ) H
def tGs (g : Gx) (F : Fm) (is : List Nat) : TGs := fun vs σ H Q => ∃ H0 ρ ds, En g.K F H0 H σ ρ ∧ DaAll g.K H0 vs ds ∧ ∃ ρ', putAll is ds ρ = some ρ' ∧ ∀ us, En g.K F H0 H (setAll is us σ) ρ' → (∀ a, OwnAt (setAll is us σ) ρ' a → OwnAt σ ρ a) → Q (setAll is us σ) H
theorem own_put {i : Nat} {v : V} {d : Dt} {σ : L2.St} {ρ ρ' : Rho} (h : putR i (.fr d) ρ = some ρ') {a : Addr} (o : OwnAt (σ.set i (some v)) ρ' a) : OwnAt σ ρ a := by
  unfold putR at h
  split at h
  · cases h
  · cases h
    obtain ⟨j, s, h1, h2, h3⟩ := o
    rcases set_get h1 with ⟨rfl, z⟩ | ⟨hne, z⟩
    · cases z
      cases h2
    · rw [List.getElem?_set_ne (Ne.symm hne)] at h3
      exact ⟨j, s, z, h2, h3⟩

/-! ### loops -/
theorem whS_succ (c : Rho → R Bool) (b : Rho → SR) (n : Nat) (ρ : Rho) : whS c b (n + 1) ρ = (c ρ).bindS fun t ρ1 => if t = true then (match b ρ1 with
    | .nx ρ2 => whS c b n ρ2
    | .ct ρ2 => whS c b n ρ2
    | .bk ρ2 => .nx ρ2
    | .rt s ρ2 => .rt s ρ2
    | .ex e ρ2 => .ex e ρ2
    | .bad => .bad) else .nx ρ1 := rfl
theorem tWhile_of {c : Rho → R Bool} {b : Rho → SR} {n : Nat} {D : Ends} (h : tS g F W (whS c b n) D σ H) : tWhile (tDT g F W c) (tS g F W b) D σ H := by
  refine ⟨fun m σ H => tS g F W (whS c b m) D σ H, ⟨n, h⟩, fun m σ H w => ?_⟩
  cases m with
  | zero =>
    obtain ⟨_, _, _, q⟩ := w
    exact q.elim
  | succ m =>
    have w' : tS g F W (fun ρ => (c ρ).bindS fun t ρ1 => if t = true then (match b ρ1 with
      | .nx ρ2 => whS c b m ρ2
      | .ct ρ2 => whS c b m ρ2
      | .bk ρ2 => .nx ρ2
      | .rt s ρ2 => .rt s ρ2
      | .ex e ρ2 => .ex e ρ2
      | .bad => .bad) else .nx ρ1) D σ H := w
    refine tDT_bindS w' fun H0 H' ρ1 t E q => ?_
    cases t with
    | false =>
      rw [if_neg Bool.false_ne_true] at q ⊢
      exact q σ H0 H' E (Same.refl _)
    | true =>
      rw [if_pos rfl] at q ⊢
      refine ⟨fun σ' H' => tS g F W (whS c b m) D σ' H', fun σ' H' z => ⟨m, Nat.lt_succ_self m, z⟩, H0, ρ1, E, ?_⟩
      cases e : b ρ1 with
      | nx ρ2 => rw [e] at q; exact fun σ' C0 C E' s' => ⟨C0, ρ2, E', q.mono s'⟩
      | ct ρ2 => rw [e] at q; exact fun σ' C0 C E' s' => ⟨C0, ρ2, E', q.mono s'⟩
      | bk ρ2 => rw [e] at q; exact q
      | rt s ρ2 => rw [e] at q; exact q
      | ex _ _ => rw [e] at q; exact q
      | bad => rw [e] at q; exact q
/-- what a walk gives, by data that stand in a base -/
def ItD (K : PySem.W.Frag) (J : It) (H0 : Hp) (ds : List Dt) : Prop := ∃ G Y, Walk J ds.length G Y ∧ (∀ H, Same H0 H → G H) ∧ ∀ i H x H', i < ds.length → Same H0 H → Y i H x H' → ∃ d, ds[i]? = some d ∧
  ((H' = H ∧ Da K H0 x d) ∨ ∃ T vs es, x = .ref T ∧ H T = none ∧ H' = upd H T (.tup vs) ∧ DaAll K H0 vs es ∧ d = .tup es)
def tI (g : Gx) (F : Fm) (W : WX) (f : Rho → R (List Dt)) : TI := fun σ H Rk => ∃ H0 ρ, En g.K F H0 H σ ρ ∧ match f ρ with
  | .ok ds ρ' => ∀ J H0' H', En g.K F H0' H' σ ρ' → Mv σ ρ ρ' H0 H H0' H' → ItD g.K J H0' ds → Rk J H'
  | .ex e ρ' => XW g F W σ e ρ'
  | .bad => False
/-- the item's data over a base of now -/
theorem item_at {K : PySem.W.Frag} {H0 B0 H H' : Hp} {ρ : Rho} {x : V} {d : Dt} (E : En K F B0 H σ ρ) (s : Same H0 B0)
    (h : (H' = H ∧ Da K H0 x d) ∨ ∃ T vs es, x = .ref T ∧ H T = none ∧ H' = upd H T (.tup vs) ∧ DaAll K H0 vs es ∧ d = .tup es) :
    ∃ C0, En K F C0 H' σ ρ ∧ Mv σ ρ ρ B0 H C0 H' ∧ Da K C0 x d := by
  rcases h with ⟨rfl, h⟩ | ⟨T, vs, es, rfl, hT, rfl, hd, rfl⟩
  · exact ⟨B0, E, Mv.refl, h.mono s⟩
  · have g1 := gr_new (o := .tup vs) hT E.ex
    exact ⟨upd B0 T (.tup vs), E.new hT, g1.mv, .tup (SqT.of upd_same) ((hd.mono s).mono g1.b0)⟩
theorem tFor_of {it : Rho → R (List Dt)} {t : Dt → Rho → Option Rho} {b : Rho → SR} {is : List Nat} {D : Ends} (h : tS g F W (forS it t b) D σ H) : tFor (tI g F W it) (tG g F is t) (tS g F W b) D σ H := by
  obtain ⟨H0, ρ, E, q⟩ := h
  refine ⟨H0, ρ, E, ?_⟩
  unfold forS at q
  cases e : it ρ with
  | ok ds ρ1 =>
    rw [e] at q
    intro J B0 B E1 m1 hJ
    obtain ⟨G, Y, wk, hG, hY⟩ := hJ
    have q1 : PostS g F W D B0 (forL t b ds ρ1) := PostS.mono m1.b0 q
    refine for_it wk (fun i σ H => ∃ C0 ρc, En g.K F C0 H σ ρc ∧ Same B0 C0 ∧ PostS g F W D C0 (forL t b (ds.drop i) ρc)) ⟨B0, ρ1, E1, Same.refl _, by rw [List.drop_zero]; exact q1⟩ (fun i σ H _ ⟨C0, ρc, Ec, sc', _⟩ => hG H (sc'.trans Ec.ex)) ?_ ?_
    · rintro i x σ H H' hi ⟨C0, ρc, Ec, sc', qc⟩ y
      obtain ⟨d, hd, hx⟩ := hY i H x H' hi (sc'.trans Ec.ex) y
      obtain ⟨D0, Ed, md, dd⟩ := item_at Ec sc' hx
      have hdrop : ds.drop i = d :: ds.drop (i + 1) := by
        obtain ⟨hlt, hget⟩ := List.getElem?_eq_some_iff.mp hd
        rw [List.drop_eq_getElem_cons hlt, hget]
      rw [hdrop] at qc
      unfold forL at qc
      cases et : t d ρc with
      | none => rw [et] at qc; exact qc.elim
      | some ρ2 =>
        rw [et] at qc
        dsimp only at qc
        refine ⟨D0, ρc, d, Ed, dd, ρ2, et, fun us E2 _ => ⟨D0, ρ2, E2, ?_⟩⟩
        cases eb : b ρ2 with
        | nx ρ3 => rw [eb] at qc; exact fun σ' I0 I E3 s3 => ⟨I0, ρ3, E3, (sc'.trans md.b0).trans s3, qc.mono (md.b0.trans s3)⟩
        | ct ρ3 => rw [eb] at qc; exact fun σ' I0 I E3 s3 => ⟨I0, ρ3, E3, (sc'.trans md.b0).trans s3, qc.mono (md.b0.trans s3)⟩
        | bk ρ3 => rw [eb] at qc; exact PostS.mono (r := .nx ρ3) md.b0 qc
        | rt s ρ3 => rw [eb] at qc; exact qc
        | ex _ _ => rw [eb] at qc; exact qc
        | bad => rw [eb] at qc; exact qc
    · rintro σ H ⟨C0, ρc, Ec, sc', qc⟩
      rw [List.drop_length] at qc
      exact qc σ C0 H Ec (Same.refl _)
  | ex x ρ1 =>
    rw [e] at q
    exact q σ
  | bad =>
    rw [e] at q
    exact q
end

section
variable {X : Cx} {W : WX} {a b c e : Expr} {es : List Expr} {pos p p2 : Pos} {f1 f2 f3 : Rho → R Dt} {st : Stmt} {rest : List Stmt} {s1 s2 : Rho → SR} {t1 : Rho → R Bool}
theorem ds_nil : DSs X W [] skipS := fun F => PSs.wk pss_nil fun D σ H ⟨H0, ρ, E, q⟩ => q σ H0 H E (Same.refl _)
theorem ds_cons (h1 : DS X W st s1) (h2 : DSs X W rest s2) : DSs X W (st :: rest) (seqS s1 s2) := fun F => PSs.wk (pss_cons (h1 F) (h2 F)) fun _ _ _ h => tSeq_of h
theorem ds_one (h1 : DS X W st s1) : DSs X W [st] s1 := fun F => pss_one (h1 F)
theorem ds_never : DS X W st badS := fun F => ⟨fun _ _ _ _ _ _ ⟨_, _, _, q⟩ => q.elim⟩
theorem dss_never {sts : List Stmt} : DSs X W sts badS := fun F => ⟨fun _ _ _ _ _ _ ⟨_, _, _, q⟩ => q.elim⟩
theorem ds_pass : DS X W (.Pass pos) skipS := fun F => PS.wk ps_pass fun D σ H ⟨H0, ρ, E, q⟩ => q σ H0 H E (Same.refl _)
theorem ds_break : DS X W (.Break pos) bkS := fun F => PS.wk ps_break fun D σ H ⟨H0, ρ, E, q⟩ => q σ H0 H E (Same.refl _)
theorem ds_continue : DS X W (.Continue pos) ctS := fun F => PS.wk ps_continue fun D σ H ⟨H0, ρ, E, q⟩ => q σ H0 H E (Same.refl _)
theorem ds_doc {x j p'} : DS X W (.Expr (.Constant (.str x) j p') pos) skipS := fun F => PS.wk ps_doc fun D σ H ⟨H0, ρ, E, q⟩ => q σ H0 H E (Same.refl _)
theorem ds_set (i : Nat) {x : Str} (hN : X.N.Nodup) (he : DE X W e f1) (hi : X.N[i]? = some x := by rfl) (hx : Loc X.env.scope x := by first | exact .inl rfl | exact .inr rfl) (hs : swapsWith e (some (.Name x p)) pos.line X.env = pure false := by rfl)
    (hf : X.fn x = true ∨ X.env.scope.names.lookup x = some .local := by first | exact .inl rfl | exact .inr rfl) : DS X W (.Assign [.Name x p] e pos) (setS i f1) := fun F => PS.wk (ps_set hN hi hx (he F) hs hf) fun D σ H h => by
  refine tD_bindS h fun v H0 H' ρ1 d E hd q => ?_
  obtain ⟨ρ2, e, k⟩ := nxO_post q
  exact k _ H' (E.putFr hd e)
theorem ds_setO (i : Nat) {x : Str} {fo : Rho → R Sl} (hN : X.N.Nodup) (he : DO X W e fo) (hi : X.N[i]? = some x := by rfl) (hx : Loc X.env.scope x := by first | exact .inl rfl | exact .inr rfl) (hs : swapsWith e (some (.Name x p)) pos.line X.env = pure false := by rfl)
    (hf : X.fn x = true ∨ X.env.scope.names.lookup x = some .local := by first | exact .inl rfl | exact .inr rfl) : DS X W (.Assign [.Name x p] e pos) (setOS i fo) := fun F => PS.wk (ps_set hN hi hx (he F) hs hf) fun D σ H h => by
  refine tO_bindS h fun v H0 H' ρ1 s E hd ho q => ?_
  cases s with
  | raw _ _ =>
    obtain ⟨ρ2, e, k⟩ := nxO_post q
    exact k _ H' (E.put hd (fun _ z => nomatch z) ho e)
  | io _ => exact q.elim
  | fr d =>
    obtain ⟨ρ2, e, k⟩ := nxO_post q
    exact k _ H' (E.put hd (fun _ z => nomatch z) ho e)
  | ol d =>
    obtain ⟨ρ2, e, k⟩ := nxO_post q
    exact k _ H' (E.put hd (fun _ z => nomatch z) ho e)
  | od d =>
    obtain ⟨ρ2, e, k⟩ := nxO_post q
    exact k _ H' (E.put hd (fun _ z => nomatch z) ho e)
theorem ds_ret (he : DE X W e f1) : DS X W (.Return (some e) pos) (retS f1) := fun F => PS.wk (ps_ret (he F)) fun D σ H h => tD_bindS h fun v H0 H' ρ1 d E hd q => q v σ H0 H' E hd
theorem ds_retO {fo : Rho → R Sl} (he : DO X W e fo) : DS X W (.Return (some e) pos) (retOS fo) := fun F => PS.wk (ps_ret (he F)) fun D σ H h => tO_bindS h fun v H0 H' ρ1 d E hd ho q => q v σ H0 H' E hd
theorem ds_retN : DS X W (.Return none pos) (retS (cst .non)) := fun F => PS.wk ps_retN fun D σ H ⟨H0, ρ, E, q⟩ => q .non σ H0 H E (Da.non : Da X.K H0 .non .non)
theorem ds_expr (he : DE X W e f1) (hs : swapsWith e none pos.line X.env = pure false := by rfl) : DS X W (.Expr e pos) (exprS f1) := fun F => PS.wk (ps_expr (he F) hs) fun D σ H h => tD_bindS h fun v H0 H' ρ1 d E hd q => q σ H0 H' E (Same.refl _)
theorem ds_if {sa sb : List Stmt} (hc : DT X W c t1) (ha : DSs X W sa s1) (hb : DSs X W sb s2) : DS X W (.If c sa sb pos) (ifS t1 s1 s2) := fun F => PS.wk (ps_if (hc F) (ha F) (hb F)) fun D σ H h => by
  refine tDT_bindS h fun H0 H' ρ1 b E q => ?_
  cases b with
  | true =>
    rw [if_pos rfl] at q ⊢
    exact ⟨H0, ρ1, E, q⟩
  | false =>
    rw [if_neg Bool.false_ne_true] at q ⊢
    exact ⟨H0, ρ1, E, q⟩
theorem ds_while (n : Nat) {sa : List Stmt} (hp : PassesOwn (model X.prog X.w) X.A X.env X.xe) (hc : DT X W c t1) (ha : DSs X W sa s1) : DS X W (.While c sa [] pos) (whS t1 s1 n) := fun F => PS.wk (ps_while hp (hc F) (ha F)) fun D σ H h => tWhile_of h
def DI (X : Cx) (W : WX) (tg iter : Expr) (f : Rho → R (List Dt)) : Prop := ∀ F, PI X tg iter (tI (gx X) F W f)
def DG (X : Cx) (tg : Expr) (is : List Nat) (t : Dt → Rho → Option Rho) : Prop := ∀ F, PG X tg (tG (gx X) F is t)
def DGs (X : Cx) (tg : List Expr) (is : List Nat) : Prop := ∀ F, PGs X tg (tGs (gx X) F is)
theorem ds_for {tg iter : Expr} {sa : List Stmt} {it : Rho → R (List Dt)} {t : Dt → Rho → Option Rho} {is : List Nat} (hp : PassesOwn (model X.prog X.w) X.A X.env X.xe) (hc : X.calm = true) (hi : DI X W tg iter it) (hg : DG X tg is t) (ha : DSs X W sa s1)
    (hs : ∀ x, foldedSetIterable iter X.env x = pure x := by intro _; rfl) : DS X W (.For tg iter sa [] pos) (forS it t s1) := fun F => PS.wk (ps_for hp hc (hi F) (hg F) (ha F) hs) fun D σ H h => tFor_of h
/-! ### targets -/
theorem PG.wk {e : Expr} {t u : TG} (h : PG X e t) (k : ∀ v σ H Q, u v σ H Q → t v σ H Q) : PG X e u := ⟨fun pins s σ H v w Q I r q => h.run pins s σ H v w Q I r (k v σ H Q q)⟩
theorem PGs.wk {e : List Expr} {t u : TGs} (h : PGs X e t) (k : ∀ v σ H Q, u v σ H Q → t v σ H Q) : PGs X e u := ⟨fun pins s σ H v w Q I r q => h.run pins s σ H v w Q I r (k v σ H Q q)⟩
theorem dg_name (i : Nat) {x : Str} (hN : X.N.Nodup) (hi : X.N[i]? = some x := by rfl) (hx : Loc X.env.scope x := by first | exact .inl rfl | exact .inr rfl) (hf : X.fn x = true ∨ X.env.scope.names.lookup x = some .local := by first | exact .inl rfl | exact .inr rfl) : DG X (.Name x p) [i] (tgN i) :=
  fun F => PG.wk (pg_name hN hi hx hf) fun v σ H Q ⟨H0, ρ, d, E, hd, ρ', e, k⟩ => k [v] (E.putFr hd e) fun a o => own_put e o
theorem dgs_nil : DGs X [] [] := fun F => PGs.wk pgs_nil fun v σ H Q ⟨H0, ρ, d, E, hd, ρ', e, k⟩ => by
  cases d with
  | nil =>
    cases hd
    cases e
    exact ⟨rfl, k [] E fun _ o => o⟩
  | cons _ _ => cases e
theorem dgs_cons (i : Nat) {x : Str} {es : List Expr} {is : List Nat} (hN : X.N.Nodup) (h2 : DGs X es is) (hi : X.N[i]? = some x := by rfl) (hx : Loc X.env.scope x := by first | exact .inl rfl | exact .inr rfl) (hf : X.fn x = true ∨ X.env.scope.names.lookup x = some .local := by first | exact .inl rfl | exact .inr rfl)
    (hs : (assignEach (.Name x p :: es) X.env).map (·.2) = assign (.Name x p) X.env :: (assignEach es X.env).map (·.2) := by rfl) : DGs X (.Name x p :: es) (i :: is) :=
  fun F => PGs.wk (pgs_cons (pg_name hN hi hx hf) (h2 F) hs) fun v σ H Q ⟨H0, ρ, d, E, hd, ρ', e, k⟩ => by
    cases d with
    | nil => cases e
    | cons d ds =>
      cases hd with
      | @cons v0 vs _ _ h3 h4 =>
        refine ⟨v0, vs, rfl, H0, ?_⟩
        unfold putAll at e
        cases e1 : putR i (.fr d) ρ with
        | none => rw [e1] at e; cases e
        | some ρ1 =>
          rw [e1] at e
          exact ⟨ρ1, ds, E.putFr h3 e1, h4, ρ', e, fun us E' o' => k (v0 :: us) E' fun a o => own_put e1 (o' a o)⟩
theorem dg_tup {es : List Expr} {is : List Nat} {k : Nat} (hc : X.calm = true) (h : DGs X es is) (hn : (assignEach es X.env).length = is.length := by rfl) (hst : (assignEach es X.env).findIdx? (·.1) = none := by rfl) : DG X (.Tuple es k p) is (tgT is) :=
  fun F => PG.wk (pg_tup hc (h F) hn hst) fun v σ H Q ⟨H0, ρ, d, E, hd, ρ', e, k⟩ => by
    cases d with
    | tup ds =>
      cases hd with
      | tup h1 h2 =>
        refine ⟨_, _, rfl, seqT_mono E.ex h1, ?_, H0, ρ, ds, E, h2, ρ', e, k⟩
        rw [h2.length]
        have len : ∀ (is : List Nat) (ds : List Dt) (ρ ρ' : Rho), putAll is ds ρ = some ρ' → ds.length = is.length := by
          intro is
          induction is with
          | nil => intro ds ρ ρ' e; cases ds with | nil => rfl | cons _ _ => cases e
          | cons i is ih =>
            intro ds ρ ρ' e
            cases ds with
            | nil => cases e
            | cons d ds =>
              unfold putAll at e
              cases e1 : putR i (.fr d) ρ with
              | none => rw [e1] at e; cases e
              | some ρ1 => rw [e1] at e; rw [List.length_cons, List.length_cons, ih ds ρ1 ρ' e]
        exact len is ds ρ ρ' e
    | _ => cases e
theorem ds_asg {tg : Expr} {t : Dt → Rho → Option Rho} {is : List Nat} (he : DE X W e f1) (hg : DG X tg is t) (hs : swapsWithSole [tg] e pos.line X.env = pure false := by rfl) (hw : swappedStores [tg] e X.env = pure none := by rfl)
    (h1 : (assignEach [tg] X.env).map (·.2) = [assign tg X.env] := by rfl) : DS X W (.Assign [tg] e pos) (asgS t f1) := fun F => PS.wk (ps_asg (he F) (hg F) hs hw h1) fun D σ H h => by
  refine tD_bindS h fun v H0 H' ρ1 d E hd q => ?_
  obtain ⟨ρ2, e, k⟩ := nxO_post q
  exact ⟨H0, ρ1, d, E, hd, ρ2, e, fun us E' _ => k _ H' E'⟩
end
end DW

set_option Elab.async false
set_option linter.all false
set_option maxRecDepth 100000
set_option maxHeartbeats 4000000
/-! DW9: things that are made: displays, comprehensions; append, d[k] = v, a, b = x, y; what is walked -/
namespace DW
open PySem PySem.Spec PyProof.Rows L2

def toD : Sl → Option Dt
  | .fr d => some d
  | .ol xs => some (.lst xs)
  | .od kvs => some (.dct kvs)
  | .io _ => none
  | .raw _ _ => none
def frzR (f : Rho → R Sl) : Rho → R Dt := fun ρ => (f ρ).bind fun s ρ1 => match toD s with
  | some d => .ok d ρ1
  | none => .bad
def wipeR (ρ : Rho) : List Nat → Rho
  | [] => ρ
  | v :: vs => (wipeR ρ vs).set v none
def okW (vs : List Nat) (ρ : Rho) : Bool := noIo ρ || vs.all (fun v => decide (v ≠ 0))
def lcL (t : Dt → Rho → Option Rho) (c : Rho → R Bool) (e : Rho → R Dt) (vs : List Nat) : List Dt → Rho → R (List Dt)
  | [], ρ => .ok [] ρ
  | x :: xs, ρ => match t x ρ with
    | none => .bad
    | some ρ1 => (c ρ1).bind fun b ρ2 => if b = true then (e ρ2).bind fun d ρ3 => (lcL t c e vs xs (wipeR ρ3 vs)).bind fun ds ρ4 => .ok (d :: ds) ρ4 else lcL t c e vs xs (wipeR ρ2 vs)
def lcO (it : Rho → R (List Dt)) (t : Dt → Rho → Option Rho) (c : Rho → R Bool) (e : Rho → R Dt) (vs : List Nat) : Rho → R Sl := fun ρ => (it ρ).bind fun xs ρ1 =>
  if okW vs ρ1 = true ∧ xs.length ≤ 1000000 then (match lcL t c e vs xs (wipeR ρ1 vs) with
    | .ok ds ρ2 => .ok (.ol ds) ρ2
    | _ => .bad) else .bad
def yesT : Rho → R Bool := fun ρ => .ok true ρ
def dcL (t : Dt → Rho → Option Rho) (c : Rho → R Bool) (ek ev : Rho → R Dt) (vs : List Nat) : List Dt → Rho → List (Key × Dt) → R (List (Key × Dt))
  | [], ρ, acc => .ok acc ρ
  | x :: xs, ρ, acc => match t x ρ with
    | none => .bad
    | some ρ1 => (c ρ1).bind fun b ρ2 => if b = true then (ek ρ2).bind fun k ρ3 => (ev ρ3).bind fun d ρ4 => (match keyD k with
      | some k => dcL t c ek ev vs xs (wipeR ρ4 vs) (putKD acc k d)
      | none => .bad) else dcL t c ek ev vs xs (wipeR ρ2 vs) acc
def dcO (it : Rho → R (List Dt)) (t : Dt → Rho → Option Rho) (c : Rho → R Bool) (ek ev : Rho → R Dt) (vs : List Nat) : Rho → R Sl := fun ρ => (it ρ).bind fun xs ρ1 =>
  if okW vs ρ1 = true ∧ xs.length ≤ 1000000 then (match dcL t c ek ev vs xs (wipeR ρ1 vs) [] with
    | .ok ds ρ2 => .ok (.od ds) ρ2
    | _ => .bad) else .bad

section
variable {K : PySem.W.Frag} {F : Fm} {H0 H H0' H' : Hp} {σ : L2.St} {ρ : Rho} {v : V} {d : Dt} {s : Sl} {i : Nat} {a p : Addr} {o : HO} {g : Gx} {W : WX}
theorem wipe_get : ∀ (vs : List Nat) {i : Nat} {x : V}, (wipe σ vs)[i]? = some (some x) → σ[i]? = some (some x)
  | [], _, _, h => h
  | v :: vs, i, x, h => by
    unfold wipe at h
    rcases set_get h with ⟨_, z⟩ | ⟨_, z⟩
    · cases z
    · exact wipe_get vs z
theorem wipeR_get : ∀ (vs : List Nat) {i : Nat} {x : Sl}, (wipeR ρ vs)[i]? = some (some x) → ρ[i]? = some (some x)
  | [], _, _, h => h
  | v :: vs, i, x, h => by
    unfold wipeR at h
    rcases set_get h with ⟨_, z⟩ | ⟨_, z⟩
    · cases z
    · exact wipeR_get vs z
theorem noIo_iff : noIo ρ = true ↔ ∀ kvs, ρ[0]? ≠ some (some (.io kvs)) := by
  unfold noIo
  split
  · rename_i k e
    exact ⟨fun h => (Bool.false_ne_true h).elim, fun h => (h k e).elim⟩
  · rename_i h
    exact ⟨fun _ k e => h k e, fun _ => rfl⟩
theorem En.setN (E : En K F H0 H σ ρ) (hi : noIo ρ = true ∨ i ≠ 0) : En K F H0 H (σ.set i none) (ρ.set i none) := by
  have get : ∀ {j : Nat} {t : Sl}, (ρ.set i none)[j]? = some (some t) → j ≠ i ∧ ρ[j]? = some (some t) := fun {j t} e => by
    rcases set_get e with ⟨_, z⟩ | ⟨hne, z⟩
    · cases z
    · exact ⟨hne, z⟩
  refine ⟨E.gr, E.tb, E.ex, by rw [List.length_set, List.length_set, E.len], fun j t e => ?_, fun j k t u b hjk e1 e2 o1 o2 h1 h2 => ?_, fun b hb => ?_, fun j kvs e => E.io1 j kvs (get e).2⟩
  · obtain ⟨hne, z⟩ := get e
    obtain ⟨w, h1, h2⟩ := E.sl j t z
    exact ⟨w, by rw [List.getElem?_set_ne (Ne.symm hne)]; exact h1, h2⟩
  · obtain ⟨n1, z1⟩ := get e1
    obtain ⟨n2, z2⟩ := get e2
    rw [List.getElem?_set_ne (Ne.symm n1)] at h1
    rw [List.getElem?_set_ne (Ne.symm n2)] at h2
    exact E.sep j k t u b hjk z1 z2 o1 o2 h1 h2
  · obtain ⟨h1, ⟨kvs, h2⟩, h3⟩ := E.io b hb
    have hi0 : i ≠ 0 := by
      rcases hi with hi | hi
      · exact absurd h2 (noIo_iff.mp hi kvs)
      · exact hi
    exact ⟨by rw [List.getElem?_set_ne hi0]; exact h1, ⟨kvs, by rw [List.getElem?_set_ne hi0]; exact h2⟩, h3⟩
theorem noIo_wipe : ∀ (vs : List Nat), noIo ρ = true → noIo (wipeR ρ vs) = true := fun vs h => noIo_iff.mpr fun kvs e => noIo_iff.mp h kvs (wipeR_get vs e)
theorem En.wipe (E : En K F H0 H σ ρ) : ∀ (vs : List Nat), okW vs ρ = true → En K F H0 H (L2.wipe σ vs) (wipeR ρ vs)
  | [], _ => E
  | v :: vs, h => by
    unfold okW at h
    rw [Bool.or_eq_true] at h
    have h1 : okW vs ρ = true := by
      unfold okW
      rw [Bool.or_eq_true]
      rcases h with h | h
      · exact .inl h
      · rw [List.all_cons, Bool.and_eq_true] at h
        exact .inr h.2
    refine (E.wipe vs h1).setN ?_
    rcases h with h | h
    · exact .inl (noIo_wipe vs h)
    · rw [List.all_cons, Bool.and_eq_true] at h
      exact .inr (of_decide_eq_true h.1)
theorem En.unwipe {vs : List Nat} (E : En K F H0 H (L2.wipe σ vs) ρ) (hl : σ.length = ρ.length) : En K F H0 H σ ρ where
  gr := E.gr
  tb := E.tb
  ex := E.ex
  len := hl
  sl := fun j t e => by
    obtain ⟨w, h1, h2⟩ := E.sl j t e
    exact ⟨w, wipe_get vs h1, h2⟩
  sep := fun j k t u b hjk e1 e2 o1 o2 h1 h2 => by
    obtain ⟨w1, y1, _⟩ := E.sl j t e1
    obtain ⟨w2, y2, _⟩ := E.sl k u e2
    have z1 := wipe_get vs y1
    have z2 := wipe_get vs y2
    rw [h1] at z1
    rw [h2] at z2
    cases z1
    cases z2
    exact E.sep j k t u b hjk e1 e2 o1 o2 y1 y2
  io := fun b hb => by
    obtain ⟨h1, h2, h3⟩ := E.io b hb
    exact ⟨wipe_get vs h1, h2, h3⟩
  io1 := E.io1
theorem own_wipe {vs : List Nat} (o : OwnAt (wipe σ vs) ρ a) : OwnAt σ ρ a := by
  obtain ⟨i, s, h1, h2, h3⟩ := o
  exact ⟨i, s, h1, h2, wipe_get vs h3⟩
theorem own_wipeR {vs : List Nat} (o : OwnAt σ (wipeR ρ vs) a) : OwnAt σ ρ a := by
  obtain ⟨i, s, h1, h2, h3⟩ := o
  exact ⟨i, s, wipeR_get vs h1, h2, h3⟩
theorem wipe_set : ∀ (vs : List Nat) (σ : L2.St) {i : Nat} (x : Option V), i ∈ vs → wipe (σ.set i x) vs = wipe σ vs
  | v :: vs, σ, i, x, h => by
    unfold wipe
    by_cases hv : i = v
    · subst hv
      by_cases hm : i ∈ vs
      · rw [wipe_set vs σ x hm]
      · have : ∀ (us : List Nat) (σ : L2.St), i ∉ us → wipe (σ.set i x) us = (wipe σ us).set i x := by
          intro us
          induction us with
          | nil => intro σ _; rfl
          | cons u us ih =>
            intro σ hu
            unfold wipe
            rw [ih σ (fun z => hu (List.mem_cons_of_mem _ z))]
            have hne : i ≠ u := fun z => hu (by rw [z]; exact List.mem_cons_self)
            exact List.set_comm _ _ hne
        rw [this vs σ hm, List.set_set]
    · rw [wipe_set vs σ x (by rcases List.mem_cons.mp h with z | z; exact absurd z hv; exact z)]
theorem wipe_idem : ∀ (vs us : List Nat) (σ : L2.St), (∀ i ∈ us, i ∈ vs) → wipe (wipe σ us) vs = wipe σ vs
  | vs, [], σ, _ => rfl
  | vs, u :: us, σ, h => by
    show wipe ((wipe σ us).set u none) vs = _
    rw [wipe_set vs _ none (h u List.mem_cons_self), wipe_idem vs us σ fun i hi => h i (List.mem_cons_of_mem _ hi)]
theorem wipe_setAll (vs : List Nat) : ∀ (is : List Nat) (us : List V) (σ : L2.St), (∀ i ∈ is, i ∈ vs) → wipe (setAll is us σ) vs = wipe σ vs
  | [], _, σ, _ => rfl
  | i :: is, [], σ, _ => rfl
  | i :: is, u :: us, σ, h => by
    show wipe (setAll is us (σ.set i (some u))) vs = _
    rw [wipe_setAll vs is us _ fun j hj => h j (List.mem_cons_of_mem _ hj), wipe_set vs σ _ (h i List.mem_cons_self)]
/-- an object beside all is changed -/
theorem En.beside (E : En K F H0 H σ ρ) (h0 : H0 p = none) (hF : F.H p = none) (hn : ¬ OwnAt σ ρ p) (hl : (∃ xs, H p = some (.lst xs)) ∨ (∃ xs, H p = some (.dK xs)) ∨ H p = none) : En K F H0 (upd H p o) σ ρ := by
  have np : ∀ b u, H b = some u → (∀ xs, u ≠ .lst xs) → (∀ xs, u ≠ .dK xs) → b ≠ p := fun b u hb n1 n2 z => by
    rw [z] at hb
    rcases hl with ⟨xs, e⟩ | ⟨xs, e⟩ | e
    · rw [e] at hb; exact n1 xs (Option.some.inj hb).symm
    · rw [e] at hb; exact n2 xs (Option.some.inj hb).symm
    · rw [e] at hb; cases hb
  refine ⟨⟨E.gr.b0, fun b u hb nt hi => ?_, E.gr.off, fun b hb => ?_⟩, tab_away E.tb (fun b u hb n1 n2 => by rw [upd_ne (np b u hb n1 n2)]; exact hb) (fun _ _ h _ _ => h), fun b u hb => ?_, E.len, fun j t e => ?_, E.sep, E.io, E.io1⟩
  · have : b ≠ p := fun z => by rw [z, hF] at hb; cases hb
    rw [upd_ne this]
    exact E.gr.keep b u hb nt hi
  · have nb : b ≠ p := fun z => hb (by rw [z]; exact hF)
    rw [upd_ne nb]
    exact E.gr.st b hb
  · rw [upd_ne (ne_of_none hb h0)]
    exact E.ex b u hb
  · obtain ⟨w, y1, y2⟩ := E.sl j t e
    refine ⟨w, y1, ?_⟩
    cases t with
    | fr d => exact y2
    | ol es =>
      obtain ⟨c, us, rfl, q1, q2, q3, q4⟩ := y2
      have : c ≠ p := fun z => hn ⟨j, _, e, rfl, z ▸ y1⟩
      exact ⟨c, us, rfl, q1, q2, by rw [upd_ne this]; exact q3, q4⟩
    | od es =>
      obtain ⟨c, us, rfl, q1, q2, q3, q4⟩ := y2
      have : c ≠ p := fun z => hn ⟨j, _, e, rfl, z ▸ y1⟩
      exact ⟨c, us, rfl, q1, q2, by rw [upd_ne this]; exact q3, q4⟩
    | raw w _ => exact y2
    | io es =>
      obtain ⟨c, us, rfl, q1, q2, q3, q4⟩ := y2
      have : c ≠ p := fun z => hn ⟨j, _, e, rfl, z ▸ y1⟩
      exact ⟨c, us, rfl, q1, q2, by rw [upd_ne this]; exact q3, q4⟩
theorem En.upF (E : En K F H0 H σ ρ) (hp : H p = none) : F.H p = none := by
  cases z : F.H p with
  | none => rfl
  | some o => exact absurd hp (E.still (by rw [z]; exact fun z => nomatch z))
theorem En.up0 (E : En K F H0 H σ ρ) (hp : H p = none) : H0 p = none := by
  cases z : H0 p with
  | none => rfl
  | some o => rw [E.ex p o z] at hp; cases hp
/-- a new thing becomes the base's -/
theorem tO_frz {f : Rho → R Sl} {σ : L2.St} {H : Hp} {Q : VK} (h : tD g F W (frzR f) σ H Q) : tO g F W f σ H Q := by
  obtain ⟨H0, ρ, E, q⟩ := h
  refine ⟨H0, ρ, E, ?_⟩
  unfold frzR at q
  cases e : f ρ with
  | ok s ρ1 =>
    rw [e] at q
    dsimp only [R.bind] at q
    intro v H0' H' E' m hs hfr
    cases s with
    | fr d => exact q v H0' H' E' m hs
    | raw d => exact q.elim
    | io d => exact q.elim
    | ol ds =>
      obtain ⟨a, vs, rfl, h1, h2, h3, h4⟩ := hs
      have hn := hfr rfl a rfl
      have no : ¬ OwnAt σ ρ1 a := fun z => E.notOwn hn (m.sub a z)
      have sm : Same H0' (upd H0' a (.lst vs)) := fun b u hb => by rw [upd_ne (ne_of_none hb h1)]; exact hb
      have gr : Gr ⟨H0', H', none⟩ H0' H' := Gr.refl H0' H' none
      have E2 : En g.K F (upd H0' a (.lst vs)) H' σ ρ1 := by
        refine ⟨⟨E'.gr.b0.trans sm, E'.gr.keep, fun b hb h => ?_, E'.gr.st⟩, fun p hp => ⟨by
          have np : p.1 ≠ a := fun z => by
            obtain ⟨_, ps, w2, _⟩ := E'.tb p hp
            rw [z, h3] at w2
            cases w2
          rw [upd_ne np]
          exact (E'.tb p hp).1, (E'.tb p hp).2⟩, fun b u hb => ?_, E'.len, fun j t ej => ?_, E'.sep, E'.io, E'.io1⟩
        · have : b ≠ a := fun z => hb (z ▸ h2)
          rw [upd_ne this]
          exact E'.gr.off b hb h
        · by_cases hba : b = a
          · subst hba; rw [upd_same] at hb; cases hb; exact h3
          · rw [upd_ne hba] at hb; exact E'.ex b u hb
        · obtain ⟨w, y1, y2⟩ := E'.sl j t ej
          refine ⟨w, y1, ?_⟩
          cases t with
          | fr d => exact Da.mono sm y2
          | ol es =>
            obtain ⟨c, us, rfl, q1, q2, q3, q4⟩ := y2
            have : c ≠ a := fun z => no ⟨j, _, ej, rfl, z ▸ y1⟩
            exact ⟨c, us, rfl, by rw [upd_ne this]; exact q1, q2, q3, q4.mono sm⟩
          | od es =>
            obtain ⟨c, us, rfl, q1, q2, q3, q4⟩ := y2
            have : c ≠ a := fun z => no ⟨j, _, ej, rfl, z ▸ y1⟩
            exact ⟨c, us, rfl, by rw [upd_ne this]; exact q1, q2, q3, q4.mono sm⟩
          | raw w _ => exact y2
          | io es =>
            obtain ⟨c, us, rfl, q1, q2, q3, q4⟩ := y2
            have : c ≠ a := fun z => no ⟨j, _, ej, rfl, z ▸ y1⟩
            exact ⟨c, us, rfl, by rw [upd_ne this]; exact q1, q2, q3, q4.mono sm⟩
      refine q _ _ H' E2 ⟨m.b0.trans sm, m.keep, fun b hb h hno => ?_, m.sub, m.st⟩ (.lst upd_same (h4.mono sm))
      have : b ≠ a := fun z => hb (z ▸ hn)
      rw [upd_ne this]
      exact m.off b hb h hno
    | od ds =>
      obtain ⟨a, vs, rfl, h1, h2, h3, h4⟩ := hs
      have hn := hfr rfl a rfl
      have no : ¬ OwnAt σ ρ1 a := fun z => E.notOwn hn (m.sub a z)
      have sm : Same H0' (upd H0' a (.dK vs)) := fun b u hb => by rw [upd_ne (ne_of_none hb h1)]; exact hb
      have E2 : En g.K F (upd H0' a (.dK vs)) H' σ ρ1 := by
        refine ⟨⟨E'.gr.b0.trans sm, E'.gr.keep, fun b hb h => ?_, E'.gr.st⟩, fun p hp => ⟨by
          have np : p.1 ≠ a := fun z => by
            obtain ⟨_, ps, w2, _⟩ := E'.tb p hp
            rw [z, h3] at w2
            cases w2
          rw [upd_ne np]
          exact (E'.tb p hp).1, (E'.tb p hp).2⟩, fun b u hb => ?_, E'.len, fun j t ej => ?_, E'.sep, E'.io, E'.io1⟩
        · have : b ≠ a := fun z => hb (z ▸ h2)
          rw [upd_ne this]
          exact E'.gr.off b hb h
        · by_cases hba : b = a
          · subst hba; rw [upd_same] at hb; cases hb; exact h3
          · rw [upd_ne hba] at hb; exact E'.ex b u hb
        · obtain ⟨w, y1, y2⟩ := E'.sl j t ej
          refine ⟨w, y1, ?_⟩
          cases t with
          | fr d => exact Da.mono sm y2
          | ol es =>
            obtain ⟨c, us, rfl, q1, q2, q3, q4⟩ := y2
            have : c ≠ a := fun z => no ⟨j, _, ej, rfl, z ▸ y1⟩
            exact ⟨c, us, rfl, by rw [upd_ne this]; exact q1, q2, q3, q4.mono sm⟩
          | od es =>
            obtain ⟨c, us, rfl, q1, q2, q3, q4⟩ := y2
            have : c ≠ a := fun z => no ⟨j, _, ej, rfl, z ▸ y1⟩
            exact ⟨c, us, rfl, by rw [upd_ne this]; exact q1, q2, q3, q4.mono sm⟩
          | raw w _ => exact y2
          | io es =>
            obtain ⟨c, us, rfl, q1, q2, q3, q4⟩ := y2
            have : c ≠ a := fun z => no ⟨j, _, ej, rfl, z ▸ y1⟩
            exact ⟨c, us, rfl, by rw [upd_ne this]; exact q1, q2, q3, q4.mono sm⟩
      refine q _ _ H' E2 ⟨m.b0.trans sm, m.keep, fun b hb h hno => ?_, m.sub, m.st⟩ (.dct upd_same (h4.mono sm))
      have : b ≠ a := fun z => hb (z ▸ hn)
      rw [upd_ne this]
      exact m.off b hb h hno
  | ex x ρ1 =>
    rw [e] at q
    exact q
  | bad =>
    rw [e] at q
    exact q
/-- a new thing, not the base's -/
theorem En.postO {ρ1 : Rho} {B0 B : Hp} (E : En K F H0 H σ ρ1) (m : Mv σ ρ ρ1 B0 B H0 H) (hp : H p = none) : En K F H0 (upd H p o) σ ρ1 ∧ Mv σ ρ ρ1 B0 B H0 (upd H p o) ∧ H0 p = none ∧ F.H p = none ∧ B p = none :=
  ⟨E.grow (gr_newO hp) (same_newO hp E.ex), m.trans (gr_newO hp).mv, E.up0 hp, E.upF hp, m.fresh hp⟩
theorem tLstO_of {f : Rho → R (List Dt)} {σ : L2.St} {H : Hp} {Q : VK} (h : tO g F W (lstO f) σ H Q) : tLst (tDA g F W f) σ H Q := by
  obtain ⟨H0, ρ, E, q⟩ := h
  refine ⟨H0, ρ, E, ?_⟩
  unfold lstO at q
  cases e : f ρ with
  | ok ds ρ1 =>
    rw [e] at q
    dsimp only [R.bind] at q
    intro vs H0' H' E' m hd
    by_cases hl : ds.length ≤ 1000000
    · rw [if_pos hl] at q
      refine ⟨by rw [hd.length]; exact sizeM hl, fun p hp => ?_⟩
      obtain ⟨q1, q2, q3, q4, q5⟩ := E'.postO (o := .lst vs) m hp
      exact q _ _ _ q1 q2 ⟨p, vs, rfl, q3, q4, upd_same, hd⟩ fun _ b z => by cases z; exact q5
    · rw [if_neg hl] at q
      exact q.elim
  | ex x ρ1 =>
    rw [e] at q
    exact q
  | bad =>
    rw [e] at q
    exact q
theorem tDNew_of {σ : L2.St} {H : Hp} {Q : VK} (h : tO g F W dctO0 σ H Q) : tDNewK σ H Q := by
  obtain ⟨H0, ρ, E, q⟩ := h
  intro p hp
  obtain ⟨q1, q2, q3, q4, q5⟩ := E.postO (o := .dK []) Mv.refl hp
  exact q _ _ _ q1 q2 ⟨p, [], rfl, q3, q4, upd_same, .nil⟩ fun _ b z => by cases z; exact q5
theorem tO_fr {f : Rho → R Dt} {σ : L2.St} {H : Hp} {Q : VK} (h : tO g F W (frO f) σ H Q) : tD g F W f σ H Q := by
  obtain ⟨H0, ρ, E, q⟩ := h
  refine ⟨H0, ρ, E, ?_⟩
  unfold frO at q
  cases e : f ρ with
  | ok d ρ1 =>
    rw [e] at q
    exact fun v H0' H' E' m hd => q v H0' H' E' m hd (fun z => nomatch z)
  | ex x ρ1 =>
    rw [e] at q
    exact q
  | bad =>
    rw [e] at q
    exact q
theorem bind_okR {α β : Type} {r : R α} {k : α → Rho → R β} {b : β} {ρ' : Rho} (h : r.bind k = .ok b ρ') : ∃ a ρ1, r = .ok a ρ1 ∧ k a ρ1 = .ok b ρ' := bind_ok h

/-- [e for t in it if c] -/
theorem tLc_of {it : Rho → R (List Dt)} {t : Dt → Rho → Option Rho} {c : Rho → R Bool} {el : Rho → R Dt} {vs is : List Nat} (his : ∀ i ∈ is, i ∈ vs) {σ : L2.St} {H : Hp} {Q : VK} (h : tO g F W (lcO it t c el vs) σ H Q) :
    tLc (tI g F W it) (tG g F is t) (tDT g F WF c) (tD g F WF el) vs σ H Q := by
  obtain ⟨H0, ρ, E, q⟩ := h
  refine ⟨H0, ρ, E, ?_⟩
  unfold lcO at q
  cases e : it ρ with
  | ex x ρ1 =>
    rw [e] at q
    exact q
  | bad =>
    rw [e] at q
    exact q
  | ok xs ρ1 =>
    rw [e] at q
    dsimp only [R.bind] at q
    intro J B0 B E1 m1 hJ D hD
    by_cases hc : okW vs ρ1 = true ∧ xs.length ≤ 1000000
    · rw [if_pos hc] at q
      cases er : lcL t c el vs xs (wipeR ρ1 vs) with
      | ex _ _ => rw [er] at q; exact q.elim
      | bad => rw [er] at q; exact q.elim
      | ok full ρe =>
        rw [er] at q
        dsimp only at q
        obtain ⟨G, Y, wk, hG, hY⟩ := hJ
        have hFD : F.H D = none := E1.upF hD
        have nD : ¬ OwnAt σ ρ1 D := E1.notOwn hD
        have Ew := E1.wipe vs hc.1
        have nDw : ¬ OwnAt (wipe σ vs) (wipeR ρ1 vs) D := fun z => nD (own_wipe (own_wipeR z))
        refine lc_it wk (fun i H => ∃ C0 ρc acc done tl, En g.K F C0 H (wipe σ vs) ρc ∧ Mw σ ρ1 (wipe σ vs) ρc B0 B C0 H ∧ H D = some (.lst acc) ∧ C0 D = none ∧ DaAll g.K C0 acc done ∧ done.length ≤ i ∧
          lcL t c el vs (xs.drop i) ρc = .ok tl ρe ∧ full = done ++ tl) ?_ (fun i H _ ⟨C0, ρc, acc, done, tl, Ec, mc, _⟩ => hG H (mc.b0.trans Ec.ex)) ?_ ?_
        · refine ⟨B0, wipeR ρ1 vs, [], [], full, Ew.beside (E1.up0 hD) hFD nDw (.inr (.inr hD)), ⟨Same.refl _, fun a o h _ _ => ?_, fun _ _ h _ => h, fun a o => own_wipe (own_wipeR o), fun a h => ?_⟩, upd_same, E1.up0 hD, .nil, Nat.le_refl _, by rw [List.drop_zero]; exact er, rfl⟩
          · rw [upd_ne (ne_of_none h hD)]
            exact h
          · have : a ≠ D := fun z => h (z ▸ hD)
            rw [upd_ne this]
            exact h
        · rintro i x H H' hi ⟨C0, ρc, acc, done, tl, Ec, mc, hacc, hC, hdd, hlen, hrun, hfull⟩ y
          obtain ⟨d, hd, hx⟩ := hY i H x H' hi (mc.b0.trans Ec.ex) y
          have nc : ¬ OwnAt (wipe σ vs) ρc D := fun z => nD (mc.sub D z)
          obtain ⟨D0, Ed, md, dd⟩ := item_at Ec mc.b0 hx
          have hacc' : H' D = some (.lst acc) := md.kl D hacc nc
          have hC' : D0 D = none := md.off D (by rw [hacc]; exact fun z => nomatch z) hC nc
          have hdrop : xs.drop i = d :: xs.drop (i + 1) := by
            obtain ⟨hlt, hget⟩ := List.getElem?_eq_some_iff.mp hd
            rw [List.drop_eq_getElem_cons hlt, hget]
          rw [hdrop] at hrun
          unfold lcL at hrun
          cases et : t d ρc with
          | none => rw [et] at hrun; cases hrun
          | some ρ2 =>
            rw [et] at hrun
            dsimp only at hrun
            obtain ⟨b, ρ3, hb, hrun⟩ := bind_ok hrun
            refine ⟨D0, ρc, d, Ed, dd, ρ2, et, fun us E2 ow => ?_⟩
            have hw2 : wipe (setAll is us (wipe σ vs)) vs = wipe σ vs := by rw [wipe_setAll vs is us _ his, wipe_idem vs vs σ fun _ z => z]
            have n2 : ¬ OwnAt (setAll is us (wipe σ vs)) ρ2 D := fun z => nc (ow D z)
            have m2 : Mw (wipe σ vs) ρc (setAll is us (wipe σ vs)) ρ2 D0 H' D0 H' := ⟨Same.refl _, fun _ _ h _ _ => h, fun _ _ h _ => h, fun a o => ow a o, fun _ h => h⟩
            refine ⟨hw2, D0, ρ2, E2, ?_⟩
            rw [hb]
            intro I0 I E3 m3
            have n3 : ¬ OwnAt (setAll is us (wipe σ vs)) ρ3 D := fun z => n2 (m3.sub D z)
            have acc3 : I D = some (.lst acc) := m3.kl D hacc' n2
            have C3 : I0 D = none := m3.off D (by rw [hacc']; exact fun z => nomatch z) hC' n2
            have M3 := (mc.trans md).trans (m2.trans m3)
            have down : ∀ {J0 J : Hp} {ρ4 : Rho}, En g.K F J0 J (setAll is us (wipe σ vs)) ρ4 → Mw σ ρ1 (setAll is us (wipe σ vs)) ρ4 B0 B J0 J → En g.K F J0 J (wipe σ vs) (wipeR ρ4 vs) ∧ Mw σ ρ1 (wipe σ vs) (wipeR ρ4 vs) B0 B J0 J := fun {J0 J ρ4} E4 M4 => by
              have ok4 : okW vs ρ4 = true := by
                have h1 := hc.1
                unfold okW at h1 ⊢
                rw [Bool.or_eq_true] at h1 ⊢
                rcases h1 with h1 | h1
                · left
                  refine noIo_iff.mpr fun kvs ek => ?_
                  obtain ⟨w, y1, a, ks, rfl, z2, z3, z4, z5⟩ := E4.sl 0 _ ek
                  obtain ⟨_, ⟨kv, y2⟩, _⟩ := E1.io a z3
                  exact noIo_iff.mp h1 kv y2
                · exact .inr h1
              have E5 := E4.wipe vs ok4
              rw [hw2] at E5
              refine ⟨E5, M4.b0, M4.keep, M4.off, fun a o => M4.sub a ?_, M4.st⟩
              have o2 := own_wipeR o
              obtain ⟨i, s, y1, y2, y3⟩ := o2
              rw [← hw2] at y3
              exact ⟨i, s, y1, y2, wipe_get vs y3⟩
            cases b with
            | true =>
              rw [if_pos rfl] at hrun ⊢
              obtain ⟨d2, ρ4, hel, hrun⟩ := bind_ok hrun
              obtain ⟨ds, ρ5, hrest, hrun⟩ := bind_ok hrun
              cases hrun
              refine ⟨I0, ρ3, E3, ?_⟩
              rw [hel]
              intro v2 J0 J' E4 m4 dv
              have n4 : ¬ OwnAt (setAll is us (wipe σ vs)) ρ4 D := fun z => n3 (m4.sub D z)
              have acc4 : J' D = some (.lst acc) := m4.kl D acc3 n3
              have C4 : J0 D = none := m4.off D (by rw [acc3]; exact fun z => nomatch z) C3 n3
              obtain ⟨E5, M5⟩ := down E4 (M3.trans m4)
              have n5 : ¬ OwnAt (wipe σ vs) (wipeR ρ4 vs) D := fun z => nD (M5.sub D z)
              have hal : acc.length = done.length := hdd.length
              refine ⟨acc, acc4, Nat.lt_of_le_of_lt (by rw [hal]; exact Nat.le_trans hlen (Nat.le_trans (Nat.le_of_lt hi) hc.2)) (by decide), J0, wipeR ρ4 vs, acc ++ [v2], done ++ [d2], ds, E5.beside C4 hFD n5 (.inl ⟨_, acc4⟩), ⟨M5.b0, fun a o h nt ho => ?_, M5.off, M5.sub, fun a h => ?_⟩, upd_same, C4,
                (((hdd.mono md.b0).mono m3.b0).mono m4.b0).append (.cons dv .nil), by rw [List.length_append]; exact Nat.succ_le_succ hlen, hrest, by rw [hfull, List.append_assoc]; rfl⟩
              · rw [upd_ne (ne_of_none h hD)]
                exact M5.keep a o h nt ho
              · have : a ≠ D := fun z => h (z ▸ hD)
                rw [upd_ne this]
                exact M5.st a h
            | false =>
              rw [if_neg Bool.false_ne_true] at hrun ⊢
              obtain ⟨E5, M5⟩ := down E3 M3
              exact ⟨I0, wipeR ρ3 vs, acc, done, tl, E5, M5, acc3, C3, (hdd.mono md.b0).mono m3.b0, Nat.le_succ_of_le hlen, hrun, hfull⟩
        · rintro H ⟨C0, ρc, acc, done, tl, Ec, mc, hacc, hC, hdd, hlen, hrun, hfull⟩
          rw [List.drop_length] at hrun
          cases hrun
          rw [List.append_nil] at hfull
          subst hfull
          have E6 : En g.K F C0 H σ ρe := Ec.unwipe (by rw [E1.len, ← E1.len, ← wipe_length σ vs, Ec.len])
          refine q _ C0 H E6 (m1.trans ⟨mc.b0, mc.keep, mc.off, fun a o => ?_, mc.st⟩) ⟨D, acc, rfl, hC, hFD, hacc, hdd⟩ fun _ b z => by cases z; exact m1.fresh hD
          obtain ⟨i, s, y1, y2, y3⟩ := o
          obtain ⟨w, z1, _⟩ := Ec.sl i s y1
          have z2 := wipe_get vs z1
          rw [y3] at z2
          cases z2
          exact mc.sub a ⟨i, s, y1, y2, z1⟩
    · rw [if_neg hc] at q
      exact q.elim
end
end DW

set_option Elab.async false
set_option linter.all false
set_option maxRecDepth 100000
set_option maxHeartbeats 4000000
/-! DWA: the text's side of DW9; walks; append, d[k] = v, a, b = x, y -/
namespace DW
open PySem PySem.Spec PyProof.Rows L2

/-! ### what is walked -/
def itD : Dt → Option (List Dt)
  | .lst ds => some ds
  | .tup ds => some ds
  | .scr ns => some (ns.map .int)
  | .str z => some (z.cps.toList.map fun c => .str ⟨#[c]⟩)
  | _ => none
def itF (f : Rho → R Dt) : Rho → R (List Dt) := fun ρ => (f ρ).bind fun d ρ1 => match itD d with
  | some ds => .ok ds ρ1
  | none => .bad
def rngD1 : List Dt → Option (List Dt)
  | [.int n] => if -(2 ^ 62) ≤ n ∧ n < 2 ^ 62 then some ((List.range n.toNat).map fun i => .int (i : Nat)) else none
  | _ => none
def rngD2 : List Dt → Option (List Dt)
  | [.int a, .int b] => if -(2 ^ 62) ≤ a ∧ a < 2 ^ 62 ∧ -(2 ^ 62) ≤ b ∧ b < 2 ^ 62 then some ((List.range (b - a).toNat).map fun i => .int (a + (i : Nat))) else none
  | _ => none
def rngD3 : List Dt → Option (List Dt)
  | [.int a, .int b, .int c] => if 0 < c ∧ c < 2 ^ 29 ∧ -(2 ^ 62) ≤ a ∧ a < 2 ^ 62 ∧ -(2 ^ 62) ≤ b ∧ b < 2 ^ 62 then some ((List.range (if a < b then (b - a - 1) / c + 1 else 0).toNat).map fun i => .int (a + (i : Nat) * c)) else none
  | _ => none
def rngF (gd : List Dt → Option (List Dt)) (f : Rho → R (List Dt)) : Rho → R (List Dt) := fun ρ => (f ρ).bind fun ds ρ1 => match gd ds with
  | some xs => .ok xs ρ1
  | none => .bad
theorem PI.wk {X : Cx} {tg e : Expr} {t u : TI} (h : PI X tg e t) (k : ∀ σ H Q, u σ H Q → t σ H Q) : PI X tg e u := ⟨fun pins s σ H Q I q => h.run pins s σ H Q I (k σ H Q q)⟩
theorem PI.or {X : Cx} {tg e : Expr} {t u : TI} (h : PI X tg e t) (h' : PI X tg e u) : PI X tg e (fun σ H Q => t σ H Q ∨ u σ H Q) := ⟨fun pins s σ H Q I q => by
  rcases q with q | q
  · exact h.run pins s σ H Q I q
  · exact h'.run pins s σ H Q I q⟩
section
variable {g : Gx} {F : Fm} {W : WX} {σ : L2.St} {H : Hp} {K : PySem.W.Frag}
theorem itd_list {H0 : Hp} {a : Addr} {vs : List V} {ds : List Dt} (h1 : H0 a = some (.lst vs)) (h2 : DaAll K H0 vs ds) : ItD K (Itl K a) H0 ds := by
  refine ⟨_, _, by rw [← h2.length]; exact walk_list (K := K) (a := a) (xs := vs), fun H s => SqL.of (s _ _ h1), fun i H x H' hi s y => ?_⟩
  obtain ⟨rfl, hx⟩ := y
  obtain ⟨d, hd, dd⟩ := h2.getV hx
  exact ⟨d, hd, .inl ⟨rfl, dd⟩⟩
theorem itd_tup {H0 : Hp} {a : Addr} {vs : List V} {ds : List Dt} (h1 : SqT K H0 a vs) (h2 : DaAll K H0 vs ds) : ItD K (Itt K a) H0 ds := by
  refine ⟨_, _, by rw [← h2.length]; exact walk_tup (K := K) (a := a) (xs := vs), fun H s => seqT_mono s h1, fun i H x H' hi s y => ?_⟩
  obtain ⟨rfl, hx⟩ := y
  obtain ⟨d, hd, dd⟩ := h2.getV hx
  exact ⟨d, hd, .inl ⟨rfl, dd⟩⟩
theorem itd_scr {H0 : Hp} {a : Addr} {ns : List Int} (h1 : SqL K H0 a (ns.map V.int)) : ItD K (Itl K a) H0 (ns.map .int) := by
  refine ⟨_, _, by rw [List.length_map, ← List.length_map (f := V.int) (as := ns)]; exact walk_list (K := K) (a := a) (xs := ns.map V.int), fun H s => seqL_mono s h1, fun i H x H' hi s y => ?_⟩
  obtain ⟨rfl, hx⟩ := y
  obtain ⟨d, hd, dd⟩ := (daInts (K := K) (H := H0) ns).getV hx
  exact ⟨d, hd, .inl ⟨rfl, dd⟩⟩
theorem itd_str {H0 : Hp} {z : Str} : ItD K (Its z) H0 (z.cps.toList.map fun c => .str ⟨#[c]⟩) := by
  refine ⟨_, _, by rw [List.length_map]; exact walk_str (z := z), fun H s => trivial, fun i H x H' hi s y => ?_⟩
  obtain ⟨rfl, c, hc, rfl⟩ := y
  refine ⟨.str ⟨#[c]⟩, ?_, .inl ⟨rfl, .str _⟩⟩
  rw [List.getElem?_map, Array.getElem?_toList, hc]
  rfl
theorem itd_rng {H0 : Hp} (lo : Int) (n : Nat) : ItD K (Itr lo n) H0 ((List.range n).map fun i => .int (lo + (i : Nat))) := by
  refine ⟨_, _, by rw [List.length_map, List.length_range]; exact walk_range (lo := lo) (n := n), fun H s => trivial, fun i H x H' hi s y => ?_⟩
  rw [List.length_map, List.length_range] at hi
  obtain ⟨rfl, rfl⟩ := y
  refine ⟨.int (lo + i), ?_, .inl ⟨rfl, .int _⟩⟩
  rw [List.getElem?_map, List.getElem?_range hi]
  rfl
theorem itd_rngC {H0 : Hp} (lo c : Int) (n : Nat) : ItD K (Itc lo c n) H0 ((List.range n).map fun i => .int (lo + (i : Nat) * c)) := by
  refine ⟨_, _, by rw [List.length_map, List.length_range]; exact walk_rangeC (lo := lo) (c := c) (n := n), fun H s => trivial, fun i H x H' hi s y => ?_⟩
  rw [List.length_map, List.length_range] at hi
  obtain ⟨rfl, rfl⟩ := y
  refine ⟨.int (lo + i * c), ?_, .inl ⟨rfl, .int _⟩⟩
  rw [List.getElem?_map, List.getElem?_range hi]
  rfl
def iAll (K : PySem.W.Frag) (t : TE) : TI := fun σ H R => iList K t σ H R ∨ iTup K t σ H R ∨ iStr t σ H R
theorem iAll_of {f : Rho → R Dt} {Rk : It → Hp → Prop} (h : tI g F W (itF f) σ H Rk) : iAll g.K (tD g F W f) σ H Rk := by
  obtain ⟨H0, ρ, E, q⟩ := h
  unfold itF at q
  cases e : f ρ with
  | ok d ρ1 =>
    rw [e] at q
    dsimp only [R.bind] at q
    cases d with
    | lst ds =>
      refine .inl ⟨H0, ρ, E, ?_⟩
      rw [e]
      intro v H0' H' E' m hd
      cases hd with
      | lst h1 h2 => exact ⟨_, rfl, ⟨_, SqL.of (E'.ex _ _ h1)⟩, q _ H0' H' E' m (itd_list h1 h2)⟩
    | scr ds =>
      refine .inl ⟨H0, ρ, E, ?_⟩
      rw [e]
      intro v H0' H' E' m hd
      cases hd with
      | scr h1 => exact ⟨_, rfl, ⟨_, seqL_mono E'.ex h1⟩, q _ H0' H' E' m (itd_scr h1)⟩
    | tup ds =>
      refine .inr (.inl ⟨H0, ρ, E, ?_⟩)
      rw [e]
      intro v H0' H' E' m hd
      cases hd with
      | tup h1 h2 => exact ⟨_, rfl, ⟨_, seqT_mono E'.ex h1⟩, q _ H0' H' E' m (itd_tup h1 h2)⟩
    | str z =>
      refine .inr (.inr ⟨H0, ρ, E, ?_⟩)
      rw [e]
      intro v H0' H' E' m hd
      cases hd
      exact ⟨z, rfl, q _ H0' H' E' m itd_str⟩
    | _ => exact q.elim
  | ex x ρ1 =>
    rw [e] at q
    refine .inl ⟨H0, ρ, E, ?_⟩
    rw [e]
    exact q
  | bad =>
    rw [e] at q
    exact q.elim
theorem rng_small {a b c : Int} (h : 0 < c ∧ c < 2 ^ 29 ∧ -(2 ^ 62) ≤ a ∧ a < 2 ^ 62 ∧ -(2 ^ 62) ≤ b ∧ b < 2 ^ 62) : RgC a b c (if a < b then (b - a - 1) / c + 1 else 0).toNat := by
  obtain ⟨h1, h2, h3, h4, h5, h6⟩ := h
  refine ⟨by omega, by omega, ?_, ?_⟩
  · have hs : Builtin.Range.rangeSize a b c = (if a < b then (b - a - 1) / c + 1 else 0) := by
      unfold Builtin.Range.rangeSize
      rw [if_pos h1]
    have hq : a < b → 0 ≤ (b - a - 1) / c ∧ (b - a - 1) / c ≤ b - a - 1 := fun hab => ⟨Int.ediv_nonneg (by omega) (by omega), Int.ediv_le_self _ (by omega)⟩
    unfold Builtin.Range.small
    rw [hs]
    simp only [Builtin.Range.rangeFitsLong, Bool.and_eq_true, Bool.or_eq_true, decide_eq_true_eq, beq_iff_eq, gt_iff_lt, h1, if_true]
    split
    · rename_i hab
      obtain ⟨q1, q2⟩ := hq hab
      omega
    · omega
  · unfold Builtin.Range.rangeSize
    rw [if_pos h1]
    split
    · have : 0 ≤ (b - a - 1) / c := Int.ediv_nonneg (by omega) (by omega)
      omega
    · rfl
theorem iRng1_of {f : Rho → R (List Dt)} {Rk : It → Hp → Prop} (h : tI g F W (rngF rngD1 f) σ H Rk) : iRng1 (tDA g F W f) σ H Rk := by
  obtain ⟨H0, ρ, E, q⟩ := h
  refine ⟨H0, ρ, E, ?_⟩
  unfold rngF at q
  cases e : f ρ with
  | ok ds ρ1 =>
    rw [e] at q
    dsimp only [R.bind] at q
    intro vs H0' H' E' m hd
    cases e2 : rngD1 ds with
    | none => rw [e2] at q; exact q.elim
    | some xs =>
      rw [e2] at q
      unfold rngD1 at e2
      split at e2
      · split at e2
        · rename_i n hb
          cases e2
          have : vs = [V.int n] := hd.ints (ns := [n])
          refine ⟨n, this, hb.1, hb.2, q _ H0' H' E' m ?_⟩
          have z := itd_rng (K := g.K) (H0 := H0') 0 n.toNat
          simpa using z
        · cases e2
      · cases e2
  | ex x ρ1 =>
    rw [e] at q
    exact q
  | bad =>
    rw [e] at q
    exact q
theorem iRng2_of {f : Rho → R (List Dt)} {Rk : It → Hp → Prop} (h : tI g F W (rngF rngD2 f) σ H Rk) : iRng2 (tDA g F W f) σ H Rk := by
  obtain ⟨H0, ρ, E, q⟩ := h
  refine ⟨H0, ρ, E, ?_⟩
  unfold rngF at q
  cases e : f ρ with
  | ok ds ρ1 =>
    rw [e] at q
    dsimp only [R.bind] at q
    intro vs H0' H' E' m hd
    cases e2 : rngD2 ds with
    | none => rw [e2] at q; exact q.elim
    | some xs =>
      rw [e2] at q
      unfold rngD2 at e2
      split at e2
      · split at e2
        · rename_i a b hb
          cases e2
          have : vs = [V.int a, V.int b] := hd.ints (ns := [a, b])
          exact ⟨a, b, this, hb, q _ H0' H' E' m (itd_rng _ _)⟩
        · cases e2
      · cases e2
  | ex x ρ1 =>
    rw [e] at q
    exact q
  | bad =>
    rw [e] at q
    exact q
theorem iRng3_of {f : Rho → R (List Dt)} {Rk : It → Hp → Prop} (h : tI g F W (rngF rngD3 f) σ H Rk) : iRng3 (tDA g F W f) σ H Rk := by
  obtain ⟨H0, ρ, E, q⟩ := h
  refine ⟨H0, ρ, E, ?_⟩
  unfold rngF at q
  cases e : f ρ with
  | ok ds ρ1 =>
    rw [e] at q
    dsimp only [R.bind] at q
    intro vs H0' H' E' m hd
    cases e2 : rngD3 ds with
    | none => rw [e2] at q; exact q.elim
    | some xs =>
      rw [e2] at q
      unfold rngD3 at e2
      split at e2
      · split at e2
        · rename_i a b c hb
          cases e2
          have : vs = [V.int a, V.int b, V.int c] := hd.ints (ns := [a, b, c])
          exact ⟨a, b, c, _, this, rng_small hb, q _ H0' H' E' m (itd_rngC _ _ _)⟩
        · cases e2
      · cases e2
  | ex x ρ1 =>
    rw [e] at q
    exact q
  | bad =>
    rw [e] at q
    exact q
end
end DW

set_option Elab.async false
set_option linter.all false
set_option maxRecDepth 100000
set_option maxHeartbeats 4000000
/-! DWB: rules: made things, walks, append, stores, methods -/
namespace DW
open PySem PySem.Spec PyProof.Rows L2

section
variable {X : Cx} {W : WX} {a b c e : Expr} {es : List Expr} {pos p p2 p3 : Pos} {f1 f2 f3 : Rho → R Dt} {fa : Rho → R (List Dt)} {fo : Rho → R Sl}
theorem do_lst (h : DA X W es fa) : DO X W (.List es pos) (lstO fa) := fun F => PE.wk (pe_lst (h F)) fun _ _ _ q => tLstO_of q
theorem do_dct0 : DO X W (.Dict [] [] pos) dctO0 := fun F => PE.wk pe_dnewK fun _ _ _ q => tDNew_of q
theorem do_fr (h : DE X W e f1) : DO X W e (frO f1) := fun F => PE.wk (h F) fun _ _ _ q => tO_fr q
theorem de_do (h : DO X W e fo) : DE X W e (frzR fo) := fun F => PE.wk (h F) fun _ _ _ q => tO_frz q
/-! ### walks -/
theorem di_all {tg : Expr} (h : DE X W e f1) : DI X W tg e (itF f1) := fun F => PI.wk (PI.or (pi_list (h F)) (PI.or (pi_tup (h F)) (pi_str (h F)))) fun _ _ _ q => iAll_of q
theorem di_range1 {tg : Expr} (hg : Gl X "range") (hm : X.mg "range" = none) (h : DA X W [a] fa) (hs : starEach [a] X.env = [(false, eval a X.env)] := by rfl) : DI X W tg (.Call (.Name "range" p) [a] [] pos) (rngF rngD1 fa) := fun F => PI.wk (pi_range1 hg hm (h F) hs) fun _ _ _ q => iRng1_of q
theorem di_range2 {tg : Expr} (hg : Gl X "range") (hm : X.mg "range" = none) (h : DA X W [a, b] fa) (hs : starEach [a, b] X.env = [(false, eval a X.env), (false, eval b X.env)] := by rfl) (hs2 : starEach [b] X.env = [(false, eval b X.env)] := by rfl) : DI X W tg (.Call (.Name "range" p) [a, b] [] pos) (rngF rngD2 fa) := fun F => PI.wk (pi_range2 hg hm (h F) hs hs2) fun _ _ _ q => iRng2_of q
theorem di_range3 {tg : Expr} (hg : Gl X "range") (hm : X.mg "range" = none) (h : DA X W [a, b, c] fa) (hs : starEach [a, b, c] X.env = (false, eval a X.env) :: starEach [b, c] X.env := by rfl) (hpl : (backTo pos (starEach [b, c] X.env)).any (·.1) = false := by rfl) : DI X W tg (.Call (.Name "range" p) [a, b, c] [] pos) (rngF rngD3 fa) := fun F => PI.wk (pi_range3 hg hm (h F) hs hpl) fun _ _ _ q => iRng3_of q
/-! ### tests of comprehensions -/
def DTs (X : Cx) (W : WX) (ifs : List Expr) (f : Rho → R Bool) : Prop := ∀ F, PTs X ifs (tDT (gx X) F W f)
theorem PTs.wk {ifs : List Expr} {t u : TT} (h : PTs X ifs t) (k : ∀ σ H Q, u σ H Q → t σ H Q) : PTs X ifs u := ⟨fun pins s σ H Q I q => h.run pins s σ H Q I (k σ H Q q)⟩
theorem dts_nil : DTs X W [] yesT := fun F => PTs.wk pts_nil fun σ H Q ⟨H0, ρ, E, q⟩ => q H0 H E Mv.refl
theorem dts_one {t1 : Rho → R Bool} (h : DT X W c t1) : DTs X W [c] t1 := fun F => pts_one (h F)
abbrev blkX (X : Cx) (scope : Scope) (s : Shared) (H : Hp) (C : Addr) (cl : List (Str × Addr)) (fp : List Addr) : Cx := X.blk s H scope (compEnvC scope cl C X.env) fp
theorem do_lc {elt tg iter : Expr} {ifs : List Expr} {scope : Scope} {own : List (Str × Nat)} {it : Rho → R (List Dt)} {t : Dt → Rho → Option Rho} {ct : Rho → R Bool} {el : Rho → R Dt} {is : List Nat} (hc : X.calm = true) (hN : X.N.Nodup) (hi : DI X W tg iter it) (ok : BlkOk X.N X.env.scope scope own)
    (hg : ∀ s H C cl fp, DG (blkX X scope s H C cl fp) tg is t) (ht : ∀ s H C cl fp, DTs (blkX X scope s H C cl fp) WF ifs ct) (he : ∀ s H C cl fp, DE (blkX X scope s H C cl fp) WF elt el) (his : ∀ i ∈ is, i ∈ own.map (·.2))
    (hs : ∀ x, foldedSetIterable iter X.env x = pure x := by intro _; rfl) : DO X W (.ListComp elt [⟨tg, iter, ifs, 0⟩] scope pos) (lcO it t ct el (own.map (·.2))) :=
  fun F => PE.wk (pe_lc hc hN (hi F) ok (fun s H C cl fp => hg s H C cl fp F) (fun s H C cl fp => ht s H C cl fp F) (fun s H C cl fp => he s H C cl fp F) hs) fun _ _ _ q => tLc_of his q
theorem ds_setLc (i : Nat) {y : Str} {py spos : Pos} {elt tg iter : Expr} {ifs : List Expr} {scope : Scope} {own : List (Str × Nat)} {it : Rho → R (List Dt)} {t : Dt → Rho → Option Rho} {ct : Rho → R Bool} {el : Rho → R Dt} {is : List Nat} (hc : X.calm = true) (hN : X.N.Nodup)
    (hsw : swapsWith (.ListComp elt [⟨tg, iter, ifs, 0⟩] scope pos) (some (.Name y py)) spos.line X.env = pure true) (hi : DI X W tg iter it) (ok : BlkOk X.N X.env.scope scope own)
    (hg : ∀ s H C cl fp, DG (blkX X scope s H C cl fp) tg is t) (ht : ∀ s H C cl fp, DTs (blkX X scope s H C cl fp) WF ifs ct) (he : ∀ s H C cl fp, DE (blkX X scope s H C cl fp) WF elt el) (his : ∀ i ∈ is, i ∈ own.map (·.2))
    (hy : X.N[i]? = some y := by rfl) (hyl : X.env.scope.names.lookup y = some .local := by rfl)
    (hs : ∀ x, foldedSetIterable iter X.env x = pure x := by intro _; rfl) : DS X W (.Assign [.Name y py] (.ListComp elt [⟨tg, iter, ifs, 0⟩] scope pos) spos) (setS i (frzR (lcO it t ct el (own.map (·.2))))) :=
  fun F => PS.wk (ps_setLc hc hN hy hyl hsw (hi F) ok (fun s H C cl fp => hg s H C cl fp F) (fun s H C cl fp => ht s H C cl fp F) (fun s H C cl fp => he s H C cl fp F) hs) fun D σ H h => by
    have h2 : tD (gx X) F W (frzR (lcO it t ct el (own.map (·.2)))) σ H (fun x H1 => gName i x σ H1 D.nx) := by
      refine tD_bindS h fun v H0 H' ρ1 d E hd q => ?_
      obtain ⟨ρ2, e, k⟩ := nxO_post q
      exact k _ H' (E.putFr hd e)
    exact tLc_of his (tO_frz h2)
theorem ds_setLcO (i : Nat) {y : Str} {py spos : Pos} {elt tg iter : Expr} {ifs : List Expr} {scope : Scope} {own : List (Str × Nat)} {it : Rho → R (List Dt)} {t : Dt → Rho → Option Rho} {ct : Rho → R Bool} {el : Rho → R Dt} {is : List Nat} (hc : X.calm = true) (hN : X.N.Nodup)
    (hsw : swapsWith (.ListComp elt [⟨tg, iter, ifs, 0⟩] scope pos) (some (.Name y py)) spos.line X.env = pure true) (hi : DI X W tg iter it) (ok : BlkOk X.N X.env.scope scope own)
    (hg : ∀ s H C cl fp, DG (blkX X scope s H C cl fp) tg is t) (ht : ∀ s H C cl fp, DTs (blkX X scope s H C cl fp) WF ifs ct) (he : ∀ s H C cl fp, DE (blkX X scope s H C cl fp) WF elt el) (his : ∀ i ∈ is, i ∈ own.map (·.2))
    (hy : X.N[i]? = some y := by rfl) (hyl : X.env.scope.names.lookup y = some .local := by rfl)
    (hs : ∀ x, foldedSetIterable iter X.env x = pure x := by intro _; rfl) : DS X W (.Assign [.Name y py] (.ListComp elt [⟨tg, iter, ifs, 0⟩] scope pos) spos) (setOS i (lcO it t ct el (own.map (·.2)))) :=
  fun F => PS.wk (ps_setLc hc hN hy hyl hsw (hi F) ok (fun s H C cl fp => hg s H C cl fp F) (fun s H C cl fp => ht s H C cl fp F) (fun s H C cl fp => he s H C cl fp F) hs) fun D σ H h => by
    refine tLc_of his (tO_bindS h fun v H0 H' ρ1 s E hd ho q => ?_)
    cases s with
    | raw _ _ =>
      obtain ⟨ρ2, e, k⟩ := nxO_post q
      exact k _ H' (E.put hd (fun _ z => nomatch z) ho e)
    | io _ => exact q.elim
    | fr d =>
      obtain ⟨ρ2, e, k⟩ := nxO_post q
      exact k _ H' (E.put hd (fun _ z => nomatch z) ho e)
    | ol d =>
      obtain ⟨ρ2, e, k⟩ := nxO_post q
      exact k _ H' (E.put hd (fun _ z => nomatch z) ho e)
    | od d =>
      obtain ⟨ρ2, e, k⟩ := nxO_post q
      exact k _ H' (E.put hd (fun _ z => nomatch z) ho e)

/-! ### x.append(e) -/
theorem ds_app (i : Nat) {x : Str} {apos cpos spos : Pos} (hx : PE X (.Name x p) (tVar i)) (he : DE X W e f1) (hbase : attributeBase (.Name x p) "append" X.env (eval (.Name x p) X.env) = eval (.Name x p) X.env := by rfl)
    (hfew : ((backTo cpos (starEach (e :: []) X.env)).all (fun x => !x.1) && (backToKw cpos (keywordEach [] X.env)).all (fun x => x.1.isSome)
      && decide ((e :: ([] : List Expr)).length + ([] : List Keyword).length + (if ([] : List Keyword).isEmpty then 0 else 1) < 30)) = true := by rfl)
    (hline : (apos.endLine == cpos.line) = true := by rfl) (hs : starEach (e :: []) X.env = (false, eval e X.env) :: starEach [] X.env := by rfl) (hplain : (backTo cpos (starEach [] X.env)).any (·.1) = false := by rfl)
    (hsw : swapsWith (.Call (.Attribute (.Name x p) "append" apos) [e] [] cpos) none spos.line X.env = pure false := by rfl) :
    DS X W (.Expr (.Call (.Attribute (.Name x p) "append" apos) [e] [] cpos) spos) (appS i f1) :=
  fun F => PS.wk (ps_expr (pe_bm PySem.F.plainAttrs_list PySem.F.slot_list_append PySem.F.type_list_append mt_append hx (pa_cons (he F) pa_nil hs) hbase hfew hline hs hplain) hsw) fun D σ H ⟨H0, ρ, E, q⟩ => by
    unfold appS at q
    cases e0 : lAt i ρ with
    | none => rw [e0] at q; exact q.elim
    | some xs0 =>
      rw [e0] at q
      dsimp only at q
      have at_ : ∀ {H0 H : Hp} {ρ : Rho} {xs : List Dt}, En X.K F H0 H σ ρ → lAt i ρ = some xs → ∃ a vs, σ[i]? = some (some (.ref a)) ∧ H a = some (.lst vs) ∧ DaAll X.K H0 vs xs ∧ ρ[i]? = some (some (.ol xs)) := fun {H0 H ρ xs} E h => by
        unfold lAt at h
        split at h
        · rename_i e
          cases h
          obtain ⟨v, h1, a, vs, rfl, h2, h3, h4, h5⟩ := E.sl i _ e
          exact ⟨a, vs, h1, h4, h5, e⟩
        · cases h
      obtain ⟨a, vs, ha, hv, _⟩ := at_ E e0
      refine ⟨.ref a, ha, .inl ⟨rfl, _, SqL.of hv⟩, H0, ρ, E, ?_⟩
      cases e1 : f1 ρ with
      | ok d ρ1 =>
        rw [e1] at q
        dsimp only [R.bindS] at q
        intro v H0' H' E' m hd
        cases e2 : lAt i ρ1 with
        | none => rw [e2] at q; exact q.elim
        | some xs =>
          rw [e2] at q
          dsimp only at q
          obtain ⟨a', vs', ha', hv', hd', hi'⟩ := at_ E' e2
          rw [ha] at ha'
          cases ha'
          split at q
          · rename_i hl
            refine ⟨a, vs', v, rfl, rfl, hv', by rw [hd'.length]; exact Nat.lt_of_lt_of_le hl (by decide), ?_⟩
            exact q σ H0' _ (E'.mutL hi' ha (hd'.append (.cons hd .nil))) m.b0
          · exact q.elim
      | ex x ρ1 => rw [e1] at q; exact q σ
      | bad => rw [e1] at q; exact q
/-! ### d[k] = v -/
theorem ds_dput (i : Nat) {x : Str} {k v : Expr} {spos : Pos} {fk fv : Rho → R Dt} (hu : X.A.units + 1 < cLine) (hx : PE X (.Name x p) (tVar i)) (hk : DE X W k fk) (hv : DE X W v fv) (hs : swapsWith v (some (.Subscript (.Name x p) k p2)) spos.line X.env = pure false := by rfl) :
    DS X W (.Assign [.Subscript (.Name x p) k p2] v spos) (dputS i fk fv) := fun F => PS.wk (ps_dput hu hx (hk F) (hv F) hs) fun D σ H h => by
  refine tD_bindS h fun v H0 H' ρ1 d E hd q => ?_
  cases e0 : dAt i ρ1 with
  | none => rw [e0] at q; exact q.elim
  | some kvs0 =>
    rw [e0] at q
    dsimp only at q
    obtain ⟨a, ks0, ha, _⟩ := dAt_put E e0
    refine ⟨.ref a, ha, H0, ρ1, E, ?_⟩
    cases e1 : fk ρ1 with
    | ok kd ρ2 =>
      rw [e1] at q
      dsimp only [R.bindS] at q
      intro y B0 B E2 m2 dy
      cases ek : keyD kd with
      | none => rw [ek] at q; exact q.elim
      | some key =>
        cases e2 : dAt i ρ2 with
        | none => rw [ek, e2] at q; exact q.elim
        | some kvs =>
          rw [ek, e2] at q
          dsimp only at q
          obtain ⟨a', ks, ha', h0, hH, hkv, own, put⟩ := dAt_put E2 e2
          rw [ha] at ha'
          cases ha'
          split at q
          · rename_i hl
            have hy : y = kV key := keyD_V (H := B) (Da.pk E2.ex dy) ek
            refine ⟨a, upd B a (.dK (putK ks key v)), rfl, ?_, q σ B0 _ (put (putK ks key v) _ B0 _ (gw_upd hH) (tb_upd E2.tb hH) ?_ upd_same (hkv.put (hd.mono m2.b0))).1 m2.b0⟩
            · rw [hy]
              exact DPut.k hH (by rw [hkv.length]; exact Nat.lt_of_lt_of_le hl (by decide))
            · intro b o hb
              rw [upd_ne (ne_of_none hb h0)]
              exact E2.ex b o hb
          · exact q.elim
    | ex x ρ1 => rw [e1] at q; exact q σ
    | bad => rw [e1] at q; exact q
end
end DW

set_option Elab.async false
set_option linter.all false
set_option maxRecDepth 100000
set_option maxHeartbeats 4000000
/-! DWC: a, b = x, y; dict comprehensions; methods of dicts and lists; sorted; ranges as lists -/
namespace DW
open PySem PySem.Spec PyProof.Rows L2

/-! ### a, b = x, y -/
def SlAll (K : PySem.W.Frag) (F : Fm) (B H0 H : Hp) : List V → List Sl → Prop
  | [], [] => True
  | v :: vs, s :: ss => SlR K F H0 H v s ∧ (∀ k, s ≠ .io k) ∧ (s.own = true → ∀ a, v = .ref a → B a = none ∧ ∀ w ∈ vs, w ≠ v ∨ ∀ (i : Nat) (t : Sl), vs[i]? = some w → ss[i]? = some t → t.own = false) ∧ SlAll K F B H0 H vs ss
  | _, _ => False
def notIo : Sl → Bool
  | .io _ => false
  | _ => true
def argsP : List (Rho → R Sl) → Rho → R (List Sl)
  | [], ρ => .ok [] ρ
  | f :: fs, ρ => (f ρ).bind fun s ρ1 => if notIo s = true then (argsP fs ρ1).bind fun ss ρ2 => .ok (s :: ss) ρ2 else .bad
def putP : List Nat → List Sl → Rho → Option Rho
  | [], [], ρ => some ρ
  | i :: is, s :: ss, ρ => match putR i s ρ with
    | some ρ1 => putP is ss ρ1
    | none => none
  | _, _, _ => none
def parP (is : List Nat) (fs : List (Rho → R Sl)) : Rho → SR := fun ρ => (argsP fs ρ).bindS fun ss ρ1 => nxO (putP is ss ρ1)
theorem SlR.mv {K : PySem.W.Frag} {F : Fm} {H0 H H0' H' : Hp} {σ : L2.St} {ρ ρ' : Rho} {v : V} {s : Sl} (h : SlR K F H0 H v s) (hn : s.own = true → ∀ a, v = .ref a → ¬ OwnAt σ ρ a) (hio : ∀ k, s ≠ .io k) (m : Mv σ ρ ρ' H0 H H0' H') : SlR K F H0' H' v s := by
  cases s with
  | fr d => exact Da.mono m.b0 h
  | ol ds =>
    obtain ⟨a, vs, rfl, h1, h2, h3, h4⟩ := h
    exact ⟨a, vs, rfl, m.off a (by rw [h3]; exact fun z => nomatch z) h1 (hn rfl a rfl), h2, m.kl a h3 (hn rfl a rfl), h4.mono m.b0⟩
  | od ds =>
    obtain ⟨a, vs, rfl, h1, h2, h3, h4⟩ := h
    exact ⟨a, vs, rfl, m.off a (by rw [h3]; exact fun z => nomatch z) h1 (hn rfl a rfl), h2, m.kd a h3 (hn rfl a rfl), h4.mono m.b0⟩
  | raw w _ => exact h
  | io k => exact absurd rfl (hio k)
theorem own_addr {K : PySem.W.Frag} {F : Fm} {H0 H : Hp} {v : V} {s : Sl} (h : SlR K F H0 H v s) (ho : s.own = true) : ∃ a, v = .ref a ∧ H a ≠ none := by
  cases s with
  | fr d => cases ho
  | ol ds => obtain ⟨a, vs, rfl, h1, h2, h3, h4⟩ := h; exact ⟨a, rfl, by rw [h3]; exact fun z => nomatch z⟩
  | od ds => obtain ⟨a, vs, rfl, h1, h2, h3, h4⟩ := h; exact ⟨a, rfl, by rw [h3]; exact fun z => nomatch z⟩
  | raw w _ => cases ho
  | io k => cases ho
def tP (g : Gx) (F : Fm) (W : WX) (fs : List (Rho → R Sl)) : TA := fun σ H Q => ∃ H0 ρ, En g.K F H0 H σ ρ ∧ match argsP fs ρ with
  | .ok ss ρ' => ∀ vs H0' H', En g.K F H0' H' σ ρ' → Mv σ ρ ρ' H0 H H0' H' → vs.length = ss.length → (∀ (i : Nat) v s, vs[i]? = some v → ss[i]? = some s → SlR g.K F H0' H' v s ∧ (∀ k, s ≠ .io k) ∧ (s.own = true → ∀ a, v = .ref a → H a = none)) →
      (∀ (i j : Nat) v s t, i ≠ j → vs[i]? = some v → vs[j]? = some v → ss[i]? = some s → ss[j]? = some t → s.own = true → t.own = true → False) → Q vs H'
  | .ex e ρ' => XW g F W σ e ρ'
  | .bad => False
section
variable {g : Gx} {F : Fm} {W : WX} {σ : L2.St} {H : Hp}
theorem tP_nil {Q : List V → Hp → Prop} (h : tP g F W [] σ H Q) : tNil σ H Q := by
  obtain ⟨H0, ρ, E, q⟩ := h
  exact q [] H0 H E Mv.refl rfl (fun i v s z => by simp at z) (fun i j v s t _ z => by simp at z)
theorem tP_cons {f : Rho → R Sl} {fs : List (Rho → R Sl)} {Q : List V → Hp → Prop} (h : tP g F W (f :: fs) σ H Q) : tCons (tO g F W f) (tP g F W fs) σ H Q := by
  obtain ⟨H0, ρ, E, q⟩ := h
  refine ⟨H0, ρ, E, ?_⟩
  unfold argsP at q
  cases e : f ρ with
  | ok s ρ1 =>
    rw [e] at q
    dsimp only [R.bind] at q
    intro v H0' H' E' m hs hfr
    by_cases hio : notIo s = true
    · rw [if_pos hio] at q
      have hio' : ∀ k, s ≠ .io k := fun k z => by rw [z] at hio; cases hio
      refine ⟨H0', ρ1, E', ?_⟩
      cases e2 : argsP fs ρ1 with
      | ok ss ρ2 =>
        rw [e2] at q
        intro vs C0 C E2 m2 hl hall hdis
        have hno : s.own = true → ∀ a, v = .ref a → ¬ OwnAt σ ρ1 a := fun ho a ea z => E.notOwn (hfr ho a ea) (m.sub a z)
        have hs2 := hs.mv hno hio' m2
        refine q (v :: vs) C0 C E2 (m.trans m2) (by rw [List.length_cons, List.length_cons, hl]) (fun i w t hw ht => ?_) (fun i j w t u hij hw hw' ht hu o1 o2 => ?_)
        · cases i with
          | zero =>
            simp at hw ht
            subst hw ht
            exact ⟨hs2, hio', hfr⟩
          | succ i =>
            obtain ⟨q1, q2, q3⟩ := hall i w t (by simpa using hw) (by simpa using ht)
            exact ⟨q1, q2, fun o a ea => m.fresh (q3 o a ea)⟩
        · have cross : ∀ (k : Nat) (w : V) (u : Sl), vs[k]? = some w → ss[k]? = some u → u.own = true → s.own = true → w = v → False := fun k w u hw hu o2 o1 ev => by
            obtain ⟨_, _, q3⟩ := hall k w u hw hu
            obtain ⟨a, ea, hne⟩ := own_addr hs o1
            exact hne (q3 o2 a (ev.trans ea))
          cases i with
          | zero =>
            cases j with
            | zero => exact hij rfl
            | succ j =>
              simp at hw ht
              subst hw ht
              exact cross j _ u (by simpa using hw') (by simpa using hu) o2 o1 rfl
          | succ i =>
            cases j with
            | zero =>
              simp at hw' hu
              subst hw' hu
              exact cross i _ t (by simpa using hw) (by simpa using ht) o1 o2 rfl
            | succ j => exact hdis i j w t u (fun z => hij (by rw [z])) (by simpa using hw) (by simpa using hw') (by simpa using ht) (by simpa using hu) o1 o2
      | ex x ρ1 => rw [e2] at q; exact q
      | bad => rw [e2] at q; exact q
    · rw [if_neg hio] at q
      exact q.elim
  | ex x ρ1 => rw [e] at q; exact q
  | bad => rw [e] at q; exact q
theorem put_all {K : PySem.W.Frag} : ∀ (is : List Nat) (vs : List V) (ss : List Sl) {σ : L2.St} {ρ ρ' : Rho} {H0 H : Hp}, En K F H0 H σ ρ → vs.length = ss.length → (∀ (i : Nat) v s, vs[i]? = some v → ss[i]? = some s → SlR K F H0 H v s ∧ (∀ k, s ≠ .io k) ∧ (s.own = true → ∀ a, v = .ref a → ¬ OwnAt σ ρ a)) →
    (∀ (i j : Nat) v s t, i ≠ j → vs[i]? = some v → vs[j]? = some v → ss[i]? = some s → ss[j]? = some t → s.own = true → t.own = true → False) → putP is ss ρ = some ρ' → En K F H0 H (setAll is vs σ) ρ'
  | [], vs, [], σ, ρ, ρ', H0, H, E, hl, hall, hd, h => by
    cases h
    cases vs with
    | nil => exact E
    | cons _ _ => cases hl
  | [], vs, s :: ss, σ, ρ, ρ', H0, H, E, hl, hall, hd, h => by cases h
  | i :: is, vs, [], σ, ρ, ρ', H0, H, E, hl, hall, hd, h => by cases h
  | i :: is, [], s :: ss, σ, ρ, ρ', H0, H, E, hl, hall, hd, h => by cases hl
  | i :: is, v :: vs, s :: ss, σ, ρ, ρ', H0, H, E, hl, hall, hd, h => by
    unfold putP at h
    cases e : putR i s ρ with
    | none => rw [e] at h; cases h
    | some ρ1 =>
      rw [e] at h
      obtain ⟨h1, h2, h3⟩ := hall 0 v s rfl rfl
      have E1 := E.put h1 h2 h3 e
      refine put_all is vs ss E1 (by simpa using hl) (fun k w t hw ht => ?_) (fun j k w t u hjk hw hw' ht hu o1 o2 => hd (j + 1) (k + 1) w t u (fun z => hjk (Nat.succ.inj z)) (by simpa using hw) (by simpa using hw') (by simpa using ht) (by simpa using hu) o1 o2) h
      obtain ⟨q1, q2, q3⟩ := hall (k + 1) w t (by simpa using hw) (by simpa using ht)
      refine ⟨q1, q2, fun o a ea own => ?_⟩
      unfold putR at e
      split at e
      · cases e
      · cases e
        obtain ⟨j, u, y1, y2, y3⟩ := own
        rcases set_get y1 with ⟨rfl, z⟩ | ⟨hne, z⟩
        · cases z
          rcases set_get y3 with ⟨_, z3⟩ | ⟨hne, _⟩
          · cases z3
            refine hd (k + 1) 0 (.ref a) t s (Nat.succ_ne_zero k) (by rw [← ea]; simpa using hw) rfl (by simpa using ht) rfl o ?_
            cases s with
            | fr _ => cases y2
            | ol _ => rfl
            | od _ => rfl
            | raw w _ => cases y2
            | io k => exact absurd rfl (h2 k)
          · exact hne rfl
        · rw [List.getElem?_set_ne (Ne.symm hne)] at y3
          exact q3 o a ea ⟨j, u, z, y2, y3⟩
theorem tPar_post {D : Ends} {fs : List (Rho → R Sl)} {is : List Nat} {Q : List V → Hp → Prop} (h : tS g F W (parP is fs) D σ H) (hQ : ∀ vs H', vs.length = is.length → D.nx (setAll is vs σ) H' → Q vs H') : tP g F W fs σ H Q := by
  obtain ⟨H0, ρ, E, q⟩ := h
  refine ⟨H0, ρ, E, ?_⟩
  unfold parP at q
  cases e : argsP fs ρ with
  | ok ss ρ1 =>
    rw [e] at q
    intro vs H0' H' E' m hl hall hd
    obtain ⟨ρ2, e2, k⟩ := nxO_post (PostS.mono m.b0 q)
    have hlen : ∀ (is : List Nat) (ss : List Sl) (ρ ρ' : Rho), putP is ss ρ = some ρ' → ss.length = is.length := by
      intro is
      induction is with
      | nil => intro ss ρ ρ' e; cases ss with | nil => rfl | cons _ _ => cases e
      | cons i is ih =>
        intro ss ρ ρ' e
        cases ss with
        | nil => cases e
        | cons s ss =>
          unfold putP at e
          cases e1 : putR i s ρ with
          | none => rw [e1] at e; cases e
          | some ρ1 => rw [e1] at e; rw [List.length_cons, List.length_cons, ih ss ρ1 ρ' e]
    refine hQ vs H' (by rw [hl]; exact hlen is ss ρ1 ρ2 e2) (k _ H' (put_all is vs ss E' hl (fun i v s hv hs => ?_) hd e2))
    obtain ⟨q1, q2, q3⟩ := hall i v s hv hs
    exact ⟨q1, q2, fun o a ea z => E.notOwn (q3 o a ea) (m.sub a z)⟩
  | ex x ρ1 => rw [e] at q; exact q σ
  | bad => rw [e] at q; exact q
end
section
variable {X : Cx} {W : WX} {a b c e : Expr} {es : List Expr} {pos p p2 p3 : Pos} {f1 f2 f3 : Rho → R Dt} {fa : Rho → R (List Dt)} {fo : Rho → R Sl} {fs : List (Rho → R Sl)}
def DPs (X : Cx) (W : WX) (es : List Expr) (fs : List (Rho → R Sl)) : Prop := ∀ F, PA X es (tP (gx X) F W fs)
theorem dps_nil : DPs X W [] [] := fun F => PA.wk pa_nil fun _ _ _ h => tP_nil h
theorem dps_cons (ha : DO X W a fo) (hr : DPs X W es fs) (he : starEach (a :: es) X.env = (false, eval a X.env) :: starEach es X.env := by rfl) : DPs X W (a :: es) (fo :: fs) := fun F => PA.wk (pa_cons (ha F) (hr F) he) fun _ _ _ h => tP_cons h
theorem ds_par2 {i j : Nat} {x y : Str} {px py pt : Pos} {kt k2 pt2} (hc : X.calm = true) (hN : X.N.Nodup) (hij : i ≠ j) (ha : DPs X W [a, b] fs) (hw : swappedStores [.Tuple [.Name x px, .Name y py] kt pt] (.Tuple [a, b] k2 pt2) X.env = pure (some [x, y]))
    (hi : X.N[i]? = some x := by rfl) (hj : X.N[j]? = some y := by rfl) (hx : X.env.scope.names.lookup x = some .local := by rfl) (hy : X.env.scope.names.lookup y = some .local := by rfl)
    (hs : swapsWithSole [.Tuple [.Name x px, .Name y py] kt pt] (.Tuple [a, b] k2 pt2) pos.line X.env = pure false := by rfl) :
    DS X W (.Assign [.Tuple [.Name x px, .Name y py] kt pt] (.Tuple [a, b] k2 pt2) pos) (parP [i, j] fs) := fun F => PS.wk (ps_par hc hN hi hj hij hx hy (ha F) hw hs) fun D σ H h => tPar_post h fun vs H' hl k => by
  match vs, hl with
  | [v, w], _ => exact ⟨v, w, rfl, k⟩
theorem ds_par3 {i j l : Nat} {x y z : Str} {px py pz pt : Pos} {kt k2 pt2} (hc : X.calm = true) (hN : X.N.Nodup) (hij : i ≠ j) (hil : i ≠ l) (hjl : j ≠ l) (ha : DPs X W [a, b, c] fs)
    (hw : swappedStores [.Tuple [.Name x px, .Name y py, .Name z pz] kt pt] (.Tuple [a, b, c] k2 pt2) X.env = pure (some [x, y, z]))
    (hi : X.N[i]? = some x := by rfl) (hj : X.N[j]? = some y := by rfl) (hl : X.N[l]? = some z := by rfl) (hx : X.env.scope.names.lookup x = some .local := by rfl) (hy : X.env.scope.names.lookup y = some .local := by rfl) (hz : X.env.scope.names.lookup z = some .local := by rfl)
    (hs : swapsWithSole [.Tuple [.Name x px, .Name y py, .Name z pz] kt pt] (.Tuple [a, b, c] k2 pt2) pos.line X.env = pure false := by rfl) :
    DS X W (.Assign [.Tuple [.Name x px, .Name y py, .Name z pz] kt pt] (.Tuple [a, b, c] k2 pt2) pos) (parP [i, j, l] fs) := fun F => PS.wk (ps_par3 hc hN hi hj hl hij hil hjl hx hy hz (ha F) hw hs) fun D σ H h => tPar_post h fun vs H' hl k => by
  match vs, hl with
  | [v, w, u], _ => exact ⟨v, w, u, rfl, k⟩
end
end DW

set_option Elab.async false
set_option linter.all false
set_option maxRecDepth 100000
set_option maxHeartbeats 4000000
/-! DWD: dict comprehensions; methods of dicts and lists; sorted; ranges as lists -/
namespace DW
open PySem PySem.Spec PyProof.Rows L2
theorem dc_it {J : It} {n : Nat} {G : Hp → Prop} {Y : Nat → Hp → V → Hp → Prop} (w : Walk J n G Y) {g : TG} {tt : TT} {tk tv : TE} {vs : List Nat} {σ : L2.St} {H1 : Hp} {D : Addr} {Qd : Hp → Prop} (Pv : Nat → Hp → Prop) (h0 : Pv 0 (upd H1 D (.dK []))) (hG : ∀ i H, i ≤ n → Pv i H → G H)
    (hs : ∀ i x H H', i < n → Pv i H → Y i H x H' → g x (wipe σ vs) H' fun σ2 H2 => wipe σ2 vs = wipe σ vs ∧ tt σ2 H2 fun b H3 =>
      if b = true then tk σ2 H3 fun y H4 => tv σ2 H4 fun z H5 => ∃ kvs k, y = kV k ∧ H5 D = some (.dK kvs) ∧ kvs.length < sizeLine ∧ Pv (i + 1) (upd H5 D (.dK (putK kvs k z))) else Pv (i + 1) H3) (hd : ∀ H, Pv n H → Qd H) :
    ∃ W : Nat → Nat → Hp → Prop, (∃ m, W 0 m (upd H1 D (.dK []))) ∧ ∀ i m H, W i m H →
      (J.stop i H ∧ Qd H) ∨ (J.go i H ∧ ∃ Nx : Hp → Prop, (∀ H', Nx H' → ∃ m', m' < m ∧ W (i + 1) m' H') ∧ ∀ x H', J.yld i H x H' → g x (wipe σ vs) H' fun σ2 H2 => wipe σ2 vs = wipe σ vs ∧ tt σ2 H2 fun b H3 =>
        if b = true then tk σ2 H3 fun y H4 => tv σ2 H4 fun z H5 => ∃ kvs k, y = kV k ∧ H5 D = some (.dK kvs) ∧ kvs.length < sizeLine ∧ Nx (upd H5 D (.dK (putK kvs k z))) else Nx H3) := by
  refine ⟨fun i m H => m = n - i ∧ i ≤ n ∧ Pv i H, ⟨n, by simp, Nat.zero_le _, h0⟩, ?_⟩
  rintro i m H ⟨rfl, hi, p⟩
  have q := hG i H hi p
  by_cases hlt : i < n
  · exact .inr ⟨w.goes i H hlt q, Pv (i + 1), fun H' p' => ⟨n - (i + 1), by omega, rfl, hlt, p'⟩, fun x H' y => hs i x H H' hlt p (w.yields i H x H' hlt q y)⟩
  · have e : i = n := by omega
    subst e
    exact .inl ⟨w.stops H q, hd H p⟩
section
variable {K : PySem.W.Frag} {F : Fm} {H0 H H0' H' : Hp} {σ : L2.St} {ρ : Rho} {v : V} {d : Dt} {s : Sl} {i : Nat} {a p : Addr} {o : HO} {g : Gx} {W : WX}
/-- {k: v for t in it if c} -/
theorem tDc_of {it : Rho → R (List Dt)} {t : Dt → Rho → Option Rho} {c : Rho → R Bool} {ek ev : Rho → R Dt} {vs is : List Nat} (his : ∀ i ∈ is, i ∈ vs) {σ : L2.St} {H : Hp} {Q : VK} (h : tO g F W (dcO it t c ek ev vs) σ H Q) :
    tDc (tI g F W it) (tG g F is t) (tDT g F WF c) (tD g F WF ek) (tD g F WF ev) vs σ H Q := by
  obtain ⟨H0, ρ, E, q⟩ := h
  refine ⟨H0, ρ, E, ?_⟩
  unfold dcO at q
  cases e : it ρ with
  | ex x ρ1 =>
    rw [e] at q
    exact q
  | bad =>
    rw [e] at q
    exact q
  | ok xs ρ1 =>
    rw [e] at q
    dsimp only [R.bind] at q
    intro J B0 B E1 m1 hJ D hD
    by_cases hc : okW vs ρ1 = true ∧ xs.length ≤ 1000000
    · rw [if_pos hc] at q
      cases er : dcL t c ek ev vs xs (wipeR ρ1 vs) [] with
      | ex _ _ => rw [er] at q; exact q.elim
      | bad => rw [er] at q; exact q.elim
      | ok full ρe =>
        rw [er] at q
        dsimp only at q
        obtain ⟨G, Y, wk, hG, hY⟩ := hJ
        have hFD : F.H D = none := E1.upF hD
        have nD : ¬ OwnAt σ ρ1 D := E1.notOwn hD
        have Ew := E1.wipe vs hc.1
        have nDw : ¬ OwnAt (wipe σ vs) (wipeR ρ1 vs) D := fun z => nD (own_wipe (own_wipeR z))
        refine dc_it wk (fun i H => ∃ C0 ρc acc done, En g.K F C0 H (wipe σ vs) ρc ∧ Mw σ ρ1 (wipe σ vs) ρc B0 B C0 H ∧ H D = some (.dK acc) ∧ C0 D = none ∧ DaKv g.K C0 acc done ∧ done.length ≤ i ∧
          dcL t c ek ev vs (xs.drop i) ρc done = .ok full ρe) ?_ (fun i H _ ⟨C0, ρc, acc, done, Ec, mc, _⟩ => hG H (mc.b0.trans Ec.ex)) ?_ ?_
        · refine ⟨B0, wipeR ρ1 vs, [], [], Ew.beside (E1.up0 hD) hFD nDw (.inr (.inr hD)), ⟨Same.refl _, fun a o h _ _ => ?_, fun _ _ h _ => h, fun a o => own_wipe (own_wipeR o), fun a h => ?_⟩, upd_same, E1.up0 hD, .nil, Nat.le_refl _, by rw [List.drop_zero]; exact er⟩
          · rw [upd_ne (ne_of_none h hD)]
            exact h
          · have : a ≠ D := fun z => h (z ▸ hD)
            rw [upd_ne this]
            exact h
        · rintro i x H H' hi ⟨C0, ρc, acc, done, Ec, mc, hacc, hC, hdd, hlen, hrun⟩ y
          obtain ⟨d, hd, hx⟩ := hY i H x H' hi (mc.b0.trans Ec.ex) y
          have nc : ¬ OwnAt (wipe σ vs) ρc D := fun z => nD (mc.sub D z)
          obtain ⟨D0, Ed, md, dd⟩ := item_at Ec mc.b0 hx
          have hacc' : H' D = some (.dK acc) := md.kd D hacc nc
          have hC' : D0 D = none := md.off D (by rw [hacc]; exact fun z => nomatch z) hC nc
          have hdrop : xs.drop i = d :: xs.drop (i + 1) := by
            obtain ⟨hlt, hget⟩ := List.getElem?_eq_some_iff.mp hd
            rw [List.drop_eq_getElem_cons hlt, hget]
          rw [hdrop] at hrun
          unfold dcL at hrun
          cases et : t d ρc with
          | none => rw [et] at hrun; cases hrun
          | some ρ2 =>
            rw [et] at hrun
            dsimp only at hrun
            obtain ⟨b, ρ3, hb, hrun⟩ := bind_ok hrun
            refine ⟨D0, ρc, d, Ed, dd, ρ2, et, fun us E2 ow => ?_⟩
            have hw2 : wipe (setAll is us (wipe σ vs)) vs = wipe σ vs := by rw [wipe_setAll vs is us _ his, wipe_idem vs vs σ fun _ z => z]
            have n2 : ¬ OwnAt (setAll is us (wipe σ vs)) ρ2 D := fun z => nc (ow D z)
            have m2 : Mw (wipe σ vs) ρc (setAll is us (wipe σ vs)) ρ2 D0 H' D0 H' := ⟨Same.refl _, fun _ _ h _ _ => h, fun _ _ h _ => h, fun a o => ow a o, fun _ h => h⟩
            refine ⟨hw2, D0, ρ2, E2, ?_⟩
            rw [hb]
            intro I0 I E3 m3
            have n3 : ¬ OwnAt (setAll is us (wipe σ vs)) ρ3 D := fun z => n2 (m3.sub D z)
            have acc3 : I D = some (.dK acc) := m3.kd D hacc' n2
            have C3 : I0 D = none := m3.off D (by rw [hacc']; exact fun z => nomatch z) hC' n2
            have M3 := (mc.trans md).trans (m2.trans m3)
            have down : ∀ {J0 J : Hp} {ρ4 : Rho}, En g.K F J0 J (setAll is us (wipe σ vs)) ρ4 → Mw σ ρ1 (setAll is us (wipe σ vs)) ρ4 B0 B J0 J → En g.K F J0 J (wipe σ vs) (wipeR ρ4 vs) ∧ Mw σ ρ1 (wipe σ vs) (wipeR ρ4 vs) B0 B J0 J := fun {J0 J ρ4} E4 M4 => by
              have ok4 : okW vs ρ4 = true := by
                have h1 := hc.1
                unfold okW at h1 ⊢
                rw [Bool.or_eq_true] at h1 ⊢
                rcases h1 with h1 | h1
                · left
                  refine noIo_iff.mpr fun kvs ek => ?_
                  obtain ⟨w, y1, a, ks, rfl, z2, z3, z4, z5⟩ := E4.sl 0 _ ek
                  obtain ⟨_, ⟨kv, y2⟩, _⟩ := E1.io a z3
                  exact noIo_iff.mp h1 kv y2
                · exact .inr h1
              have E5 := E4.wipe vs ok4
              rw [hw2] at E5
              refine ⟨E5, M4.b0, M4.keep, M4.off, fun a o => M4.sub a ?_, M4.st⟩
              have o2 := own_wipeR o
              obtain ⟨i, s, y1, y2, y3⟩ := o2
              rw [← hw2] at y3
              exact ⟨i, s, y1, y2, wipe_get vs y3⟩
            cases b with
            | true =>
              rw [if_pos rfl] at hrun ⊢
              obtain ⟨kd, ρ4, hek, hrun⟩ := bind_ok hrun
              obtain ⟨d2, ρ5, hev, hrun⟩ := bind_ok hrun
              cases eky : keyD kd with
              | none => rw [eky] at hrun; cases hrun
              | some key =>
                rw [eky] at hrun
                dsimp only at hrun
                refine ⟨I0, ρ3, E3, ?_⟩
                rw [hek]
                intro yv J0 J' E4 m4 dy
                have n4 : ¬ OwnAt (setAll is us (wipe σ vs)) ρ4 D := fun z => n3 (m4.sub D z)
                have acc4 : J' D = some (.dK acc) := m4.kd D acc3 n3
                have C4 : J0 D = none := m4.off D (by rw [acc3]; exact fun z => nomatch z) C3 n3
                refine ⟨J0, ρ4, E4, ?_⟩
                rw [hev]
                intro zv L0 L E5 m5 dz
                have n5 : ¬ OwnAt (setAll is us (wipe σ vs)) ρ5 D := fun z => n4 (m5.sub D z)
                have acc5 : L D = some (.dK acc) := m5.kd D acc4 n4
                have C5 : L0 D = none := m5.off D (by rw [acc4]; exact fun z => nomatch z) C4 n4
                have hy : yv = kV key := keyD_V (H := J') (Da.pk E4.ex dy) eky
                obtain ⟨E6, M6⟩ := down E5 ((M3.trans m4).trans m5)
                have n6 : ¬ OwnAt (wipe σ vs) (wipeR ρ5 vs) D := fun z => nD (M6.sub D z)
                have hal : acc.length = done.length := hdd.length
                have hdd5 := ((((hdd.mono md.b0).mono m3.b0).mono m4.b0).mono m5.b0)
                refine ⟨acc, key, hy, acc5, Nat.lt_of_le_of_lt (by rw [hal]; exact Nat.le_trans hlen (Nat.le_trans (Nat.le_of_lt hi) hc.2)) (by decide), L0, wipeR ρ5 vs, putK acc key zv, putKD done key d2, E6.beside C5 hFD n6 (.inr (.inl ⟨_, acc5⟩)), ⟨M6.b0, fun a o h nt ho => ?_, M6.off, M6.sub, fun a h => ?_⟩, upd_same, C5,
                  hdd5.put dz, ?_, hrun⟩
                · rw [upd_ne (ne_of_none h hD)]
                  exact M6.keep a o h nt ho
                · have : a ≠ D := fun z => h (z ▸ hD)
                  rw [upd_ne this]
                  exact M6.st a h
                · have h1 := length_putK acc key zv
                  have h2 := (hdd5.put (k := key) dz).length
                  omega
            | false =>
              rw [if_neg Bool.false_ne_true] at hrun ⊢
              obtain ⟨E5, M5⟩ := down E3 M3
              exact ⟨I0, wipeR ρ3 vs, acc, done, E5, M5, acc3, C3, (hdd.mono md.b0).mono m3.b0, Nat.le_succ_of_le hlen, hrun⟩
        · rintro H ⟨C0, ρc, acc, done, Ec, mc, hacc, hC, hdd, hlen, hrun⟩
          rw [List.drop_length] at hrun
          cases hrun
          have E6 : En g.K F C0 H σ ρe := Ec.unwipe (by rw [E1.len, ← E1.len, ← wipe_length σ vs, Ec.len])
          refine q _ C0 H E6 (m1.trans ⟨mc.b0, mc.keep, mc.off, fun a o => ?_, mc.st⟩) ⟨D, acc, rfl, hC, hFD, hacc, hdd⟩ fun _ b z => by cases z; exact m1.fresh hD
          obtain ⟨i, s, y1, y2, y3⟩ := o
          obtain ⟨w, z1, _⟩ := Ec.sl i s y1
          have z2 := wipe_get vs z1
          rw [y3] at z2
          cases z2
          exact mc.sub a ⟨i, s, y1, y2, z1⟩
    · rw [if_neg hc] at q
      exact q.elim
end
section
variable {X : Cx} {W : WX} {a b c e : Expr} {es : List Expr} {pos p p2 p3 : Pos} {f1 f2 f3 : Rho → R Dt} {fa : Rho → R (List Dt)} {fo : Rho → R Sl}
theorem do_dc {kx vx tg iter : Expr} {ifs : List Expr} {scope : Scope} {own : List (Str × Nat)} {it : Rho → R (List Dt)} {t : Dt → Rho → Option Rho} {ct : Rho → R Bool} {ek ev : Rho → R Dt} {is : List Nat} (hc : X.calm = true) (hN : X.N.Nodup) (hi : DI X W tg iter it) (ok : BlkOk X.N X.env.scope scope own)
    (hg : ∀ s H C cl fp, DG (blkX X scope s H C cl fp) tg is t) (ht : ∀ s H C cl fp, DTs (blkX X scope s H C cl fp) WF ifs ct) (hk : ∀ s H C cl fp, DE (blkX X scope s H C cl fp) WF kx ek) (he : ∀ s H C cl fp, DE (blkX X scope s H C cl fp) WF vx ev) (his : ∀ i ∈ is, i ∈ own.map (·.2))
    (hs : ∀ x, foldedSetIterable iter X.env x = pure x := by intro _; rfl) : DO X W (.DictComp kx vx [⟨tg, iter, ifs, 0⟩] scope pos) (dcO it t ct ek ev (own.map (·.2))) :=
  fun F => PE.wk (pe_dc hc hN (hi F) ok (fun s H C cl fp => hg s H C cl fp F) (fun s H C cl fp => ht s H C cl fp F) (fun s H C cl fp => hk s H C cl fp F) (fun s H C cl fp => he s H C cl fp F) hs) fun _ _ _ q => tDc_of his q
/-! ### list(range(..)), tuple(range(..)) -/
def rgList (gd : List Dt → Option (List Dt)) (f : Rho → R (List Dt)) : Rho → R Dt := fun ρ => (f ρ).bind fun ds ρ1 => match gd ds with
  | some xs => if xs.length ≤ 1000000 then .ok (.lst xs) ρ1 else .bad
  | none => .bad
def rgTup (gd : List Dt → Option (List Dt)) (f : Rho → R (List Dt)) : Rho → R Dt := fun ρ => (f ρ).bind fun ds ρ1 => match gd ds with
  | some xs => if xs.length ≤ 1000000 then .ok (.tup xs) ρ1 else .bad
  | none => .bad
theorem rgV_da {K : PySem.W.Frag} {H : Hp} (a b : Int) : DaAll K H (rgV a b) ((List.range (b - a).toNat).map fun i => .int (a + (i : Nat))) := by
  have := daInts (K := K) (H := H) ((List.range (b - a).toNat).map fun i => a + ((i : Nat) : Int))
  rw [List.map_map, List.map_map] at this
  exact this
theorem rgOk2 {a b : Int} (h : -(2 ^ 62) ≤ a ∧ a < 2 ^ 62 ∧ -(2 ^ 62) ≤ b ∧ b < 2 ^ 62) (hl : ((List.range (b - a).toNat).map fun i => Dt.int (a + (i : Nat))).length ≤ 1000000) : RgOk a b := by
  rw [List.length_map, List.length_range] at hl
  exact ⟨h.1, h.2.1, h.2.2.1, h.2.2.2, by omega⟩
theorem de_listRg2 {pr : Pos} (hc : X.calm = true) (hg : Gl X "list") (hm : X.mg "list" = none) (hgr : Gl X "range") (hmr : X.mg "range" = none) (ha : DE X W a f1) (hb : DE X W b f2)
    (na : starEach [.Call (.Name "range" p2) [a, b] [] p3] X.env = (false, eval (.Call (.Name "range" p2) [a, b] [] p3) X.env) :: starEach [] X.env := by rfl) (nb : starEach [a, b] X.env = (false, eval a X.env) :: starEach [b] X.env := by rfl) (nc : starEach [b] X.env = (false, eval b X.env) :: starEach [] X.env := by rfl) (nd : (backTo p3 (starEach [b] X.env)).any (·.1) = false := by rfl) :
    DE X W (.Call (.Name "list" p) [.Call (.Name "range" p2) [a, b] [] p3] [] pos) (rgList rngD2 (consA f1 (consA f2 nilA))) := fun F => PE.wk (pe_listRg hc hg hm (prg_2 hgr hmr (ha F) (hb F) nb nc nd) na) fun σ H Q ⟨H0, ρ, E, q⟩ => by
  refine ⟨H0, ρ, E, ?_⟩
  unfold rgList consA at q
  cases e1 : f1 ρ with
  | ok x ρ1 =>
    rw [e1] at q
    dsimp only [R.bind] at q
    intro v B0 B E1 m1 d1
    refine ⟨B0, ρ1, E1, ?_⟩
    cases e2 : f2 ρ1 with
    | ok y ρ2 =>
      rw [e2] at q
      dsimp only [R.bind, nilA] at q
      intro w C0 C E2 m2 d2
      cases e3 : rngD2 [x, y] with
      | none => rw [e3] at q; exact q.elim
      | some xs =>
        rw [e3] at q
        dsimp only at q
        by_cases hl : xs.length ≤ 1000000
        · rw [if_pos hl] at q
          unfold rngD2 at e3
          split at e3
          · rename_i ds i j hd
            cases hd
            split at e3
            · rename_i hb
              cases e3
              cases d1
              cases d2
              refine ⟨i, j, rfl, rfl, rgOk2 hb hl, al_lst (K := X.K) E2.ex (rgV_da i j) fun v D0 D gr s3 hv => ?_⟩
              obtain ⟨E3, m3⟩ := E2.post (m1.trans m2) gr s3
              exact q v D0 D E3 m3 hv
            · cases e3
          · cases e3
        · rw [if_neg hl] at q
          exact q.elim
    | ex x ρ1 => rw [e2] at q; exact q
    | bad => rw [e2] at q; exact q
  | ex x ρ1 => rw [e1] at q; exact q
  | bad => rw [e1] at q; exact q
theorem de_tupRg2 {pr : Pos} (hc : X.calm = true) (hg : Gl X "tuple") (hm : X.mg "tuple" = none) (hgr : Gl X "range") (hmr : X.mg "range" = none) (ha : DE X W a f1) (hb : DE X W b f2)
    (na : starEach [.Call (.Name "range" p2) [a, b] [] p3] X.env = (false, eval (.Call (.Name "range" p2) [a, b] [] p3) X.env) :: starEach [] X.env := by rfl) (nb : starEach [a, b] X.env = (false, eval a X.env) :: starEach [b] X.env := by rfl) (nc : starEach [b] X.env = (false, eval b X.env) :: starEach [] X.env := by rfl) (nd : (backTo p3 (starEach [b] X.env)).any (·.1) = false := by rfl) :
    DE X W (.Call (.Name "tuple" p) [.Call (.Name "range" p2) [a, b] [] p3] [] pos) (rgTup rngD2 (consA f1 (consA f2 nilA))) := fun F => PE.wk (pe_tupRg hc hg hm (prg_2 hgr hmr (ha F) (hb F) nb nc nd) na) fun σ H Q ⟨H0, ρ, E, q⟩ => by
  refine ⟨H0, ρ, E, ?_⟩
  unfold rgTup consA at q
  cases e1 : f1 ρ with
  | ok x ρ1 =>
    rw [e1] at q
    dsimp only [R.bind] at q
    intro v B0 B E1 m1 d1
    refine ⟨B0, ρ1, E1, ?_⟩
    cases e2 : f2 ρ1 with
    | ok y ρ2 =>
      rw [e2] at q
      dsimp only [R.bind, nilA] at q
      intro w C0 C E2 m2 d2
      cases e3 : rngD2 [x, y] with
      | none => rw [e3] at q; exact q.elim
      | some xs =>
        rw [e3] at q
        dsimp only at q
        by_cases hl : xs.length ≤ 1000000
        · rw [if_pos hl] at q
          unfold rngD2 at e3
          split at e3
          · rename_i ds i j hd
            cases hd
            split at e3
            · rename_i hb
              cases e3
              cases d1
              cases d2
              refine ⟨i, j, rfl, rfl, rgOk2 hb hl, al_tup (K := X.K) E2.ex (rgV_da i j) fun v D0 D gr s3 hv => ?_⟩
              obtain ⟨E3, m3⟩ := E2.post (m1.trans m2) gr s3
              exact q v D0 D E3 m3 hv
            · cases e3
          · cases e3
        · rw [if_neg hl] at q
          exact q.elim
    | ex x ρ1 => rw [e2] at q; exact q
    | bad => rw [e2] at q; exact q
  | ex x ρ1 => rw [e1] at q; exact q
  | bad => rw [e1] at q; exact q
/-! ### sorted -/
def insI (n : Int) : List Int → List Int
  | [] => [n]
  | m :: ms => if n ≤ m then n :: m :: ms else m :: insI n ms
def sortI : List Int → List Int
  | [] => []
  | n :: ns => insI n (sortI ns)
theorem insI_perm (n : Int) : ∀ ms : List Int, (insI n ms).Perm (n :: ms)
  | [] => .refl _
  | m :: ms => by
    unfold insI
    split
    · exact .refl _
    · exact ((insI_perm n ms).cons m).trans (.swap n m ms)
theorem insI_sorted (n : Int) : ∀ {ms : List Int}, ms.Pairwise (· ≤ ·) → (insI n ms).Pairwise (· ≤ ·)
  | [], _ => List.pairwise_singleton _ _
  | m :: ms, h => by
    unfold insI
    obtain ⟨h1, h2⟩ := List.pairwise_cons.mp h
    split
    · rename_i hn
      exact List.pairwise_cons.mpr ⟨fun x hx => by
        rcases List.mem_cons.mp hx with rfl | hx
        · exact hn
        · exact Int.le_trans hn (h1 x hx), h⟩
    · rename_i hn
      refine List.pairwise_cons.mpr ⟨fun x hx => ?_, insI_sorted n h2⟩
      rcases List.mem_cons.mp ((insI_perm n ms).mem_iff.mp hx) with rfl | hx
      · omega
      · exact h1 x hx
theorem sortI_perm : ∀ ns : List Int, (sortI ns).Perm ns
  | [] => .refl _
  | n :: ns => (insI_perm n _).trans ((sortI_perm ns).cons n)
theorem sortI_sorted : ∀ ns : List Int, (sortI ns).Pairwise (· ≤ ·)
  | [] => .nil
  | n :: ns => insI_sorted n (sortI_sorted ns)
theorem sortI_one {ns ms : List Int} (h1 : ms.Perm ns) (h2 : ms.Pairwise (· ≤ ·)) : ms = sortI ns := PySem.W.ksm_same (h1.trans (sortI_perm ns).symm) h2 (sortI_sorted ns)
def keysI : List (Key × Dt) → Option (List Int)
  | [] => some []
  | (.inl i, _) :: r => (keysI r).map (i :: ·)
  | _ => none
theorem keysI_eq : ∀ {kvs : List (Key × Dt)} {ns : List Int}, keysI kvs = some ns → kvs.map (·.1) = ns.map Sum.inl
  | [], _, h => by cases h; rfl
  | (.inl i, _) :: r, ns, h => by
    obtain ⟨ms, h1, rfl⟩ := Option.map_eq_some_iff.mp h
    rw [List.map_cons, keysI_eq h1]
    rfl
  | (.inr _, _) :: r, ns, h => by cases h
theorem DaKv.keys {K : PySem.W.Frag} {H : Hp} : ∀ {ks : List (Key × V)} {kvs : List (Key × Dt)}, DaKv K H ks kvs → ks.map (·.1) = kvs.map (·.1)
  | _, _, .nil => rfl
  | _, _, .cons _ h => by rw [List.map_cons, List.map_cons, h.keys]
def sortD : Dt → Option Dt
  | .lst ds => (intsOf ds).map fun ns => .lst ((sortI ns).map .int)
  | .dct kvs => (keysI kvs).bind fun ns => if ns.length < 64 then some (.lst ((sortI ns).map .int)) else none
  | _ => none
theorem callr_sorted (hc : X.calm = true) : CallR X (.builtin "sorted") (fun xs H Q => rSortedI X.K xs H Q ∨ ∃ (a : Addr) (kvs : List (Key × V)) (ks : List Int), xs = [.ref a] ∧ Rd H a (.dK kvs) ∧ kvs.map (·.1) = ks.map Sum.inl ∧ ks.length < 64 ∧
    ∀ (ys : List Int) (p : Addr), ys.Perm ks → ys.Pairwise (· ≤ ·) → H p = none → Q (.ref p) (upd H p (.lst (ys.map V.int)))) := callr_or cr_sortedI (call_sortedDI hc)
theorem und_sort (K : PySem.W.Frag) : UnD K (fun x H Q => rSortedI K [x] H Q ∨ ∃ (a : Addr) (kvs : List (Key × V)) (ks : List Int), [x] = [V.ref a] ∧ Rd H a (.dK kvs) ∧ kvs.map (·.1) = ks.map Sum.inl ∧ ks.length < 64 ∧
    ∀ (ys : List Int) (p : Addr), ys.Perm ks → ys.Pairwise (· ≤ ·) → H p = none → Q (.ref p) (upd H p (.lst (ys.map V.int)))) sortD := by
  intro x d z H0 H s hx hg Q k
  unfold sortD at hg
  split at hg
  · obtain ⟨ns, h, rfl⟩ := Option.map_eq_some_iff.mp hg
    obtain ⟨a, vs, rfl, h1, h2⟩ := hx
    rw [intsOf_eq h] at h2
    rw [h2.ints] at h1
    refine .inl ⟨a, ns, rfl, SqL.of h1, fun ns' p q1 q2 => ?_⟩
    rw [sortI_one q1 q2]
    exact al_lst s (daInts _) k p
  · obtain ⟨ns, h, hg⟩ := Option.bind_eq_some_iff.mp hg
    split at hg
    · rename_i hl
      cases hg
      obtain ⟨a, ks, rfl, h1, h2⟩ := hx
      refine .inr ⟨a, ks, ns, rfl, .inl h1, h2.keys.trans (keysI_eq h), hl, fun ns' p q1 q2 => ?_⟩
      rw [sortI_one q1 q2]
      exact al_lst s (daInts _) k p
    · cases hg
  · cases hg
theorem de_sorted (hc : X.calm = true) (hg : Gl X "sorted") (hm : X.mg "sorted" = none) (ha : DK X W e f1) (he : starEach (e :: []) X.env = (false, eval e X.env) :: starEach [] X.env := by rfl) : DE X W (.Call (.Name "sorted" p) [e] [] pos) (un sortD f1) :=
  de_b1 (callr_sorted hc) (und_sort _) hg hm (by decide +kernel) ha (he := he)
/-! ### d.update(e) -/
def mergeD (kvs more : List (Key × Dt)) : List (Key × Dt) := more.foldl (fun acc kv => putKD acc kv.1 kv.2) kvs
theorem DaKv.merge {K : PySem.W.Frag} {H : Hp} : ∀ {ms : List (Key × V)} {more : List (Key × Dt)}, DaKv K H ms more → ∀ {ks : List (Key × V)} {kvs : List (Key × Dt)}, DaKv K H ks kvs → DaKv K H (mergeK ks ms) (mergeD kvs more)
  | _, _, .nil, _, _, h => h
  | _, _, .cons h1 h2, _, _, h => h2.merge (h.put h1)
def updS (i : Nat) (f : Rho → R Dt) : Rho → SR := fun ρ => match dAt i ρ with
  | none => .bad
  | some _ => (f ρ).bindS fun d ρ1 => match d, dAt i ρ1 with
    | .dct more, some kvs => if kvs.length + more.length ≤ 1000000 then .nx (dPut i (mergeD kvs more) ρ1) else .bad
    | _, _ => .bad
def rUpd : V → List V → Hp → VK → Prop := fun x xs H Q => ∃ d o kvs more, x = .ref d ∧ xs = [.ref o] ∧ d ≠ o ∧ H d = some (.dK kvs) ∧ H o = some (.dK more) ∧ kvs.length + more.length ≤ sizeLine ∧ Q .non (upd H d (.dK (mergeK kvs more)))
theorem mt_upd : MtR X "dict.update" rUpd := by
  intro pins s σ H x xs v us Q I rx rs h
  obtain ⟨d, o, kvs, more, rfl, rfl, hne, hd, ho, hz, q⟩ := h
  cases rx
  cases rs with
  | cons r1 r2 =>
    cases r2
    cases r1
    obtain ⟨z1, lo1, vs1, rel1, dd1⟩ := L2.dk_of I.hok hd
    obtain ⟨z2, lo2, vs2, rel2, dd2⟩ := L2.dk_of I.hok ho
    refine call_meetsIn PySem.F.slot_dict_update dd1.typeIs PySem.F.entry_dict_update (PySem.F.args_dict_update_2 _ _) (meets_dict_update (mixKind X.prog X.w) d o hne lo2)
      ⟨vs1, vs2, dd1, dd2, (by rw [← rel1.length, ← rel2.length]; exact hz), fun h' hmm _ hs => ?_⟩
    have hl : (mergeK kvs more).length ≤ sizeLine := Nat.le_trans (length_mergeK more kvs) hz
    refine ⟨.non, _, d_write (t' := s.toks) (ob := .dK (mergeK kvs more)) I (by rw [hd]; trivial) hs ?_ (dk_new hl lo1 (KV.merge rel2 rel1) hmm), rfl, q⟩
    obtain ⟨ob, _, _, e, _⟩ := hmm
    exact ⟨ob, e⟩
theorem ds_upd (i : Nat) {x : Str} {apos cpos spos : Pos} (hx : PE X (.Name x p) (tVar i)) (he : DE X W e f1) (hbase : attributeBase (.Name x p) "update" X.env (eval (.Name x p) X.env) = eval (.Name x p) X.env := by rfl)
    (hfew : ((backTo cpos (starEach (e :: []) X.env)).all (fun x => !x.1) && (backToKw cpos (keywordEach [] X.env)).all (fun x => x.1.isSome)
      && decide ((e :: ([] : List Expr)).length + ([] : List Keyword).length + (if ([] : List Keyword).isEmpty then 0 else 1) < 30)) = true := by rfl)
    (hline : (apos.endLine == cpos.line) = true := by rfl) (hs : starEach (e :: []) X.env = (false, eval e X.env) :: starEach [] X.env := by rfl) (hplain : (backTo cpos (starEach [] X.env)).any (·.1) = false := by rfl)
    (hsw : swapsWith (.Call (.Attribute (.Name x p) "update" apos) [e] [] cpos) none spos.line X.env = pure false := by rfl) :
    DS X W (.Expr (.Call (.Attribute (.Name x p) "update" apos) [e] [] cpos) spos) (updS i f1) :=
  fun F => PS.wk (ps_expr (pe_bm PySem.F.plainAttrs_dict PySem.F.slot_dict_update PySem.F.type_dict_update mt_upd hx (pa_cons (he F) pa_nil hs) hbase hfew hline hs hplain) hsw) fun D σ H ⟨H0, ρ, E, q⟩ => by
    unfold updS at q
    cases e0 : dAt i ρ with
    | none => rw [e0] at q; exact q.elim
    | some kvs0 =>
      rw [e0] at q
      dsimp only at q
      obtain ⟨a, ks0, ha, _, hH0, _⟩ := dAt_put E e0
      refine ⟨.ref a, ha, .inr (.inr (.inl ⟨rfl, .inl ⟨_, hH0⟩⟩)), H0, ρ, E, ?_⟩
      cases e1 : f1 ρ with
      | ok d ρ1 =>
        rw [e1] at q
        dsimp only [R.bindS] at q
        intro v B0 B E2 m2 dv
        cases d with
        | dct more =>
          cases e2 : dAt i ρ1 with
          | none => rw [e2] at q; exact q.elim
          | some kvs =>
            rw [e2] at q
            dsimp only at q
            obtain ⟨a', ks, ha', h0, hH, hkv, own, put⟩ := dAt_put E2 e2
            rw [ha] at ha'
            cases ha'
            split at q
            · rename_i hl
              cases dv with
              | @dct o ms _ h1 h2 =>
                have hne : a ≠ o := fun z => by rw [z, h1] at h0; cases h0
                refine ⟨a, o, ks, ms, rfl, rfl, hne, hH, E2.ex _ _ h1, by rw [hkv.length, h2.length]; exact sizeM hl, ?_⟩
                refine q σ B0 _ (put (mergeK ks ms) _ B0 _ (gw_upd hH) (tb_upd E2.tb hH) ?_ upd_same (h2.merge hkv)).1 m2.b0
                · intro b o hb
                  rw [upd_ne (ne_of_none hb h0)]
                  exact E2.ex b o hb
            · exact q.elim
        | _ => exact q.elim
      | ex x ρ1 => rw [e1] at q; exact q σ
      | bad => rw [e1] at q; exact q
/-! ### xs.index(e) -/
def idxV (y : V) : List V → Nat → Option Nat
  | [], _ => none
  | x :: xs, j => if eqV x y = true then some j else idxV y xs (j + 1)
theorem idxV_spec (y : V) : ∀ (xs : List V) (j k : Nat), idxV y xs j = some k → ∃ i, k = j + i ∧ (∃ z, xs[i]? = some z ∧ eqV z y = true) ∧ ∀ (m : Nat) (z' : V), m < i → xs[m]? = some z' → eqV z' y = false
  | [], j, k, h => by cases h
  | x :: xs, j, k, h => by
    unfold idxV at h
    split at h
    · rename_i he
      cases h
      exact ⟨0, rfl, ⟨x, rfl, he⟩, fun m _ hm => absurd hm (Nat.not_lt_zero m)⟩
    · rename_i he
      obtain ⟨i, rfl, ⟨z, h1, h2⟩, h3⟩ := idxV_spec y xs (j + 1) k h
      refine ⟨i + 1, by omega, ⟨z, by simpa using h1, h2⟩, fun m z' hm hz => ?_⟩
      cases m with
      | zero =>
        simp at hz
        subst hz
        simpa using he
      | succ m => exact h3 m z' (Nat.lt_of_succ_lt_succ hm) (by simpa using hz)
def idxD : Dt → Dt → Option Dt
  | .lst xs, d => if flatD d = true ∧ xs.all flatD = true then (idxV (toV d) (xs.map toV) 0).map fun k => .int (k : Nat) else none
  | _, _ => none
def meth1 (g : Dt → Dt → Option Dt) (ok : Dt → Bool) (f1 f2 : Rho → R Dt) : Rho → R Dt := fun ρ => (f1 ρ).bind fun d ρ1 => if ok d = true then (f2 ρ1).bind fun e ρ2 => (match g d e with
  | some z => .ok z ρ2
  | none => .bad) else .bad
def isLst : Dt → Bool
  | .lst _ => true
  | _ => false
theorem de_index {apos cpos : Pos} {o : Expr} (ho : DE X W o f1) (he : DE X W e f2) (hbase : attributeBase o "index" X.env (eval o X.env) = eval o X.env := by rfl)
    (hfew : ((backTo cpos (starEach (e :: []) X.env)).all (fun x => !x.1) && (backToKw cpos (keywordEach [] X.env)).all (fun x => x.1.isSome)
      && decide ((e :: ([] : List Expr)).length + ([] : List Keyword).length + (if ([] : List Keyword).isEmpty then 0 else 1) < 30)) = true := by rfl)
    (hline : (apos.endLine == cpos.line) = true := by rfl) (hs : starEach (e :: []) X.env = (false, eval e X.env) :: starEach [] X.env := by rfl) (hplain : (backTo cpos (starEach [] X.env)).any (·.1) = false := by rfl) :
    DE X W (.Call (.Attribute o "index" apos) [e] [] cpos) (meth1 idxD isLst f1 f2) :=
  fun F => PE.wk (pe_bm PySem.F.plainAttrs_list PySem.F.slot_list_index PySem.F.type_list_index mt_index (ho F) (pa_cons (he F) pa_nil hs) hbase hfew hline hs hplain) fun σ H Q ⟨H0, ρ, E, q⟩ => by
    refine ⟨H0, ρ, E, ?_⟩
    unfold meth1 at q
    cases e1 : f1 ρ with
    | ok d ρ1 =>
      rw [e1] at q
      dsimp only [R.bind] at q
      intro v B0 B E1 m1 dv
      cases d with
      | lst xs =>
        rw [if_pos (by rfl)] at q
        cases dv with
        | @lst a vs _ h1 h2 =>
          refine ⟨.inl ⟨rfl, _, SqL.of (E1.ex _ _ h1)⟩, B0, ρ1, E1, ?_⟩
          cases e2 : f2 ρ1 with
          | ok y ρ2 =>
            rw [e2] at q
            dsimp only [R.bind] at q
            intro w C0 C E2 m2 d2
            cases e3 : idxD (.lst xs) y with
            | none => rw [e3] at q; exact q.elim
            | some z =>
              rw [e3] at q
              unfold idxD at e3
              dsimp only at e3
              split at e3
              · rename_i hf
                obtain ⟨k, hk, rfl⟩ := Option.map_eq_some_iff.mp e3
                obtain ⟨q1, q2⟩ := (h2.mono m2.b0).flat hf.2
                obtain ⟨q3, q4⟩ := d2.flat hf.1
                rw [← q1, ← q3] at hk
                obtain ⟨i, ei, ⟨z, hz1, hz2⟩, hno⟩ := idxV_spec _ _ _ _ hk
                have ei' : k = i := by omega
                refine ⟨a, vs, w, i, z, rfl, rfl, SqL.of (E2.ex _ _ (m2.b0 _ _ h1)), q4, q2, hz1, hz2, hno, ?_⟩
                rw [← ei']
                exact q _ C0 C E2 (m1.trans m2) (.int _)
              · cases e3
          | ex x ρ1 => rw [e2] at q; exact q
          | bad => rw [e2] at q; exact q
      | _ => exact q.elim
    | ex x ρ1 => rw [e1] at q; exact q
    | bad => rw [e1] at q; exact q
end
end DW

set_option Elab.async false
set_option linter.all false
set_option maxRecDepth 100000
set_option maxHeartbeats 4000000
/-! DWE: any of a tuple of ints -/
namespace DW
open PySem PySem.Spec PyProof.Rows L2
theorem truth_ints {prog : Program} {w : World} {A : Around} {ns : List Int} {its : List Value} (e : IntsAre its ns) :
    TruthOf prog w A (fun i v => its.toArray[i]? = some v) (fun i => (ns.map (· != 0)).getD i false) := fun i v s Q E hv hq => by
  have hv' : its[i]? = some v := by simpa using hv
  have : ∀ {its : List Value} {ns : List Int}, IntsAre its ns → ∀ (i : Nat), its[i]? = some v → ∃ n t, ns[i]? = some n ∧ v = .int n t := by
    intro its ns h
    induction h with
    | nil => intro i h; simp at h
    | cons n t _ ih =>
      intro i h
      cases i with
      | zero => simp at h; exact ⟨n, t, rfl, h.symm⟩
      | succ i => exact ih i (by simpa using h)
  obtain ⟨n, t, hn, rfl⟩ := this e i hv'
  have hg : (ns.map (· != 0)).getD i false = (n != 0) := by rw [List.getD_eq_getElem?_getD, List.getElem?_map, hn]; rfl
  have hq' : Q ((ns.map (· != 0)).getD i false) s := hq
  rw [hg] at hq'
  exact PyProof.Rows.truthy_int hq'
section
variable {X : Cx} {W : WX} {e : Expr} {pos p : Pos} {f1 : Rho → R Dt}
def rAnyT (K : PySem.W.Frag) : List V → Hp → VK → Prop := fun vs H Q => ∃ (a : Addr) (ns : List Int), vs = [V.ref a] ∧ SqT K H a (ns.map V.int) ∧ Q (.bl (ns.any (· != 0))) H
theorem cr_anyT (hc : X.calm = true) : CallR X (.builtin "any") (rAnyT X.K) := by
  intro pins s σ H vs us Q I r h
  obtain ⟨a, ns, rfl, hs, q⟩ := h
  obtain ⟨its, rv, hl, _⟩ := I.tuple hs
  rw [Vals.ref1 r]
  have hi : IntsAre its ns := intsAre_of rv
  have hT : s.heap.IsTuple a its.toArray := by obtain ⟨o, h1, h2, n, h3⟩ := hl; exact ⟨o, h1, h2, n, h3⟩
  have hlt : a < s.heap.objs.size := hl.lt
  refine call_any_walk (wpAny_pyIter_tuple hT ?_)
  refine ⟨_, _, _, _, _, _, _, rfl, Walks.tuple (A := X.A.in1) (I.ok.hd hc) s.heap.objs.size a (Nat.ne_of_lt hlt) its.toArray, ⟨⟨_, Heap.get?_push_size _ rfl, rfl, rfl⟩, hT.push _⟩, truth_ints hi, fun h' tk hk => ?_⟩
  refine ⟨.bl _, H, I.kept fun b o eo => hk b o (fun hmem => ?_) (Heap.get?_push_of_some _ eo), ?_, q⟩
  · rcases List.mem_cons.mp hmem with e1 | hmem
    · exact absurd (e1 ▸ Heap.lt_size eo) (Nat.lt_irrefl _)
    · cases hmem
  · show Value.bool _ = Value.bool _
    have hlen : its.toArray.size = (ns.map (· != 0)).length := by rw [List.size_toArray, List.length_map, ← rv.length, List.length_map]
    rw [hlen, L2.any_range, List.any_map]
    rfl
def anyD : Dt → Option Dt
  | .tup ds => (intsOf ds).map fun ns => .bl (ns.any (· != 0))
  | .lst ds => (blsOf ds).map fun ns => .bl (ns.any id)
  | _ => none
theorem und_any (K : PySem.W.Frag) : UnD K (fun x H Q => rAny K [x] H Q ∨ rAnyT K [x] H Q) anyD := by
  intro x d z H0 H s hx hg Q k
  unfold anyD at hg
  split at hg
  · obtain ⟨ns, h, rfl⟩ := Option.map_eq_some_iff.mp hg
    cases hx with
    | tup h1 h2 =>
      rw [intsOf_eq h] at h2
      rw [h2.ints] at h1
      exact .inr ⟨_, ns, rfl, seqT_mono s h1, sc s (.bl _) k⟩
  · obtain ⟨ns, h, rfl⟩ := Option.map_eq_some_iff.mp hg
    obtain ⟨a, vs, rfl, h1, h2⟩ := hx
    rw [blsOf_eq h] at h2
    rw [h2.bls] at h1
    exact .inl ⟨a, ns, rfl, SqL.of h1, sc s (.bl _) k⟩
  · cases hg
theorem de_any (hc : X.calm = true) (hg : Gl X "any") (hm : X.mg "any" = none) (ha : DK X W e f1) (he : starEach (e :: []) X.env = (false, eval e X.env) :: starEach [] X.env := by rfl) : DE X W (.Call (.Name "any" p) [e] [] pos) (un anyD f1) :=
  de_b1 (callr_or (cr_any hc) (cr_anyT hc)) (und_any _) hg hm (by decide +kernel) ha (he := he)
end
end DW

set_option Elab.async false
set_option linter.all false
set_option maxRecDepth 100000
set_option maxHeartbeats 4000000
/-! DWG0: promises of defs where no repr is on its way (guards known) -/
namespace DW
open PySem PySem.Spec PyProof.Rows L2
abbrev Quiet (A : Around) : Prop := A.guards = some []
theorem quiet_deeper {A : Around} (h : Quiet A) (env : Env) : Quiet (A.deeper env) := by
  show (A.deeper env).guards = some []
  first
    | exact h
    | simpa [Around.deeper, Around.under, Code.guards, pushGuards] using h
structure FnG (P : Program) (w : World) (K : PySem.W.Frag) (mg : Str → Option Value) (base : Heap) (CX : CXT) (k : Nat) (f : Addr) (fd : FuncData) (ps : List Str) (sp : Sp) : Prop where
  len : ∀ vs H Q E, sp vs H Q E → vs.length = ps.length
  run : ∀ (A : Around) (out : List Env) (s : Shared) (H : Hp) (args : Args) (us : List Value) (vs : List V) (Q : VK) (E : XK), Room k A → Quiet A → Env0 P w K mg base A out s H → BindsTo s fd args (ps.zip us) → Vals vs us → sp vs H Q E → codeAny (model P w) A (.call (.ref f) args) (CR CX out P w H s Q E) s
section
variable {P : Program} {w : World} {K : PySem.W.Frag} {mg : Str → Option Value} {base : Heap}
/-- cdv is the code of the def at f -/
def CdOk (K : PySem.W.Frag) (f : Addr) (cdv : Value) : Prop := ∃ (oc : Value) (od : Option Addr) (fd : FuncData) (osl : Array (Option Value)), K.lookup f = some ⟨oc, od, .func fd, osl⟩ ∧ fd.code = cdv ∧ ∃ c, cdv = .ref c
/-- a def's promise from its body -/
theorem fnG {CX : CXT} {x qual : Str} {params : Arguments} {bd : List Stmt} {scope : Scope} {dvs : List V} {kws : List (Str × V)} {f : Addr} {fd : FuncData} {N ps : List Str} {k : Nat} {sp : Sp} (F : FunD K x qual params bd scope dvs kws f fd) (S : FnScope N ps scope)
    (hlen : ∀ vs H Q E, sp vs H Q E → vs.length = ps.length)
    (hb : ∀ (cdv : Value) (A : Around) (out : List Env) (s : Shared) (H : Hp) (vs : List V) (Q : VK) (E : XK), Room k (A.deeper (envOfC qual scope s.heap.objs.size f cdv)) → Quiet (A.deeper (envOfC qual scope s.heap.objs.size f cdv)) → CdOk K f cdv → sp vs H Q E →
      ∃ t, PSs (cxOf CX P w K mg base N qual scope f cdv A out s H E) bd t ∧ t { nx := fun _ H' => Q .non H', rt := Q } (L2.start N vs) H) : FnG P w K mg base CX (k + 1) f fd ps sp := by
  obtain ⟨oc, od, dV, kV, doc, pm, an, cdv, ct, osl, rfl, lk, hcd, -, -⟩ := F.ex
  refine ⟨hlen, fun A out s H args us vs Q E room quiet env0 bind rel hsp => ?_⟩
  have there : ∀ b o, base.get? b = some o → s.heap.get? b = some o := fun b o e => (env0.bs b o e).1
  have kin : K.In s.heap := env0.mod.kin.keeps there
  have kinds : ∀ y ∈ ps.zip us, scope.names.lookup y.1 = some .local ∨ (scope.names.lookup y.1 = some .cell ∧ ((cellsFrom (s.heap.objs.size + 1) scope.names []).lookup y.1).isSome = true) := by
    rintro ⟨n, v⟩ hy
    exact (S.par n (List.of_mem_zip hy).1).imp id fun q => ⟨q, PySem.W.cellsFrom_some _ _ _ (.inl q)⟩
  refine codeAny_call_function room.depth (kin _ _ lk) rfl S.co S.gen rfl (PySem.W.codeRec_of kin hcd) (bind _ _ _ _ (wpAny_newFunctionEnv_cells S.kind kinds fun env henv s1 inc => ?_))
  subst henv
  refine ⟨(env0.mod.nolimit.keeps there).keeps inc.toInCall.keep, codeAny_func ?_⟩
  obtain ⟨t, ht, hq⟩ := hb cdv A out s H vs Q E (room.deeper _) (quiet_deeper quiet _) ⟨oc, od, _, osl, lk, rfl, He.codeIn_ref hcd⟩ hsp
  refine wpAny_mono (ht.run [] s1 (L2.start N vs) H _ (inv_start S room.hd env0 (hlen _ _ _ _ hsp) rel inc) hq) (fun flow s' hs => ?_) (fun _ _ z => z)
  match flow, hs with
  | .ret u, ⟨v, σ', H', J, rv, q⟩ => exact ⟨v, H', J.os, J.bare, J.base, J.hok, rv, q⟩
  | .next, ⟨σ', H', J, q⟩ => exact ⟨V.non, H', J.os, J.bare, J.base, J.hok, (rfl : RelV V.non Value.none), q⟩
  | .brk, ⟨_, _, _, q⟩ => exact q.elim
  | .cont, ⟨_, _, _, q⟩ => exact q.elim
end
section
variable {X : Cx} {CX : CXT} {k : Nat} {f : Addr} {fd : FuncData} {ps : List Str} {sp : Sp} {E : XK} {x : Str} {p pos : Pos} {e : Expr} {es : List Expr} {t : TA}
theorem runG {pins : List (Addr × Obj)} {σ : L2.St} {H : Hp} {s : Shared} {Q : VK} {us : List Value} {vs : List V} (G : FnG X.prog X.w X.K X.mg X.base CX k f fd ps sp) (room : Room k X.A) (quiet : Quiet X.A) (bind : Binds X.K fd ps []) (hx : Passes CX X E)
    (J : Inv X pins σ H s) (rel : Vals vs us) (h : sp vs H Q E) : wpAny (model X.prog X.w) X.A (call (.ref f) us) (EP X pins σ Q) X.xe s := by
  have hl : (us ++ []).length = ps.length := by rw [List.append_nil, ← rel.length]; exact G.len _ _ _ _ h
  have hb : BindsTo s fd ⟨us, []⟩ (ps.zip us) := by
    have := bind s us J.kIn hl
    rwa [List.append_nil] at this
  refine wpAny_call (codeAny_mono (G.run X.A X.stack s H ⟨us, []⟩ us vs Q E room quiet J.env0 hb rel h) fun res s' hq => ?_)
  match res, hq with
  | .error err, hq => exact hx pins σ H s err s' J hq
  | .ok (.ret u), hq => exact J.after hq
  | .ok .next, hq => exact False.elim hq
  | .ok .brk, hq => exact False.elim hq
  | .ok .cont, hq => exact False.elim hq
theorem pe_callG (G : FnG X.prog X.w X.K X.mg X.base CX k f fd ps sp) (room : Room k X.A) (quiet : Quiet X.A) (hgl : Gl X x) (hmg : X.mg x = some (.ref f)) (keep : PySem.W.keepIn X.K (.ref f) = true) (bind : Binds X.K fd ps []) (hx : Passes CX X E)
    (args : PA X (e :: es) t) (hdb : (x == ("__debug__" : Str)) = false) (he : starEach (e :: es) X.env = (false, eval e X.env) :: starEach es X.env) (hpl : (backTo pos (starEach es X.env)).any (·.1) = false) :
    PE X (.Call (.Name x p) (e :: es) [] pos) (tCall sp [] E t) :=
  ⟨fun pins s σ H Q J h => wpAny_Call_Name_kw (ld_glob J hgl hmg (PySem.W.callWith_K (h₀ := X.base) J.ok.mod.kin keep (thn (args.run pos pins s σ H _ J h) fun us s1 z => by
    obtain ⟨vs, H1, J1, rel, q⟩ := z
    rw [List.append_nil] at q
    exact ⟨J1.kIn, runG G room quiet bind hx J1 rel q⟩) he hpl) hdb)⟩
theorem pe_callG0 (G : FnG X.prog X.w X.K X.mg X.base CX k f fd ps sp) (room : Room k X.A) (quiet : Quiet X.A) (hgl : Gl X x) (hmg : X.mg x = some (.ref f)) (keep : PySem.W.keepIn X.K (.ref f) = true) (bind : Binds X.K fd ps []) (hx : Passes CX X E)
    (hdb : (x == ("__debug__" : Str)) = false) : PE X (.Call (.Name x p) [] [] pos) (tCall sp [] E tNil) :=
  ⟨fun pins s σ H Q J h => wpAny_Call_Name_kw (ld_glob J hgl hmg (PySem.W.callWith_K0 J.kIn keep (runG (us := []) (vs := []) G room quiet bind hx J .nil h)) hdb)⟩
end
/-! ### the law's end -/
theorem lawG {P : Program} {w : World} {K : PySem.W.Frag} {mg mb : Str → Option Value} {CX : CXT} {k : Nat} {fa a : Addr} {fd : FuncData} {x : Str} {sp : Sp} {t : Shared} {us : List Value} {ns : List Int}
    (kin : K.In t.heap) (glob : t.heap.Ns mainGlobals mg) (blt : t.heap.Ns builtinsNs mb) (boot : ∀ x : Str, x ≠ "__name__" → mb x = bootBuiltins x) (lim : t.heap.NoLimit) (gens : t.gens = #[])
    (obj : t.heap.get? a = some { cls := .type "list", data := .seq us.toArray }) (hints : IntsAre us ns) (len : ns.length ≤ sizeLine) (room : Room k callerA)
    (G : ∀ base : Heap, K.In base → base.Ns mainGlobals mg → FnG P w K mg base CX k fa fd [x] sp) (bind : ∀ (s : Shared) (u : Value), BindsTo s fd ⟨[u], []⟩ [(x, u)])
    (hsp : ∀ H : Hp, SqL K H a (ns.map V.int) → sp [.ref a] H (fun v _ => v = .bl true) fun _ _ _ => False)
    (hCX : ∀ H e s', CX [] H t (fun _ _ _ => False) e s' → False) :
    codeAny (model P w) callerA (.call (.ref fa) ⟨[.ref a], []⟩) (fun r s' => r = .ok (.ret (.bool true)) ∧ OldK t.heap s'.heap ∧ s'.os = t.os ∧ AllBare s'.gens) t := by
  have key : ∀ H : Hp, Only H → SqL K H a (ns.map V.int) → HOk P w H t.heap → (∀ b, H b ≠ none → b = a) → (H a ≠ none → K.lookup a = none) →
      codeAny (model P w) callerA (.call (.ref fa) ⟨[.ref a], []⟩) (fun r s' => r = .ok (.ret (.bool true)) ∧ OldK t.heap s'.heap ∧ s'.os = t.os ∧ AllBare s'.gens) t := fun H only sq hok at_ off => by
    have away : ∀ {b : Addr}, b ≠ a → H b = none := fun {b} hb => by
      cases q : H b with
      | none => rfl
      | some u => exact absurd (at_ b (by rw [q]; exact fun z => nomatch z)) hb
    have dictAway : ∀ {b : Addr} {m : Str → Option Value}, t.heap.Ns b m → b ≠ a := fun {b m} ⟨o, es, ep, e, d, _⟩ z => by
      rw [z, obj] at e
      cases e
      cases d
    have move : ∀ {b : Addr} {m : Str → Option Value}, t.heap.Ns b m → (hidT t.heap H).Ns b m := fun {b m} n => by
      have hb := dictAway n
      obtain ⟨o, es, ep, e, rest⟩ := n
      exact ⟨o, es, ep, hidT_get e (away hb), rest⟩
    have kinH : K.In (hidT t.heap H) := fun b o e => by
      refine hidT_get (kin b o e) ?_
      by_cases hb : b = a
      · subst hb
        cases q : H b with
        | none => rfl
        | some u =>
          rw [off (by rw [q]; exact fun z => nomatch z)] at e
          cases e
      · exact away hb
    obtain ⟨mc, l1, l2⟩ := lim
    have env0 : Env0 P w K mg (hidT t.heap H) callerA [] t H := ⟨rfl, ⟨kinH, move glob, ⟨mb, move blt, boot⟩, ⟨mc, move l1, l2⟩⟩, fun _ _ e => of_hidT e, Nat.le_of_eq (hidT_size _ _), trivial, fun b hb => (nomatch hb), hok, .of_eq gens⟩
    refine codeAny_mono ((G _ kinH (move glob)).run callerA [] t H ⟨[.ref a], []⟩ [.ref a] [.ref a] _ _ room rfl env0 (bind t (.ref a)) (.cons rfl .nil) (hsp H sq)) fun res s' h => ?_
    match res, h with
    | .error e, h => exact (hCX H e s' h).elim
    | .ok .next, h => exact False.elim h
    | .ok .brk, h => exact False.elim h
    | .ok .cont, h => exact False.elim h
    | .ok (.ret u), ⟨v, H', os, bare, un, hok', rel, q⟩ =>
      have hv : v = .bl true := q
      subst hv
      have hu : u = Value.bool true := rel
      subst hu
      refine ⟨rfl, OldK.of_keep fun b o e => ?_, os, bare⟩
      rcases only b with z | ⟨ob, xs, z⟩
      · exact un.keep b o e z (fun m => nomatch m) (fun m => nomatch m)
      · have e1 := (hok b _ z).1
        rw [e] at e1
        cases e1
        exact (hok' b _ (un.frzs b _ _ z)).1
  have rel := vals_ints hints
  by_cases hk : ∃ o, K.lookup a = some o
  · obtain ⟨o, hk⟩ := hk
    have e := kin a o hk
    rw [obj] at e
    cases e
    exact key (fun _ => none) (fun _ => .inl rfl) (.inr ⟨_, us.toArray, _, hk, rfl, rfl, rfl, by rw [List.size_toArray, hints.length]; exact len, by simpa using rel⟩) (fun _ _ z => nomatch z) (fun _ z => absurd rfl z) fun z => absurd rfl z
  · have hk' : K.lookup a = none := by
      cases q : K.lookup a with
      | none => rfl
      | some o => exact absurd ⟨o, q⟩ hk
    refine key (fun b => if b = a then some (.frz { cls := .type "list", data := .seq us.toArray } (.lst (ns.map V.int))) else none) (fun b => ?_) (.inl (.inr ⟨_, if_pos rfl⟩)) (fun b u z => ?_) (fun b z => ?_) fun _ => hk'
    · by_cases hb : b = a
      · exact .inr ⟨_, _, if_pos hb⟩
      · exact .inl (if_neg hb)
    · by_cases hb : b = a
      · subst hb
        cases (if_pos rfl).symm.trans z
        exact ⟨obj, by rw [List.length_map]; exact len, us, _, rel, obj⟩
      · cases (if_neg hb).symm.trans z
    · by_cases hb : b = a
      · exact hb
      · exact absurd (if_neg hb) z
theorem walkG {l : PySem.W.OpenLaw} {n k : Nat} {q : Program} {loose : List Str} {XP : (Str → Option Value) → Heap → Prop} {YP : World → Heap → Prop} {d : DefRec} {CX : CXT} {x : Str}
    (most : l.most = some n) (line : n ≤ sizeLine) (dfl : d.params.defaults = []) (room : Room k callerA)
    (F : ∀ (w : World) (mg : Str → Option Value) (fa : Addr) (h : Heap), YP w h → h.Ns mainGlobals mg → mg d.name = some (.ref fa) →
      ∃ (K : PySem.W.Frag) (fd : FuncData) (sp : Sp), K.In h ∧ (∀ (s : Shared) (u : Value), BindsTo s fd ⟨[u], []⟩ [(x, u)]) ∧
        (∀ (H : Hp) (a : Addr) (ns : List Int), ns.length ≤ n → SqL K H a (ns.map V.int) → sp [.ref a] H (fun v _ => v = .bl true) fun _ _ _ => False) ∧
        ∀ base : Heap, K.In base → base.Ns mainGlobals mg → FnG l.prog w K mg base CX k fa fd [x] sp)
    (hCX : ∀ (H : Hp) (s : Shared) (e : Value) (s' : Shared), CX [] H s (fun _ _ _ => False) e s' → False) :
    PySem.W.WalkO q loose XP YP l.row.toRowW d [] (fun f vs => PySem.call f vs) :=
  Att.attach_call most dfl fun w _ t mg mb fa _ _ _ _ a us ns Gd Y _ _ _ hmg hobj hints hlen hg => by
    obtain ⟨K, fd, sp, kin, bind, hsp, hF⟩ := F w mg fa _ Y Gd.T.g hmg
    exact lawG kin Gd.T.g Gd.T.b Gd.T.builtins Gd.T.nolimit hg hobj hints (Nat.le_trans hlen line) room hF bind (fun H sq => hsp H a ns hlen sq) fun H e s' => hCX H t e s'
end DW

set_option Elab.async false
set_option linter.all false
set_option maxRecDepth 100000
set_option maxHeartbeats 4000000
/-! DWF: defs by their names; a law's end -/
namespace DW
open PySem PySem.Spec PyProof.Rows L2
def IsDef (K : PySem.W.Frag) (mg : Str → Option Value) (x : Str) (st : Stmt) : Prop := ∃ f fd, FunD K x x (defArgs st) (defBody st) (defScope st) [] [] f fd ∧ mg x = some (.ref f)
def Has (P : Program) (w : World) (K : PySem.W.Frag) (mg : Str → Option Value) (base : Heap) (x : Str) (ps : List Str) (fn : Fn) (k : Nat) : Prop :=
  ∃ f fd, mg x = some (.ref f) ∧ PySem.W.keepIn K (.ref f) = true ∧ Binds K fd ps [] ∧ FnG P w K mg base CX0 k f fd ps (spF ⟨K, mg⟩ fn)
def HasM (P : Program) (w : World) (K : PySem.W.Frag) (mg : Str → Option Value) (base : Heap) (x : Str) (ps : List Str) (fn : FnM) (k : Nat) : Prop :=
  ∃ f fd, mg x = some (.ref f) ∧ PySem.W.keepIn K (.ref f) = true ∧ Binds K fd ps [] ∧ FnG P w K mg base CX0 k f fd ps (spM ⟨K, mg⟩ fn)
section
variable {P : Program} {w : World} {K : PySem.W.Frag} {mg : Str → Option Value} {base : Heap}
theorem fnD0 {x qual : Str} {params : Arguments} {bd : List Stmt} {scope : Scope} {f : Addr} {fd : FuncData} {N ps : List Str} {k : Nat} {body : Rho → SR} (F : FunD K x qual params bd scope [] [] f fd) (S : FnScope N ps scope) (hN : ps.length ≤ N.length)
    (hb : ∀ (cdv : Value) (A : Around) (outer : List Env) (s : Shared) (H : Hp) (E : XK), Room k (A.deeper (envOfC qual scope s.heap.objs.size f cdv)) → Quiet (A.deeper (envOfC qual scope s.heap.objs.size f cdv)) → CdOk K f cdv → DSs (cxOf CX0 P w K mg base N qual scope f cdv A outer s H E).nox WF bd body) :
    FnG P w K mg base CX0 (k + 1) f fd ps (spF ⟨K, mg⟩ (runF ps.length N.length body)) := by
  have lem : ∀ ds : List Dt, (∃ s, runF ps.length N.length body ds = .ok s) → ds.length = ps.length := fun ds ⟨s, h⟩ => by
    unfold runF at h
    split at h
    · assumption
    · cases h
  refine fnG F S (fun vs H Q E h => ?_) (fun cdv A outer s H vs Q E hr hq hcd h => ?_)
  · obtain ⟨H0, ds, h1, tb, h2, h3⟩ := h
    cases e : runF ps.length N.length body ds with
    | ok s => rw [h2.length]; exact lem ds ⟨s, e⟩
    | ex _ => rw [e] at h3; exact h3.elim
    | bad => rw [e] at h3; exact h3.elim
  · obtain ⟨H0, ds, h1, tb, h2, h3⟩ := h
    have hl : ds.length = ps.length := by
      cases e : runF ps.length N.length body ds with
      | ok s => exact lem ds ⟨s, e⟩
      | ex _ => rw [e] at h3; exact h3.elim
      | bad => rw [e] at h3; exact h3.elim
    refine ⟨_, PSs.nox (hb cdv A outer s H E hr hq hcd ⟨H0, H, none⟩), H0, envOf N.length ds, en_start h1 tb h2 (by omega), ?_⟩
    unfold runF at h3
    rw [if_pos hl] at h3
    cases e : body (envOf N.length ds) with
    | nx ρ' =>
      rw [e] at h3
      exact fun σ' H0' H' E' _ => h3 _ H0' H' E'.gr E'.tb E'.ex (Da.non : Da K H0' .non .non)
    | rt s ρ' =>
      rw [e] at h3
      exact fun v σ' H0' H' E' hs => h3 _ H0' H' E'.gr E'.tb E'.ex hs
    | bk _ => rw [e] at h3; exact h3.elim
    | ct _ => rw [e] at h3; exact h3.elim
    | ex _ _ => rw [e] at h3; exact h3.elim
    | bad => rw [e] at h3; exact h3.elim
theorem fnDM {x qual : Str} {params : Arguments} {bd : List Stmt} {scope : Scope} {f : Addr} {fd : FuncData} {N ps : List Str} {k : Nat} {body : Rho → SR} (F : FunD K x qual params bd scope [] [] f fd) (S : FnScope N ps scope) (hN : ps.length ≤ N.length)
    (hb : ∀ (cdv : Value) (A : Around) (outer : List Env) (s : Shared) (H : Hp) (E : XK), Room k (A.deeper (envOfC qual scope s.heap.objs.size f cdv)) → Quiet (A.deeper (envOfC qual scope s.heap.objs.size f cdv)) → CdOk K f cdv → DSs (cxOf CX0 P w K mg base N qual scope f cdv A outer s H E).nox WF bd body) :
    FnG P w K mg base CX0 (k + 1) f fd ps (spM ⟨K, mg⟩ (runM ps.length N.length body)) := by
  have lem : ∀ kvs (ds : List Dt), (∃ s kvs', runM ps.length N.length body kvs ds = .ok s kvs') → ds.length + 1 = ps.length := fun kvs ds ⟨s, kvs', h⟩ => by
    unfold runM at h
    split at h
    · assumption
    · cases h
  have lem2 : ∀ {Q : VK} {E : XK} {vs : List V} {H : Hp}, spM ⟨K, mg⟩ (runM ps.length N.length body) vs H Q E → vs.length = ps.length := fun {Q E vs H} h => by
    obtain ⟨H0, a, ks, kvs, vs', ds, rfl, h1, tb, h2, h3, h4, h5, h6⟩ := h
    cases e : runM ps.length N.length body kvs ds with
    | ok s kvs' => rw [List.length_cons, h5.length]; exact lem kvs ds ⟨s, kvs', e⟩
    | ex _ => rw [e] at h6; exact h6.elim
    | bad => rw [e] at h6; exact h6.elim
  refine fnG F S (fun vs H Q E h => lem2 h) (fun cdv A outer s H vs Q E hr hq hcd h => ?_)
  have hvl := lem2 h
  obtain ⟨H0, a, ks, kvs, vs', ds, rfl, h1, tb, h2, h3, h4, h5, h6⟩ := h
  have hl : ds.length + 1 = ps.length := by rw [List.length_cons, h5.length] at hvl; exact hvl
  refine ⟨_, PSs.nox (hb cdv A outer s H E hr hq hcd ⟨H0, H, some a⟩), H0, envM N.length kvs ds, en_startM h1 tb h2 h3 h4 h5 (by omega), ?_⟩
  unfold runM at h6
  rw [if_pos hl] at h6
  have atIo : ∀ {σ' : L2.St} {ρ' : Rho} {H0' H' : Hp} {kvs' : List (Key × Dt)}, En K ⟨H0, H, some a⟩ H0' H' σ' ρ' → ioOf ρ' = some kvs' → ∃ ks', H' a = some (.dK ks') ∧ DaKv K H0' ks' kvs' := fun {σ' ρ' H0' H' kvs'} E' hio => by
    obtain ⟨y1, ⟨kv, y2⟩, _⟩ := E'.io a rfl
    obtain ⟨v, z1, b, ks2, rfl, z2, z3, z4, z5⟩ := E'.sl 0 _ y2
    rw [y1] at z1
    cases z1
    refine ⟨ks2, z4, ?_⟩
    cases ρ' with
    | nil => cases y2
    | cons x r =>
      have hx : x = some (.io kv) := by simpa using y2
      subst hx
      have : kv = kvs' := by simpa [ioOf] using hio
      subst this
      exact z5
  cases e : body (envM N.length kvs ds) with
  | nx ρ' =>
    rw [e] at h6
    intro σ' H0' H' E' _
    cases e2 : ioOf ρ' with
    | none => dsimp only at h6; rw [e2] at h6; exact h6.elim
    | some kvs' =>
      dsimp only at h6
      rw [e2] at h6
      obtain ⟨ks', q1, q2⟩ := atIo E' e2
      exact h6 _ ks' H0' H' E'.gr E'.tb E'.ex q1 q2 (Da.non : Da K H0' .non .non)
  | rt s ρ' =>
    rw [e] at h6
    intro v σ' H0' H' E' hs
    cases e2 : ioOf ρ' with
    | none => dsimp only at h6; rw [e2] at h6; exact h6.elim
    | some kvs' =>
      dsimp only at h6
      rw [e2] at h6
      obtain ⟨ks', q1, q2⟩ := atIo E' e2
      exact h6 _ ks' H0' H' E'.gr E'.tb E'.ex q1 q2 hs
  | bk _ => rw [e] at h6; exact h6.elim
  | ct _ => rw [e] at h6; exact h6.elim
  | ex _ _ => rw [e] at h6; exact h6.elim
  | bad => rw [e] at h6; exact h6.elim
theorem has0 {x : Str} {st : Stmt} {N ps : List Str} {k : Nat} {body : Rho → SR} (D : IsDef K mg x st) (S : FnScope N ps (defScope st)) (hN : ps.length ≤ N.length)
    (hbi : ∀ (kV doc pm : Value) (an : Option Addr) (cdv ct : Value) (us : List Value), us.length = ps.length → bindArgs (PySem.W.fnOf x x (defArgs st) (defBody st) (defScope st) .none kV doc pm an cdv ct) ⟨us, []⟩ = pure (ps.zip us))
    (hb : ∀ (f : Addr) (cdv : Value) (A : Around) (outer : List Env) (s : Shared) (H : Hp) (E : XK), Room k (A.deeper (envOfC x (defScope st) s.heap.objs.size f cdv)) → Quiet (A.deeper (envOfC x (defScope st) s.heap.objs.size f cdv)) → mg x = some (.ref f) ∧ CdOk K f cdv → DSs (cxOf CX0 P w K mg base N x (defScope st) f cdv A outer s H E).nox WF (defBody st) body) :
    Has P w K mg base x ps (runF ps.length N.length body) (k + 1) := by
  obtain ⟨f, fd, F, hm⟩ := D
  exact ⟨f, fd, hm, F.kp, F.bindsN hbi, fnD0 F S hN fun cdv A outer s H E hr hq hc => hb f cdv A outer s H E hr hq ⟨hm, hc⟩⟩
theorem hasM {x : Str} {st : Stmt} {N ps : List Str} {k : Nat} {body : Rho → SR} (D : IsDef K mg x st) (S : FnScope N ps (defScope st)) (hN : ps.length ≤ N.length)
    (hbi : ∀ (kV doc pm : Value) (an : Option Addr) (cdv ct : Value) (us : List Value), us.length = ps.length → bindArgs (PySem.W.fnOf x x (defArgs st) (defBody st) (defScope st) .none kV doc pm an cdv ct) ⟨us, []⟩ = pure (ps.zip us))
    (hb : ∀ (f : Addr) (cdv : Value) (A : Around) (outer : List Env) (s : Shared) (H : Hp) (E : XK), Room k (A.deeper (envOfC x (defScope st) s.heap.objs.size f cdv)) → Quiet (A.deeper (envOfC x (defScope st) s.heap.objs.size f cdv)) → mg x = some (.ref f) ∧ CdOk K f cdv → DSs (cxOf CX0 P w K mg base N x (defScope st) f cdv A outer s H E).nox WF (defBody st) body) :
    HasM P w K mg base x ps (runM ps.length N.length body) (k + 1) := by
  obtain ⟨f, fd, F, hm⟩ := D
  exact ⟨f, fd, hm, F.kp, F.bindsN hbi, fnDM F S hN fun cdv A outer s H E hr hq hc => hb f cdv A outer s H E hr hq ⟨hm, hc⟩⟩
end
section
variable {X : Cx} {W : WX} {e : Expr} {es : List Expr} {pos p p2 : Pos} {fa : Rho → R (List Dt)} {k j : Nat} {ps : List Str} {x : Str}
theorem de_h {fn : Fn} (h : Has X.prog X.w X.K X.mg X.base x ps fn j) (hr : Room k X.A) (hq : Quiet X.A) (hjk : j ≤ k) (hg : Gl X x)
    (ha : DA X W (e :: es) fa) (hdb : (x == ("__debug__" : Str)) = false := by decide) (he : starEach (e :: es) X.env = (false, eval e X.env) :: starEach es X.env := by rfl) (hpl : (backTo pos (starEach es X.env)).any (·.1) = false := by rfl) :
    DE X W (.Call (.Name x p) (e :: es) [] pos) (callF fn fa) := by
  obtain ⟨f, fd, hm, hk, hb, G⟩ := h
  exact fun F => PE.wk (pe_callG G (hr.mono hjk) hq hg hm hk hb pass0 (ha F) hdb he hpl) fun _ _ _ h => tCall_of h
theorem de_h0 {fn : Fn} (h : Has X.prog X.w X.K X.mg X.base x ps fn j) (hr : Room k X.A) (hq : Quiet X.A) (hjk : j ≤ k) (hg : Gl X x) (hdb : (x == ("__debug__" : Str)) = false := by decide) : DE X W (.Call (.Name x p) [] [] pos) (callF fn nilA) := by
  obtain ⟨f, fd, hm, hk, hb, G⟩ := h
  exact fun F => PE.wk (pe_callG0 G (hr.mono hjk) hq hg hm hk hb pass0 hdb) fun σ H Q h => by
    obtain ⟨H0, ρ, E, q⟩ := tCall_of (E := E0) h
    exact q [] H0 H E Mv.refl .nil
theorem do_h {fn : Fn} (h : Has X.prog X.w X.K X.mg X.base x ps fn j) (hr : Room k X.A) (hq : Quiet X.A) (hjk : j ≤ k) (hg : Gl X x)
    (ha : DA X W (e :: es) fa) (hdb : (x == ("__debug__" : Str)) = false := by decide) (he : starEach (e :: es) X.env = (false, eval e X.env) :: starEach es X.env := by rfl) (hpl : (backTo pos (starEach es X.env)).any (·.1) = false := by rfl) :
    DO X W (.Call (.Name x p) (e :: es) [] pos) (callO fn fa) := by
  obtain ⟨f, fd, hm, hk, hb, G⟩ := h
  exact fun F => PE.wk (pe_callG G (hr.mono hjk) hq hg hm hk hb pass0 (ha F) hdb he hpl) fun _ _ _ h => tCallO_of h
theorem de_hM {fn : FnM} {i : Nat} {y : Str} (h : HasM X.prog X.w X.K X.mg X.base x ps fn j) (hr : Room k X.A) (hq : Quiet X.A) (hjk : j ≤ k) (hg : Gl X x)
    (hy : PE X (.Name y p2) (tVar i)) (ha : DA X W es fa) (hdb : (x == ("__debug__" : Str)) = false := by decide) (he : starEach (.Name y p2 :: es) X.env = (false, eval (.Name y p2) X.env) :: starEach es X.env := by rfl) (hpl : (backTo pos (starEach es X.env)).any (·.1) = false := by rfl) :
    DE X W (.Call (.Name x p) (.Name y p2 :: es) [] pos) (callM fn i fa) := by
  obtain ⟨f, fd, hm, hk, hb, G⟩ := h
  exact fun F => PE.wk (pe_callG G (hr.mono hjk) hq hg hm hk hb pass0 (pa_cons hy (ha F) he) hdb he hpl) fun _ _ _ h => tCallM_of h
end
theorem u64 {A : Around} {k : Nat} (hr : Room k A) : A.units + 64 < cLine := by have := hr.un; omega
theorem u1 {A : Around} {k : Nat} (hr : Room k A) : A.units + 1 < cLine := by have := hr.un; omega
/-- the law's promise from its function: the tables are not the base's -/
theorem law_sp {K : PySem.W.Frag} {mg : Str → Option Value} {fn : Fn} (h : ∀ ns : List Int, ns.length ≤ 63 → fn [.scr ns] = .ok (.fr (.bl true))) (H : Hp) (a : Addr) (ns : List Int) (hl : ns.length ≤ 63) (hS : SqL K H a (ns.map V.int)) (hT : ∀ p ∈ tT K, H p.1 = some (.tbl #[])) : spF ⟨K, mg⟩ fn [.ref a] H (fun v _ => v = .bl true) fun _ _ _ => False := by
  have sm : Same (fun b => match H b with | some (.tbl _) => none | o => o) H := fun b o e => by
    dsimp only at e
    split at e
    · cases e
    · exact e
  have hS0 : SqL K (fun b => match H b with | some (.tbl _) => none | o => o) a (ns.map V.int) := by
    rcases hS with (h | ⟨o, h⟩) | h
    · exact .inl (.inl (by show (match H a with | some (.tbl _) => none | o => o) = _; rw [h]))
    · exact .inl (.inr ⟨o, by show (match H a with | some (.tbl _) => none | o => o) = _; rw [h]⟩)
    · exact .inr h
  refine ⟨_, [.scr ns], sm, fun p hp => ⟨?_, LamX.TabS.nil (hT p hp)⟩, .cons (.scr hS0) .nil, ?_⟩
  · show (match H p.1 with | some (.tbl _) => none | o => o) = _
    rw [hT p hp]
  · rw [h ns hl]
    intro v H0' H' _ _ _ hv
    cases hv
    rfl
end DW

set_option Elab.async false
set_option linter.all false
set_option maxRecDepth 100000
set_option maxHeartbeats 4000000
/-! DWG: repr -/
namespace DW
open PySem PySem.Spec PyProof.Rows L2
mutual
/-- a bound of a thing's text -/
def wtD : Dt → Nat
  | .lst xs => wtAll xs + 2
  | .tup xs => wtAll xs + 3
  | .dct _ => 0
  | .non => 4
  | .bl _ => 5
  | .int _ => 600
  | .str x => (reprText x).length
  | .scr ns => 602 * ns.length + 2
  | .xo _ _ _ => 0
def wtAll : List Dt → Nat
  | [] => 0
  | d :: ds => wtD d + 2 + wtAll ds
end
theorem ints_noDict : ∀ ns : List Int, PyData.hasDictAll (ns.map PyData.int) = false
  | [] => rfl
  | n :: ns => by simpa [PyData.hasDictAll, PyData.hasDict] using ints_noDict ns
mutual
theorem plain_noDict : ∀ d : Dt, plainD d = true → (toPy d).hasDict = false
  | .lst xs, h => by simp only [toPy, PyData.hasDict]; exact plain_noDictAll xs (by simpa [plainD] using h)
  | .tup xs, h => by simp only [toPy, PyData.hasDict]; exact plain_noDictAll xs (by simpa [plainD] using h)
  | .dct _, h => by simp [plainD] at h
  | .non, _ => by simp [toPy, PyData.hasDict]
  | .bl _, _ => by simp [toPy, PyData.hasDict]
  | .int _, _ => by simp [toPy, PyData.hasDict]
  | .str _, _ => by simp [toPy, PyData.hasDict]
  | .scr ns, _ => by
    simp only [toPy, PyData.hasDict]
    exact ints_noDict ns
  | .xo _ _ _, h => by simp [plainD] at h
theorem plain_noDictAll : ∀ ds : List Dt, plainAll ds = true → PyData.hasDictAll (toPyAll ds) = false
  | [], _ => rfl
  | d :: ds, h => by
    simp only [plainAll, Bool.and_eq_true] at h
    simp only [toPyAll, PyData.hasDictAll, plain_noDict d h.1, plain_noDictAll ds h.2, Bool.or_self]
end
theorem listText_len_le (ts : List Str) : (listText ts).length ≤ piled ts + 2 := by
  cases ts with
  | nil => decide
  | cons t r =>
    have h := textFrom_length_pos r 1 (("[" : Str) ++ (if (0 : Nat) > 0 then ", " else "" : String) ++ t) (Nat.succ_pos 0)
    have e : ((("[" : Str) ++ (if (0 : Nat) > 0 then ", " else "" : String) ++ t)).length = 1 + t.length := by
      rw [strLen_append, strLen_append]; rfl
    have hX : (listText (t :: r)).length = (textFrom 0 "[" (t :: r)).length + 1 := by
      show (textFrom 0 "[" (t :: r) ++ "]").length = _
      rw [strLen_append]; rfl
    have hY : (textFrom 0 "[" (t :: r)).length = (textFrom 1 (("[" : Str) ++ (if (0 : Nat) > 0 then ", " else "" : String) ++ t) r).length := rfl
    rw [hX, hY, h, e, piled_cons]; omega
theorem tupleText_len_le (ts : List Str) : (tupleText ts).length ≤ piled ts + 3 := by
  unfold tupleText
  rw [strLen_append, strLen_append]
  have e1 : ((("(" : String) : Str)).length = 1 := rfl
  have e3 : (((if ts.length == 1 then ",)" else ")" : String) : Str)).length ≤ 2 := by split <;> decide
  rw [e1]
  by_cases h : ts = []
  · subst h
    have : (Str.join ", " ([] : List Str)).length = 0 := rfl
    omega
  · have := join_length_add ts h
    omega
theorem int_len {i : Int} (h : i.natAbs.log2 < 1920) : (Str.ofString (toString i)).length ≤ 600 := by
  have h2 : i.natAbs < 2 ^ 1920 := by
    by_cases z : i.natAbs = 0
    · rw [z]; exact Nat.two_pow_pos 1920
    · exact (Nat.log2_lt z).mp h
  have h3 : i.natAbs < 10 ^ 599 := Nat.lt_of_lt_of_le h2 (by decide +kernel)
  have e := int_text_length_le10 (k := 599) (by decide) h3
  rw [PySem.ofString_length]; omega
theorem shownAll_eq : ∀ ds : List PyData, PyData.shownAll ds = ds.map PyData.shown
  | [] => rfl
  | d :: ds => by simp [PyData.shownAll, shownAll_eq ds]
theorem ints_len : ∀ ns : List Int, PyData.showableAll (ns.map PyData.int) = true → piled (PyData.shownAll (ns.map PyData.int)) ≤ 602 * ns.length
  | [], _ => Nat.le_refl _
  | n :: ns, h => by
    simp only [List.map_cons, PyData.showableAll, PyData.showable, Bool.and_eq_true, decide_eq_true_eq] at h
    have h1 := ints_len ns h.2
    have h2 := int_len h.1
    simp only [List.map_cons, PyData.shownAll, PyData.shown, piled_cons, List.length_cons]
    omega
mutual
theorem shown_len : ∀ d : Dt, (toPy d).showable = true → plainD d = true → (toPy d).shown.length ≤ wtD d
  | .lst xs, h, p => by
    have := listText_len_le (PyData.shownAll (toPyAll xs))
    have := shown_lenAll xs (by simpa [toPy, PyData.showable] using h) (by simpa [plainD] using p)
    simp only [toPy, PyData.shown, wtD]
    omega
  | .tup xs, h, p => by
    have := tupleText_len_le (PyData.shownAll (toPyAll xs))
    have := shown_lenAll xs (by simpa [toPy, PyData.showable] using h) (by simpa [plainD] using p)
    simp only [toPy, PyData.shown, wtD]
    omega
  | .dct _, _, p => by simp [plainD] at p
  | .xo _ _ _, _, p => by simp [plainD] at p
  | .non, _, _ => by decide
  | .bl b, _, _ => by cases b <;> decide
  | .int i, h, _ => by
    simp only [toPy, PyData.showable, decide_eq_true_eq] at h
    exact int_len h
  | .str _, _, _ => Nat.le_refl _
  | .scr ns, h, _ => by
    have := listText_len_le (PyData.shownAll (ns.map PyData.int))
    have := ints_len ns (by simpa [toPy, PyData.showable] using h)
    simp only [toPy, PyData.shown, wtD]
    omega
theorem shown_lenAll : ∀ ds : List Dt, PyData.showableAll (toPyAll ds) = true → plainAll ds = true → piled (PyData.shownAll (toPyAll ds)) ≤ wtAll ds
  | [], _, _ => Nat.le_refl _
  | d :: ds, h, p => by
    simp only [toPyAll, PyData.showableAll, Bool.and_eq_true] at h
    simp only [plainAll, Bool.and_eq_true] at p
    have h1 := shown_lenAll ds h.2 p.2
    have h2 := shown_len d h.1 p.1
    simp only [toPyAll, PyData.shownAll, piled_cons, wtAll]
    omega
end
def reprOk (d : Dt) : Bool := plainD d && (toPy d).showable && decide ((toPy d).depth ≤ 50) && decide (wtD d ≤ 16000000)
def reprD (d : Dt) : Option Dt := if reprOk d = true then some (.str (toPy d).shown) else none
section
variable {X : Cx} {W : WX} {e : Expr} {pos p : Pos} {f1 : Rho → R Dt}
def rRepr (K : PySem.W.Frag) : V → Hp → VK → Prop := fun x H Q => ∃ d, Dp K H x d ∧ d.showable = true ∧ d.hasDict = false ∧ d.depth ≤ 50 ∧ d.shown.length ≤ sizeLine ∧ Q (.str d.shown) H
theorem cr_repr (hu : X.A.units + 64 < cLine) (hq : Quiet X.A) : CallR X (.builtin "repr") (fun xs H Q => ∃ x, xs = [x] ∧ rRepr X.K x H Q) := by
  intro pins s σ H xs us Q I r h
  obtain ⟨x, rfl, d, hd, hs, hn, hp, hl, q⟩ := h
  obtain ⟨u, rfl, ru⟩ := vals1 r
  cases hd with
  | non => cases ru; exact PySem.P.repr_of_none ⟨.str _, H, I.tok _, ⟨_, rfl⟩, q⟩
  | bl b => cases ru; exact PySem.P.repr_of_bool ⟨.str _, H, I.tok _, ⟨_, rfl⟩, q⟩
  | int i =>
    obtain ⟨t, rfl⟩ := ru
    exact PySem.P.repr_of_int (by simpa [PyData.showable] using hs) ⟨.str _, H, I.tok _, ⟨_, rfl⟩, q⟩
  | str i =>
    obtain ⟨t, rfl⟩ := ru
    exact PySem.P.repr_of_str ⟨.str _, H, I.tok _, ⟨_, rfl⟩, q⟩ hl
  | lst h1 h2 =>
    obtain ⟨as, rd⟩ := Dp.reads I _ _ _ (.lst h1 h2) ru
    cases ru
    exact repr_of_reads' rd hs (PyData.noDict_hsm hn) hq (by omega) (fun _ _ e => e) (fun h' u tk hk => ⟨.str _, H, I.kept hk, ⟨_, rfl⟩, q⟩) hl
  | tup h1 h2 =>
    obtain ⟨as, rd⟩ := Dp.reads I _ _ _ (.tup h1 h2) ru
    cases ru
    exact repr_of_reads' rd hs (PyData.noDict_hsm hn) hq (by omega) (fun _ _ e => e) (fun h' u tk hk => ⟨.str _, H, I.kept hk, ⟨_, rfl⟩, q⟩) hl
theorem und_repr (K : PySem.W.Frag) : UnD K (fun x H Q => ∃ y, [x] = [y] ∧ rRepr K y H Q) reprD := by
  intro x d z H0 H s hx hg Q k
  unfold reprD at hg
  split at hg
  · rename_i h
    cases hg
    simp only [reprOk, Bool.and_eq_true, decide_eq_true_eq] at h
    obtain ⟨⟨⟨h1, h2⟩, h3⟩, h4⟩ := h
    exact ⟨x, rfl, toPy d, Da.dp (Pk.up s hx) h1, h2, plain_noDict d h1, h3, Nat.le_trans (Nat.le_trans (shown_len d h2 h1) h4) (by decide), sc s (.str _) k⟩
  · cases hg
theorem de_repr (hu : X.A.units + 64 < cLine) (hq : Quiet X.A) (hg : Gl X "repr") (hm : X.mg "repr" = none) (ha : DK X W e f1) (he : starEach (e :: []) X.env = (false, eval e X.env) :: starEach [] X.env := by rfl) : DE X W (.Call (.Name "repr" p) [e] [] pos) (un reprD f1) :=
  de_b1 (cr_repr hu hq) (und_repr _) hg hm (by decide +kernel) ha (he := he)
end
end DW

set_option Elab.async false
set_option linter.all false
set_option maxRecDepth 100000
set_option maxHeartbeats 4000000
/-! DWH: dict displays; min and max of two; [::-1] -/
namespace DW
open PySem PySem.Spec PyProof.Rows L2
def pairsF : List ((Rho → R Dt) × (Rho → R Dt)) → Rho → R (List (Key × Dt))
  | [], ρ => .ok [] ρ
  | (fk, fv) :: r, ρ => (fk ρ).bind fun kd ρ1 => (fv ρ1).bind fun vd ρ2 => match keyD kd with
    | some k => (pairsF r ρ2).bind fun ps ρ3 => .ok ((k, vd) :: ps) ρ3
    | none => .bad
def dispO (fps : List ((Rho → R Dt) × (Rho → R Dt))) : Rho → R Sl := fun ρ => (pairsF fps ρ).bind fun kvs ρ1 => if kvs.length ≤ 15 then .ok (.od (mergeD [] kvs)) ρ1 else .bad
section
variable {K : PySem.W.Frag} {F : Fm} {H0 H H0' H' : Hp} {σ : L2.St} {ρ : Rho} {v : V} {d : Dt} {s : Sl} {i : Nat} {a p : Addr} {o : HO} {g : Gx} {W : WX}
def tPr (g : Gx) (F : Fm) (W : WX) (fps : List ((Rho → R Dt) × (Rho → R Dt))) (σ : L2.St) (H : Hp) (Q : List (V × V) → Hp → Prop) : Prop := ∃ H0 ρ, En g.K F H0 H σ ρ ∧ match pairsF fps ρ with
  | .ok kvs ρ' => ∀ vs H0' H', En g.K F H0' H' σ ρ' → Mv σ ρ ρ' H0 H H0' H' → DaKv g.K H0' vs kvs → Q (vs.map fun kv => (kV kv.1, kv.2)) H'
  | .ex e ρ' => XW g F W σ e ρ'
  | .bad => False
theorem tPr_pairs : ∀ (fps : List ((Rho → R Dt) × (Rho → R Dt))) {H : Hp} {Q : List (V × V) → Hp → Prop}, tPr g F W fps σ H Q → tPairs (fps.map fun p => (tD g F W p.1, tD g F W p.2)) σ H Q
  | [], H, Q, ⟨H0, ρ, E, q⟩ => q [] H0 H E Mv.refl .nil
  | (fk, fv) :: r, H, Q, ⟨H0, ρ, E, q⟩ => by
    refine ⟨H0, ρ, E, ?_⟩
    simp only [pairsF] at q
    dsimp only
    cases e1 : fk ρ with
    | bad => rw [e1] at q; exact q
    | ex x ρ1 => rw [e1] at q; exact q
    | ok kd ρ1 =>
      rw [e1] at q
      dsimp only [R.bind] at q
      intro x C0 C E1 m1 d1
      refine ⟨C0, ρ1, E1, ?_⟩
      dsimp only
      cases e2 : fv ρ1 with
      | bad => rw [e2] at q; exact q
      | ex x ρ1 => rw [e2] at q; exact q
      | ok vd ρ2 =>
        rw [e2] at q
        dsimp only at q
        intro y D0 D E2 m2 d2
        cases e3 : keyD kd with
        | none => rw [e3] at q; exact q.elim
        | some k =>
          rw [e3] at q
          dsimp only at q
          have hx : x = kV k := keyD_V (H := C) (Da.pk E1.ex d1) e3
          subst hx
          refine tPr_pairs r ⟨D0, ρ2, E2, ?_⟩
          cases e4 : pairsF r ρ2 with
          | bad => rw [e4] at q; exact q
          | ex x ρ1 => rw [e4] at q; exact q
          | ok ps ρ3 =>
            rw [e4] at q
            dsimp only at q
            intro vs I0 I E3 m3 d3
            exact q ((k, y) :: vs) I0 I E3 ((m1.trans m2).trans m3) (.cons (d2.mono m3.b0) d3)
theorem tDisp_of {fps : List ((Rho → R Dt) × (Rho → R Dt))} {Q : VK} (h : tO g F W (dispO fps) σ H Q) : tDisp (fps.map fun p => (tD g F W p.1, tD g F W p.2)) σ H Q := by
  obtain ⟨H0, ρ, E, q⟩ := h
  intro p hp
  have nO := E.notOwn hp
  have h0 := E.up0 hp
  have hF := E.upF hp
  refine tPr_pairs fps ⟨H0, ρ, E.beside h0 hF nO (.inr (.inr hp)), ?_⟩
  unfold dispO at q
  cases e : pairsF fps ρ with
  | bad => rw [e] at q; exact q
  | ex x ρ1 => rw [e] at q; exact q
  | ok kvs ρ1 =>
    rw [e] at q
    dsimp only [R.bind] at q
    by_cases hl : kvs.length ≤ 15
    · rw [if_pos hl] at q
      dsimp only at q
      intro vs C0 C E1 m1 d1
      have hC : C p = some (.dK []) := m1.kd p upd_same nO
      have hC0 : C0 p = none := m1.off p (by rw [upd_same]; exact fun z => nomatch z) h0 nO
      have n1 : ¬ OwnAt σ ρ1 p := fun z => nO (m1.sub p z)
      refine ⟨hC, vs, rfl, by rw [d1.length]; exact hl, ?_⟩
      refine q _ C0 _ (E1.beside hC0 hF n1 (.inr (.inl ⟨_, hC⟩))) ⟨m1.b0, fun a o ha nt ho => ?_, fun a ha h ho => ?_, m1.sub, fun a ha => ?_⟩ ⟨p, _, rfl, hC0, hF, upd_same, DaKv.merge d1 .nil⟩ fun _ b z => by cases z; exact hp
      · have hn : a ≠ p := ne_of_none ha hp
        rw [upd_ne hn]
        exact m1.keep a o (by rw [upd_ne hn]; exact ha) nt ho
      · have hn : a ≠ p := fun z => ha (z ▸ hp)
        exact m1.off a (by rw [upd_ne hn]; exact ha) h ho
      · have hn : a ≠ p := fun z => ha (z ▸ hp)
        rw [upd_ne hn]
        exact m1.st a (by rw [upd_ne hn]; exact ha)
    · rw [if_neg hl] at q
      exact q.elim
end
section
variable {X : Cx} {W : WX} {a b c e : Expr} {es : List Expr} {pos p p2 p3 : Pos} {f1 f2 f3 : Rho → R Dt} {fa : Rho → R (List Dt)} {fo : Rho → R Sl}
def DPr (X : Cx) (W : WX) (pos : Pos) (ks : List (Option Expr)) (vs : List Expr) (fps : List ((Rho → R Dt) × (Rho → R Dt))) : Prop := ∀ F, PPs X pos ks vs (fps.map fun p => (tD (gx X) F W p.1, tD (gx X) F W p.2))
theorem dpr_nil : DPr X W pos [] [] [] := fun F => pps_nil
theorem dpr_cons {k v : Expr} {ks : List (Option Expr)} {vs : List Expr} {fps} (hk : DE X W k f1) (hv : DE X W v f2) (hr : DPr X W pos ks vs fps) : DPr X W pos (some k :: ks) (v :: vs) ((f1, f2) :: fps) := fun F => pps_cons (hk F) (hv F) (hr F)
theorem do_disp {ks : List (Option Expr)} {vs : List Expr} {fps} (h : DPr X W pos ks vs fps) (hall : ks.all (·.isSome) = true) (hl : ks.length = vs.length) (h0 : ks ≠ []) (h15 : ks.length ≤ 15) : DO X W (.Dict ks vs pos) (dispO fps) := fun F => PE.wk (pe_disp (h F) hall hl h0 h15) fun _ _ _ q => tDisp_of q
/-! ### built-in functions of two things -/
def CbD (K : PySem.W.Frag) (r : List V → Hp → VK → Prop) (gg : List Dt → Option Dt) : Prop := ∀ xs ds z H0 H, Same H0 H → DaAll K H0 xs ds → gg ds = some z → ∀ Q : VK, (∀ v H0' H', Gr ⟨H0, H, none⟩ H0' H' → Same H0' H' → Da K H0' v z → Q v H') → r xs H Q
theorem tCB_of {g : Gx} {F : Fm} {f : Rho → R (List Dt)} {r : List V → Hp → VK → Prop} {gg : List Dt → Option Dt} (hr : CbD g.K r gg) {σ : L2.St} {H : Hp} {Q : VK} (h : tD g F W (cb gg f) σ H Q) : tCB r (tDA g F W f) σ H Q := by
  obtain ⟨H0, ρ, E, q⟩ := h
  refine ⟨H0, ρ, E, ?_⟩
  unfold cb at q
  cases e : f ρ with
  | bad => rw [e] at q; exact q
  | ex x ρ1 => rw [e] at q; exact q
  | ok ds ρ1 =>
    rw [e] at q
    dsimp only [R.bind] at q
    intro vs C0 C E1 m1 d1
    cases e2 : gg ds with
    | none => rw [e2] at q; exact q.elim
    | some z =>
      rw [e2] at q
      refine hr vs ds z C0 C E1.ex d1 e2 Q fun v I0 I gr s4 d4 => ?_
      obtain ⟨E4, m4⟩ := E1.post m1 gr s4
      exact q v I0 I E4 m4 d4
theorem de_bn {x : Str} {id : String} {r : List V → Hp → VK → Prop} {gg : List Dt → Option Dt} (hc : CallR X (.builtin id) r) (hr : CbD X.K r gg) (hg : Gl X x) (hm : X.mg x = none) (hv : bootBuiltins x = some (.builtin id)) (ha : DA X W (e :: es) fa)
    (hn : x ≠ "__name__" := by decide) (hdb : (x == ("__debug__" : Str)) = false := by decide) (he : starEach (e :: es) X.env = (false, eval e X.env) :: starEach es X.env := by rfl) (hpl : (backTo pos (starEach es X.env)).any (·.1) = false := by rfl) :
    DE X W (.Call (.Name x p) (e :: es) [] pos) (cb gg fa) := fun F => PE.wk (pe_callB hc hg hm hv (ha F) hn hdb he hpl) fun _ _ _ h => tCB_of hr h
def min2D : List Dt → Option Dt
  | [.int i, .int j] => some (.int (if j < i then j else i))
  | _ => none
def max2D : List Dt → Option Dt
  | [.int i, .int j] => some (.int (if j > i then j else i))
  | _ => none
theorem cbd_min2 (K : PySem.W.Frag) : CbD K (fun xs H Q => ∃ i j, xs = [.int i, .int j] ∧ Q (.int (if j < i then j else i)) H) min2D := by
  intro xs ds z H0 H s hx hg Q k
  unfold min2D at hg
  split at hg
  · cases hg
    cases hx with
    | cons h1 h2 => cases h2 with
      | cons h2 h3 => cases h3; cases h1; cases h2; exact ⟨_, _, rfl, sc s (.int _) k⟩
  · cases hg
theorem cbd_max2 (K : PySem.W.Frag) : CbD K (fun xs H Q => ∃ i j, xs = [.int i, .int j] ∧ Q (.int (if j > i then j else i)) H) max2D := by
  intro xs ds z H0 H s hx hg Q k
  unfold max2D at hg
  split at hg
  · cases hg
    cases hx with
    | cons h1 h2 => cases h2 with
      | cons h2 h3 => cases h3; cases h1; cases h2; exact ⟨_, _, rfl, sc s (.int _) k⟩
  · cases hg
theorem de_min2 (hc : X.calm = true) (hg : Gl X "min") (hm : X.mg "min" = none) (ha : DA X W (e :: es) fa) (he : starEach (e :: es) X.env = (false, eval e X.env) :: starEach es X.env := by rfl) (hpl : (backTo pos (starEach es X.env)).any (·.1) = false := by rfl) :
    DE X W (.Call (.Name "min" p) (e :: es) [] pos) (cb min2D fa) := de_bn (call_min2 hc) (cbd_min2 _) hg hm (by decide +kernel) ha (he := he) (hpl := hpl)
theorem de_max2 (hc : X.calm = true) (hg : Gl X "max") (hm : X.mg "max" = none) (ha : DA X W (e :: es) fa) (he : starEach (e :: es) X.env = (false, eval e X.env) :: starEach es X.env := by rfl) (hpl : (backTo pos (starEach es X.env)).any (·.1) = false := by rfl) :
    DE X W (.Call (.Name "max" p) (e :: es) [] pos) (cb max2D fa) := de_bn (call_max2 hc) (cbd_max2 _) hg hm (by decide +kernel) ha (he := he) (hpl := hpl)
/-! ### [::-1] -/
def revD : Dt → Option Dt
  | .lst xs => some (.lst xs.reverse)
  | .scr ns => some (.lst (ns.reverse.map .int))
  | _ => none
theorem DaAll.reverse {K : PySem.W.Frag} {H : Hp} {vs : List V} {ds : List Dt} (h : DaAll K H vs ds) : DaAll K H vs.reverse ds.reverse := by
  induction vs generalizing ds with
  | nil => cases h; exact .nil
  | cons v vs ih =>
    cases h with
    | cons h1 h2 =>
      rw [List.reverse_cons, List.reverse_cons]
      exact (ih h2).append (.cons h1 .nil)
theorem und_rev (K : PySem.W.Frag) : UnD K (fun x H Q => ∃ a xs, x = .ref a ∧ SqL K H a xs ∧ ∀ p, H p = none → Q (.ref p) (upd H p (.lst xs.reverse))) revD := by
  intro x d z H0 H s hx hg Q k
  unfold revD at hg
  split at hg
  · cases hg
    obtain ⟨a, vs, rfl, h1, h2⟩ := hx
    exact ⟨a, vs, rfl, SqL.of h1, al_lst s h2.reverse k⟩
  · cases hg
    cases hx with
    | scr h1 =>
      refine ⟨_, _, rfl, seqL_mono s h1, al_lst s ?_ k⟩
      rw [List.map_reverse]
      exact (daInts _).reverse
  · cases hg
theorem de_rev {k : Nat} {p1 : Pos} (he : DE X W e f1) : DE X W (.Subscript e (.Slice none none (some (.UnaryOp .USub (.Constant (.int 1) k p1) p2)) p3) pos) (un revD f1) := fun F => PE.wk (pe_revL (he F)) fun σ H Q h => by
  obtain ⟨H0, ρ, E, q⟩ := h
  refine ⟨H0, ρ, E, ?_⟩
  unfold un at q
  cases e : f1 ρ with
  | bad => rw [e] at q; exact q
  | ex x ρ1 => rw [e] at q; exact q
  | ok d ρ1 =>
    rw [e] at q
    dsimp only [R.bind] at q
    intro v C0 C E1 m1 d1
    cases e2 : revD d with
    | none => rw [e2] at q; exact q.elim
    | some z =>
      rw [e2] at q
      refine und_rev X.K v d z C0 C E1.ex (Da.pk E1.ex d1) e2 Q fun v I0 I gr s4 d4 => ?_
      obtain ⟨E4, m4⟩ := E1.post m1 gr s4
      exact q v I0 I E4 m4 d4
end
end DW

set_option Elab.async false
set_option linter.all false
set_option maxRecDepth 100000
set_option maxHeartbeats 4000000
/-! DWI: a def that changes a dict, called with a new one -/
namespace DW
open PySem PySem.Spec PyProof.Rows L2
def callMO (fn : FnM) (fo : Rho → R Sl) (fa : Rho → R (List Dt)) : Rho → R Dt := fun ρ => (fo ρ).bind fun s ρ1 => match s with
  | .od kvs => (fa ρ1).bind fun ds ρ2 => match fn kvs ds with
    | .ok (.fr d) _ => .ok d ρ2
    | _ => .bad
  | _ => .bad
section
variable {K : PySem.W.Frag} {F : Fm} {H0 H H0' H' : Hp} {σ : L2.St} {ρ : Rho} {v : V} {d : Dt} {s : Sl} {i : Nat} {a p : Addr} {o : HO} {g : Gx} {W : WX}
theorem En.apart (E : En K F H0 H σ ρ) (h0 : H0 p = none) (hF : F.H p = none) (hn : ¬ OwnAt σ ρ p) {xs : List (Key × V)} (hp : H p = some (.dK xs)) (he : ∀ b, b ≠ p → H' b = H b) : En K F H0 H' σ ρ := by
  refine ⟨⟨E.gr.b0, fun b u hb nt hi => ?_, E.gr.off, fun b hb => ?_⟩, tab_away E.tb (fun b u hb _ n2 => by
    have nb : b ≠ p := fun z => n2 xs (by rw [z, hp] at hb; exact (Option.some.inj hb).symm)
    rw [he b nb]
    exact hb) (fun _ _ h _ _ => h), fun b u hb => ?_, E.len, fun j t e => ?_, E.sep, E.io, E.io1⟩
  · have : b ≠ p := fun z => by rw [z, hF] at hb; cases hb
    rw [he b this]
    exact E.gr.keep b u hb nt hi
  · have : b ≠ p := fun z => hb (by rw [z]; exact hF)
    rw [he b this]
    exact E.gr.st b hb
  · have : b ≠ p := fun z => by rw [z, h0] at hb; cases hb
    rw [he b this]
    exact E.ex b u hb
  · obtain ⟨w, h1, h2⟩ := E.sl j t e
    refine ⟨w, h1, ?_⟩
    cases t with
    | fr d => exact h2
    | ol ds =>
      obtain ⟨b, vs, rfl, q1, q2, q3, q4⟩ := h2
      have : b ≠ p := fun z => hn ⟨j, _, e, rfl, z ▸ h1⟩
      exact ⟨b, vs, rfl, q1, q2, by rw [he b this]; exact q3, q4⟩
    | od ds =>
      obtain ⟨b, vs, rfl, q1, q2, q3, q4⟩ := h2
      have : b ≠ p := fun z => hn ⟨j, _, e, rfl, z ▸ h1⟩
      exact ⟨b, vs, rfl, q1, q2, by rw [he b this]; exact q3, q4⟩
    | raw w _ => exact h2
    | io ds =>
      obtain ⟨b, vs, rfl, q1, q2, q3, q4⟩ := h2
      have : b ≠ p := fun z => hn ⟨j, _, e, rfl, z ▸ h1⟩
      exact ⟨b, vs, rfl, q1, q2, by rw [he b this]; exact q3, q4⟩
theorem tCallMO_of {fn : FnM} {fo : Rho → R Sl} {fa : Rho → R (List Dt)} {E : XK} {Q : VK} (h : tD g F W (callMO fn fo fa) σ H Q) : tCall (spM g fn) [] E (tCons (tO g F W fo) (tDA g F W fa)) σ H Q := by
  obtain ⟨H0, ρ, E, q⟩ := h
  refine ⟨H0, ρ, E, ?_⟩
  unfold callMO at q
  cases e0 : fo ρ with
  | bad => rw [e0] at q; exact q
  | ex x ρ1 => rw [e0] at q; exact q
  | ok s ρ1 =>
    rw [e0] at q
    dsimp only [R.bind] at q
    cases s with
    | fr _ => exact q.elim
    | ol _ => exact q.elim
    | raw _ _ => exact q.elim
    | io _ => exact q.elim
    | od kvs =>
      dsimp only at q
      rintro v B0 B E1 m1 ⟨a, ks, rfl, b0, bF, b1, b2⟩ hf
      have ha : H a = none := hf rfl a rfl
      have nO : ¬ OwnAt σ ρ a := E.notOwn ha
      have n1 : ¬ OwnAt σ ρ1 a := fun z => nO (m1.sub a z)
      refine ⟨B0, ρ1, E1, ?_⟩
      cases e : fa ρ1 with
      | bad => rw [e] at q; exact q
      | ex x ρ1 => rw [e] at q; exact q
      | ok ds ρ2 =>
        rw [e] at q
        dsimp only at q
        intro vs C0 C E2 m2 hd
        show spM g fn ((V.ref a :: vs) ++ []) C Q _
        rw [List.append_nil]
        have c1 : C a = some (.dK ks) := m2.kd a b1 n1
        have c0 : C0 a = none := m2.off a (by rw [b1]; exact fun z => nomatch z) b0 n1
        have n2 : ¬ OwnAt σ ρ2 a := fun z => n1 (m2.sub a z)
        refine ⟨C0, a, ks, kvs, vs, ds, rfl, E2.ex, E2.tb, c0, c1, b2.mono m2.b0, hd, ?_⟩
        cases e2 : fn kvs ds with
        | ex _ => rw [e2] at q; exact q.elim
        | bad => rw [e2] at q; exact q.elim
        | ok s kvs' =>
          rw [e2] at q
          cases s with
          | ol _ => exact q.elim
          | od _ => exact q.elim
          | raw _ _ => exact q.elim
          | io _ => exact q.elim
          | fr d =>
            intro w ks' D0 D gr tt s2 hc hdk hv
            have m12 := m1.trans m2
            have E3 : En g.K F C0 (fun b => if b = a then none else C b) σ ρ2 := E2.apart c0 bF n2 c1 fun b hb => if_neg hb
            have gr' : Gw ⟨C0, fun b => if b = a then none else C b, none⟩ D0 D := by
              refine ⟨gr.b0, fun b u hb nt _ => ?_, fun b hb h => ?_, fun b hb => gr.st b fun z => hb ?_⟩
              · have hn : b ≠ a := fun z => by
                  have hb' : (if b = a then none else C b) = some u := hb
                  rw [if_pos z] at hb'
                  cases hb'
                have hb' : (if b = a then none else C b) = some u := hb
                rw [if_neg hn] at hb'
                exact gr.keep b u hb' nt (fun z => hn (by cases z; rfl))
              · refine gr.off b (fun z => hb ?_) h
                show (if b = a then none else C b) = none
                by_cases hn : b = a
                · rw [if_pos hn]
                · rw [if_neg hn]; exact z
              · show (if b = a then none else C b) = none
                by_cases hn : b = a
                · rw [if_pos hn]
                · rw [if_neg hn]; exact z
            refine q w D0 D (E3.growW gr' tt s2) ⟨m12.b0.trans gr.b0, fun b u hb nt ho => ?_, fun b hb h ho => ?_, m12.sub, fun b hb => ?_⟩ hv
            · have hn : b ≠ a := ne_of_none hb ha
              exact gr.keep b u (m12.keep b u hb nt ho) nt (fun z => hn (by cases z; rfl))
            · exact gr.off b (m12.st b hb) (m12.off b hb h ho)
            · exact gr.st b (m12.st b hb)
end
section
variable {X : Cx} {W : WX} {e : Expr} {es : List Expr} {pos p p2 : Pos} {fa : Rho → R (List Dt)} {k j : Nat} {ps : List Str} {x : Str}
theorem de_hMO {fn : FnM} {fo : Rho → R Sl} (h : HasM X.prog X.w X.K X.mg X.base x ps fn j) (hr : Room k X.A) (hq : Quiet X.A) (hjk : j ≤ k) (hg : Gl X x)
    (hy : DO X W e fo) (ha : DA X W es fa) (hdb : (x == ("__debug__" : Str)) = false := by decide) (he : starEach (e :: es) X.env = (false, eval e X.env) :: starEach es X.env := by rfl) (hpl : (backTo pos (starEach es X.env)).any (·.1) = false := by rfl) :
    DE X W (.Call (.Name x p) (e :: es) [] pos) (callMO fn fo fa) := by
  obtain ⟨f, fd, hm, hk, hb, G⟩ := h
  exact fun F => PE.wk (pe_callG G (hr.mono hjk) hq hg hm hk hb pass0 (pa_cons (hy F) (ha F) he) hdb he hpl) fun _ _ _ h => tCallMO_of h
end
end DW

set_option Elab.async false
set_option linter.all false
set_option maxRecDepth 100000
set_option maxHeartbeats 4000000
/-! DWJ: a + b of lists, for a name that owns its list -/
namespace DW
open PySem PySem.Spec PyProof.Rows L2
def catL : Dt → Dt → Option Sl
  | .lst xs, .lst ys => if xs.length + ys.length ≤ 1000000 then some (.ol (xs ++ ys)) else none
  | _, _ => none
def catO (f1 f2 : Rho → R Dt) : Rho → R Sl := fun ρ => (f1 ρ).bind fun d ρ1 => (f2 ρ1).bind fun e ρ2 => match catL d e with
  | some z => .ok z ρ2
  | none => .bad
def catPO (i : Nat) (f2 : Rho → R Dt) : Rho → R Sl := fun ρ => match pk i ρ with
  | some _ => (f2 ρ).bind fun e ρ1 => match pk i ρ1 with
    | some d => match catL d e with
      | some z => .ok z ρ1
      | none => .bad
    | none => .bad
  | none => .bad
section
variable {K : PySem.W.Frag} {F : Fm} {H0 H H0' H' : Hp} {σ : L2.St} {ρ : Rho} {v : V} {d : Dt} {s : Sl} {i : Nat} {a p : Addr} {o : HO} {g : Gx} {W : WX}
theorem catL_ok {ρ1 : Rho} {B0 B : Hp} {x y : V} {d e : Dt} {z : Sl} {Q : VK} (E : En g.K F H0 H σ ρ1) (m : Mv σ ρ ρ1 B0 B H0 H) (hx : Pk g.K H0 H x d) (hy : Pk g.K H0 H y e) (h : catL d e = some z)
    (q : ∀ v H0' H', En g.K F H0' H' σ ρ1 → Mv σ ρ ρ1 B0 B H0' H' → SlR g.K F H0' H' v z → (z.own = true → ∀ a, v = .ref a → B a = none) → Q v H') : rCat x y H Q := by
  unfold catL at h
  split at h
  · split at h
    · rename_i hz
      cases h
      obtain ⟨a, vs, rfl, h1, h2⟩ := hx
      obtain ⟨b, ws, rfl, h3, h4⟩ := hy
      refine ⟨a, b, vs, ws, rfl, rfl, h1, h3, by rw [h2.length, h4.length]; exact sizeM hz, fun p hp => ?_⟩
      obtain ⟨q1, q2, q3, q4, q5⟩ := E.postO (o := .lst (vs ++ ws)) m hp
      exact q _ _ _ q1 q2 ⟨p, _, rfl, q3, q4, upd_same, h2.append h4⟩ fun _ b z => by cases z; exact q5
    · cases h
  · cases h
theorem tCatO_of {f1 f2 : Rho → R Dt} {σ : L2.St} {H : Hp} {Q : VK} (h : tO g F W (catO f1 f2) σ H Q) : tOp rCat (tD g F W f1) (tK g F W f2) σ H Q := by
  obtain ⟨H0, ρ, E, q⟩ := h
  unfold catO at q
  refine ⟨H0, ρ, E, ?_⟩
  cases e1 : f1 ρ with
  | ex x ρ' => rw [e1] at q; exact q
  | bad => rw [e1] at q; exact q
  | ok d ρ1 =>
    rw [e1] at q
    intro x H1 B1 E1 m1 d1
    refine ⟨H1, ρ1, E1, ?_⟩
    dsimp only [R.bind] at q
    cases e2 : f2 ρ1 with
    | ex x ρ' => rw [e2] at q; exact q
    | bad => rw [e2] at q; exact q
    | ok e ρ2 =>
      rw [e2] at q
      intro y H2 B2 E2 m2 d2
      dsimp only [R.bind] at q
      cases e3 : catL d e with
      | none => rw [e3] at q; exact q.elim
      | some z =>
        rw [e3] at q
        exact catL_ok E2 (m1.trans m2) (Da.pk E2.ex (d1.mono m2.b0)) d2 e3 q
theorem tCatPO_of {f2 : Rho → R Dt} {σ : L2.St} {H : Hp} {Q : VK} (h : tO g F W (catPO i f2) σ H Q) : tOp rCat (tVar i) (tK g F W f2) σ H Q := by
  obtain ⟨H0, ρ, E, q⟩ := h
  unfold catPO at q
  cases e1 : pk i ρ with
  | none => rw [e1] at q; exact q.elim
  | some d0 =>
    rw [e1] at q
    obtain ⟨x, hx, _⟩ := pk_at E e1
    refine ⟨x, hx, H0, ρ, E, ?_⟩
    dsimp only [R.bind] at q
    cases e2 : f2 ρ with
    | ex x ρ' => rw [e2] at q; exact q
    | bad => rw [e2] at q; exact q
    | ok e ρ2 =>
      rw [e2] at q
      intro y H2 B2 E2 m2 d2
      dsimp only at q
      cases e3 : pk i ρ2 with
      | none => rw [e3] at q; exact q.elim
      | some d =>
        rw [e3] at q
        dsimp only at q
        obtain ⟨x', hx', px⟩ := pk_at E2 e3
        rw [hx] at hx'
        cases hx'
        cases e4 : catL d e with
        | none => rw [e4] at q; exact q.elim
        | some z =>
          rw [e4] at q
          exact catL_ok E2 m2 px d2 e4 q
end
section
variable {X : Cx} {W : WX} {a b c e : Expr} {es : List Expr} {pos p p2 p3 : Pos} {f1 f2 f3 : Rho → R Dt} {fa : Rho → R (List Dt)} {fo : Rho → R Sl} {i : Nat}
theorem do_cat (ha : DE X W a f1) (hb : DK X W b f2) : DO X W (.BinOp a .Add b pos) (catO f1 f2) := fun F => PE.wk (pe_op op_cat (ha F) (hb F)) fun _ _ _ h => tCatO_of h
theorem do_catP {x : Str} (ha : PE X (.Name x p) (tVar i)) (hb : DK X W b f2) : DO X W (.BinOp (.Name x p) .Add b pos) (catPO i f2) := fun F => PE.wk (pe_op op_cat ha (hb F)) fun _ _ _ h => tCatPO_of h
end
end DW

set_option Elab.async false
set_option linter.all false
set_option maxRecDepth 100000
set_option maxHeartbeats 4000000
/-! DWK: xs[::k] of a list, dict(list of pairs) -/
namespace DW
open PySem PySem.Spec PyProof.Rows L2
def pickI {α : Type} (ix : List Nat) (xs : List α) : List α := ix.filterMap (xs[·]?)
def stp {α : Type} (xs : List α) (c : Int) : List α := pickI (sliceRange 0 xs.length c) xs
theorem stp_pick (items : Array Value) {c : Int} (hc : 0 < c) : slicePick items none none (some c) = (stp items.toList c).toArray := by
  unfold slicePick stp pickI
  have e : sliceBounds none none (some c) items.size = (0, (items.size : Int), c) := by
    unfold sliceBounds
    simp only [Option.getD_some, gt_iff_lt, if_pos hc]
  rw [e, Array.length_toList]
  simp only [Array.getElem?_toList]
theorem Vals.pick {xs : List V} {us : List Value} (r : Vals xs us) : ∀ ix : List Nat, Vals (pickI ix xs) (pickI ix us)
  | [] => .nil
  | i :: ix => by
    have ih := Vals.pick r ix
    unfold pickI at ih ⊢
    rw [List.filterMap_cons, List.filterMap_cons]
    cases e : xs[i]? with
    | none => rw [r.none_of e]; exact ih
    | some x =>
      obtain ⟨u, h1, h2⟩ := r.get e
      rw [h1]
      exact .cons h2 ih
theorem DaAll.pick {K : PySem.W.Frag} {H : Hp} {vs : List V} {ds : List Dt} (r : DaAll K H vs ds) : ∀ ix : List Nat, DaAll K H (pickI ix vs) (pickI ix ds)
  | [] => .nil
  | i :: ix => by
    have ih := DaAll.pick r ix
    unfold pickI at ih ⊢
    rw [List.filterMap_cons, List.filterMap_cons]
    cases e : ds[i]? with
    | none =>
      have : vs[i]? = none := by
        rw [List.getElem?_eq_none_iff] at e ⊢
        rw [r.length]
        exact e
      rw [this]
      exact ih
    | some x =>
      obtain ⟨u, h1, h2⟩ := r.get e
      rw [h1]
      exact .cons h2 ih
theorem DaAll.stp {K : PySem.W.Frag} {H : Hp} {vs : List V} {ds : List Dt} (r : DaAll K H vs ds) (c : Int) : DaAll K H (stp vs c) (stp ds c) := by
  unfold DW.stp
  rw [r.length]
  exact r.pick _
theorem stp_len {α : Type} (xs : List α) {c : Int} (hc : 0 < c) : (stp xs c).length ≤ xs.length := by
  unfold stp pickI
  exact Nat.le_trans (List.length_filterMap_le _ _) (sliceRange_length_le _ _ _ _ (fun _ => ⟨by omega, by omega⟩) fun h => absurd hc h)
section
variable {X : Cx}
def tStepL (K : PySem.W.Frag) (te : TE) (tk : TO) : TE := fun σ H Q => te σ H fun x H1 => tk σ H1 fun o H2 => ∃ a xs c, x = .ref a ∧ o = some c ∧ 0 < c ∧ SqL K H2 a xs ∧ ∀ p, H2 p = none → Q (.ref p) (upd H2 p (.lst (stp xs c)))
theorem pe_stepL {e k : Expr} {te : TE} {tk : TO} {p3 pos : Pos} (he : PE X e te) (hk : PO X (some k) tk) (hsub : ∀ a b, subscripted (.Slice none none (some k) p3) false a b = operate [a, b] (getItem a b) := by intros; with_unfolding_all rfl) : PE X (.Subscript e (.Slice none none (some k) p3) pos) (tStepL X.K te tk) := by
  refine ⟨fun pins s σ H Q I h => ?_⟩
  refine Subscript_ (thn (he.run pins s σ H _ I h) fun v s1 ⟨x, H1, I1, r1, q1⟩ => ?_)
  refine wpAny_Slice (thn (po_none.run pins s1 σ H1 (fun o H2 => o = none ∧ H2 = H1) I1 ⟨rfl, rfl⟩) fun vl s2 ⟨l, H2, I2, pl, el, e2⟩ => ?_)
  subst el e2
  refine thn (po_none.run pins s2 σ H2 (fun o H3 => o = none ∧ H3 = H2) I2 ⟨rfl, rfl⟩) fun vu s3 ⟨u, H3, I3, pu, eu, e3⟩ => ?_
  subst eu e3
  refine thn (hk.run pins s3 σ H3 _ I3 q1) fun vs s4 ⟨o, H4, I4, ps, q2⟩ => ?_
  obtain ⟨a, xs, c, ex, eo, hc, hx, q⟩ := q2
  subst ex eo
  cases r1
  have I5 : Inv X pins σ H4 { s4 with heap := s4.heap.push { cls := .type "slice", data := .fields #[vl, vu, vs] } } := I4.kept (t' := s4.toks) fun b ob q => Heap.get?_push_of_some _ q
  obtain ⟨its, r, ht, hz⟩ := I5.list hx
  have hlen := r.length
  show wpAny (model X.prog X.w) X.A (subscriptTail e (.Slice none none (some k) p3) (.ref a) (.ref s4.heap.objs.size)) (EP X pins σ Q) X.xe { s4 with heap := s4.heap.push { cls := .type "slice", data := .fields #[vl, vu, vs] } }
  refine tail_any (ops := [.ref a, .ref s4.heap.objs.size]) ht.isList.typeIs (PySem.slot_list_getitem.lookup) ?_ (by with_unfolding_all rfl)
  refine wpAny_getItem_list_slice ht.isList (Heap.IsSliceOf.new _ vl vu vs) pl pu ps (fun z => by cases z; omega) ?_ (by rw [List.size_toArray]; omega)
  rw [stp_pick _ hc]
  refine ⟨.ref _, _, I5.laid (t' := s4.toks) (o := .lst (stp xs c)) (fun b ob q => Heap.get?_push_of_some _ q) (Nat.le_refl _) ?_, rfl, q _ (I5.hok.fresh (Nat.le_refl _))⟩
  refine ⟨Nat.le_trans (stp_len xs hc) hz, _, 0, ?_, Heap.get?_push_size _ rfl⟩
  unfold stp
  rw [hlen]
  exact Vals.pick r _
end
def stpD : Dt → Option Int → Option Dt
  | .lst xs, some c => if 0 < c then some (.lst (stp xs c)) else none
  | _, _ => none
def slK (f : Rho → R Dt) (fk : Rho → R (Option Int)) : Rho → R Dt := fun ρ => (f ρ).bind fun d ρ1 => (fk ρ1).bind fun o ρ2 => match stpD d o with
  | some z => .ok z ρ2
  | none => .bad
section
variable {X : Cx} {W : WX} {a b c e : Expr} {es : List Expr} {pos p p2 p3 : Pos} {f1 f2 f3 : Rho → R Dt} {fa : Rho → R (List Dt)} {fo : Rho → R Sl}
theorem de_slK {k : Expr} {fk : Rho → R (Option Int)} (he : DE X W e f1) (hk : DP X W (some k) fk) (hsub : ∀ a b, subscripted (.Slice none none (some k) p3) false a b = operate [a, b] (getItem a b) := by intros; with_unfolding_all rfl) : DE X W (.Subscript e (.Slice none none (some k) p3) pos) (slK f1 fk) := fun F => PE.wk (pe_stepL (he F) (hk F) hsub) fun σ H Q h => by
  obtain ⟨H0, ρ, E, q⟩ := h
  refine ⟨H0, ρ, E, ?_⟩
  unfold slK at q
  cases e1 : f1 ρ with
  | bad => rw [e1] at q; exact q
  | ex x ρ1 => rw [e1] at q; exact q
  | ok d ρ1 =>
    rw [e1] at q
    dsimp only [R.bind] at q
    intro v C0 C E1 m1 d1
    refine ⟨C0, ρ1, E1, ?_⟩
    cases e2 : fk ρ1 with
    | bad => rw [e2] at q; exact q
    | ex x ρ2 => rw [e2] at q; exact q
    | ok o ρ2 =>
      rw [e2] at q
      dsimp only [R.bind] at q
      intro B0 B E2 m2
      cases e3 : stpD d o with
      | none => rw [e3] at q; exact q.elim
      | some z =>
        rw [e3] at q
        unfold stpD at e3
        split at e3
        · split at e3
          · rename_i hc
            cases e3
            have d2 := d1.mono m2.b0
            cases d2 with
            | lst h1 h2 =>
              refine ⟨_, _, _, rfl, rfl, hc, SqL.of (E2.ex _ _ h1), al_lst E2.ex (h2.stp _) fun v I0 I gr s4 d4 => ?_⟩
              obtain ⟨E4, m4⟩ := E2.post (m1.trans m2) gr s4
              exact q v I0 I E4 m4 d4
          · cases e3
        · cases e3
/-! ### dict(list of pairs) -/
def pairsD : List Dt → Option (List (Key × Dt))
  | [] => some []
  | .tup [k, v] :: r => match keyD k, pairsD r with
    | some k, some r => some ((k, v) :: r)
    | _, _ => none
  | _ => none
def dictD : Dt → Option Dt
  | .lst ds => (pairsD ds).map fun kvs => .dct (mergeD [] kvs)
  | _ => none
theorem keyD_Va {K : PySem.W.Frag} {H : Hp} {v : V} {d : Dt} {k : Key} (h : Da K H v d) (e : keyD d = some k) : v = kV k := by
  cases d with
  | int i => cases e; cases h; rfl
  | str x => cases e; cases h; rfl
  | _ => cases e
theorem pairsD_of {K : PySem.W.Frag} {H : Hp} : ∀ {ds : List Dt} {kvs : List (Key × Dt)} {vs : List V}, pairsD ds = some kvs → DaAll K H vs ds → ∃ (ps : List Addr) (ks : List (Key × V)), vs = ps.map V.ref ∧ Paired (fun p kv => SqT K H p [kV kv.1, kv.2]) ps ks ∧ DaKv K H ks kvs
  | [], _, _, h, .nil => by
    cases h
    exact ⟨[], [], rfl, .nil, .nil⟩
  | d :: ds, kvs, _, h, .cons h1 h2 => by
    unfold pairsD at h
    split at h
    · rename_i heq
      cases heq
    · rename_i k v r heq
      cases heq
      split at h
      · rename_i k' r' e1 e2
        cases h
        obtain ⟨ps, ks, q1, q2, q3⟩ := pairsD_of e2 h2
        cases h1 with
        | tup g1 g2 =>
          cases g2 with
          | cons g3 g4 =>
            cases g4 with
            | cons g5 g6 =>
              cases g6
              refine ⟨_ :: ps, (k', _) :: ks, by rw [q1]; rfl, .cons ?_ q2, .cons g5 q3⟩
              rw [keyD_Va g3 e1] at g1
              exact g1
      · cases h
    · cases h
theorem al_dct {K : PySem.W.Frag} {H0 H : Hp} {Q : VK} {zs : List (Key × V)} {ds : List (Key × Dt)} (e : Same H0 H) (hd : DaKv K H0 zs ds) (k : ∀ v H0' H', Gr ⟨H0, H, none⟩ H0' H' → Same H0' H' → Da K H0' v (.dct ds) → Q v H') : ∀ p, H p = none → Q (.ref p) (upd H p (.dK zs)) :=
  fun p hp => k _ _ _ (gr_new hp e) (same_new hp e) (.dct upd_same (hd.mono (gr_new (o := .dK zs) hp e).b0))
theorem und_dict (K : PySem.W.Frag) : UnD K (fun x H Q => ∃ (a : Addr) (ps : List Addr) (kvs : List (Key × V)), [x] = [.ref a] ∧ SqL K H a (ps.map V.ref) ∧ Paired (fun p kv => SqT K H p [kV kv.1, kv.2]) ps kvs ∧ ∀ p, H p = none → Q (.ref p) (upd H p (.dK (mergeK [] kvs)))) dictD := by
  intro x d z H0 H s hx hg Q k
  unfold dictD at hg
  split at hg
  · obtain ⟨kvs, h, rfl⟩ := Option.map_eq_some_iff.mp hg
    obtain ⟨a, vs, rfl, h1, h2⟩ := hx
    obtain ⟨ps, ks, rfl, q2, q3⟩ := pairsD_of h h2
    refine ⟨a, ps, ks, rfl, SqL.of h1, ?_, al_dct s (q3.merge .nil) k⟩
    exact Paired.mono (fun p kv h => seqT_mono s h) q2
  · cases hg
theorem de_dict (hc : X.calm = true) (hg : Gl X "dict") (hm : X.mg "dict" = none) (ha : DK X W e f1) (he : starEach (e :: []) X.env = (false, eval e X.env) :: starEach [] X.env := by rfl) : DE X W (.Call (.Name "dict" p) [e] [] pos) (un dictD f1) :=
  de_t1 (call_dictP hc) (und_dict _) hg hm (by decide +kernel) ha (he := he)
end
end DW

set_option Elab.async false
set_option linter.all false
set_option maxRecDepth 100000
set_option maxHeartbeats 4000000
/-! DWL: a, b = x, y by way of a tuple (names that a comprehension takes up) -/
namespace DW
open PySem PySem.Spec PyProof.Rows L2
section
variable {g : Gx} {F : Fm} {W : WX} {σ : L2.St} {H : Hp}
theorem tPar_postT {D : Ends} {fs : List (Rho → R Sl)} {is : List Nat} {Q : List V → Hp → Prop} (h : tS g F W (parP is fs) D σ H) (hQ : ∀ vs H', vs.length = is.length → (∀ p, H' p = none → D.nx (setAll is vs σ) (upd H' p (.tup vs))) → Q vs H') : tP g F W fs σ H Q := by
  obtain ⟨H0, ρ, E, q⟩ := h
  refine ⟨H0, ρ, E, ?_⟩
  unfold parP at q
  cases e : argsP fs ρ with
  | ok ss ρ1 =>
    rw [e] at q
    intro vs H0' H' E' m hl hall hd
    obtain ⟨ρ2, e2, k⟩ := nxO_post (PostS.mono m.b0 q)
    have hlen : ∀ (is : List Nat) (ss : List Sl) (ρ ρ' : Rho), putP is ss ρ = some ρ' → ss.length = is.length := by
      intro is
      induction is with
      | nil => intro ss ρ ρ' e; cases ss with | nil => rfl | cons _ _ => cases e
      | cons i is ih =>
        intro ss ρ ρ' e
        cases ss with
        | nil => cases e
        | cons s ss =>
          unfold putP at e
          cases e1 : putR i s ρ with
          | none => rw [e1] at e; cases e
          | some ρ1 => rw [e1] at e; rw [List.length_cons, List.length_cons, ih ss ρ1 ρ' e]
    refine hQ vs H' (by rw [hl]; exact hlen is ss ρ1 ρ2 e2) fun p hp => ?_
    have gg : Gr ⟨H0', H', none⟩ H0' (upd H' p (.tup vs)) := gr_newO hp
    refine k _ _ (put_all is vs ss (E'.grow gg (same_newO hp E'.ex)) hl (fun i v s hv hs => ?_) hd e2)
    obtain ⟨q1, q2, q3⟩ := hall i v s hv hs
    exact ⟨q1.grow gg.w, q2, fun o a ea z => E.notOwn (q3 o a ea) (m.sub a z)⟩
  | ex x ρ1 => rw [e] at q; exact q σ
  | bad => rw [e] at q; exact q
end
section
variable {X : Cx} {W : WX} {a b c e : Expr} {es : List Expr} {pos p p2 p3 : Pos} {fs : List (Rho → R Sl)}
theorem ds_parT2 {i j : Nat} {x y : Str} {px py pt : Pos} {kt k2 pt2} (hc : X.calm = true) (hN : X.N.Nodup) (ha : DPs X W [a, b] fs)
    (hi : X.N[i]? = some x := by rfl) (hj : X.N[j]? = some y := by rfl) (hx : Loc X.env.scope x := by first | exact .inl rfl | exact .inr rfl) (hy : Loc X.env.scope y := by first | exact .inl rfl | exact .inr rfl)
    (hfx : X.fn x = true ∨ X.env.scope.names.lookup x = some .local := by first | exact .inl rfl | exact .inr rfl) (hfy : X.fn y = true ∨ X.env.scope.names.lookup y = some .local := by first | exact .inl rfl | exact .inr rfl)
    (hs : swapsWithSole [.Tuple [.Name x px, .Name y py] kt pt] (.Tuple [a, b] k2 pt2) pos.line X.env = pure false := by rfl) (hw : swappedStores [.Tuple [.Name x px, .Name y py] kt pt] (.Tuple [a, b] k2 pt2) X.env = pure none := by rfl)
    (h1 : (assignEach [.Tuple [.Name x px, .Name y py] kt pt] X.env).map (·.2) = [assign (.Tuple [.Name x px, .Name y py] kt pt) X.env] := by rfl)
    (hn : (assignEach [.Name x px, .Name y py] X.env).length = 2 := by rfl) (hst : (assignEach [.Name x px, .Name y py] X.env).findIdx? (·.1) = none := by rfl)
    (hs1 : (assignEach [.Name x px, .Name y py] X.env).map (·.2) = assign (.Name x px) X.env :: (assignEach [.Name y py] X.env).map (·.2) := by rfl)
    (hs2 : (assignEach [.Name y py] X.env).map (·.2) = assign (.Name y py) X.env :: (assignEach [] X.env).map (·.2) := by rfl) :
    DS X W (.Assign [.Tuple [.Name x px, .Name y py] kt pt] (.Tuple [a, b] k2 pt2) pos) (parP [i, j] fs) := fun F =>
  PS.wk (ps_asg (pe_tup (ha F)) (pg_tup hc (pgs_cons (pg_name hN hi hx hfx) (pgs_cons (pg_name hN hj hy hfy) pgs_nil hs2) hs1) hn hst) hs hw h1) fun D σ H h => tPar_postT h fun vs H' hl k => by
    match vs, hl with
    | [v, w], _ => exact ⟨by show 2 ≤ sizeLine; decide, fun p hp => ⟨p, [v, w], rfl, .inl (.inl upd_same), rfl, v, [w], rfl, w, [], rfl, rfl, k p hp⟩⟩
end
end DW

set_option Elab.async false
set_option linter.all false
set_option maxRecDepth 100000
set_option maxHeartbeats 4000000
/-! DWM: l.count(x), sorted(d.items()), sorted(set(l)) -/
namespace DW
open PySem PySem.Spec PyProof.Rows L2
/-! ### several new objects at once -/
def putMany : Hp → List (Addr × HO) → Hp
  | H, [] => H
  | H, p :: r => putMany (upd H p.1 p.2) r
theorem putMany_off {b : Addr} : ∀ (r : List (Addr × HO)) (H : Hp), b ∉ r.map (·.1) → putMany H r b = H b
  | [], _, _ => rfl
  | p :: r, H, h => by
    rw [List.map_cons, List.mem_cons, not_or] at h
    show putMany (upd H p.1 p.2) r b = H b
    rw [putMany_off r _ h.2, upd_ne h.1]
theorem putMany_at : ∀ (r : List (Addr × HO)) (H : Hp) (p : Addr × HO), (r.map (·.1)).Nodup → p ∈ r → putMany H r p.1 = some p.2
  | [], _, _, _, h => (List.not_mem_nil h).elim
  | q :: r, H, p, nd, h => by
    rw [List.map_cons, List.nodup_cons] at nd
    show putMany (upd H q.1 q.2) r p.1 = some p.2
    rcases List.mem_cons.mp h with e | e
    · subst e
      rw [putMany_off r _ nd.1, upd_same]
    · exact putMany_at r _ p nd.2 e
theorem learn {X : Cx} {pins : List (Addr × Obj)} {σ : L2.St} {tk : Nat} : ∀ (news : List (Addr × HO)) {H : Hp} {s : Shared} {hF : Heap}, Inv X pins σ H s → (∀ b o, s.heap.get? b = some o → hF.get? b = some o) →
    (∀ p ∈ news, s.heap.get? p.1 = none ∧ H p.1 = none) → (news.map (·.1)).Nodup → (∀ p ∈ news, ∀ H' h', h'.get? p.1 = hF.get? p.1 → ObjOk X.prog X.w H' h' p.1 p.2) → Inv X pins σ (putMany H news) { s with heap := hF, toks := tk }
  | [], H, s, hF, I, k, _, _, _ => I.kept k
  | p :: r, H, s, hF, I, k, hn, nd, ok => by
    rw [List.map_cons, List.nodup_cons] at nd
    obtain ⟨G, g1, g2⟩ := restrict hF fun b => decide (b ∉ r.map (·.1))
    have gi : ∀ b, b ∉ r.map (·.1) → G.get? b = hF.get? b := fun b hb => g1 b (decide_eq_true hb)
    have go : ∀ b, b ∈ r.map (·.1) → G.get? b = none := fun b hb => g2 b (decide_eq_false fun z => z hb)
    have old : ∀ b o, s.heap.get? b = some o → G.get? b = some o := fun b o e => by
      rw [gi b fun z => ?_]
      · exact k b o e
      · obtain ⟨q, hq, rfl⟩ := List.mem_map.mp z
        rw [(hn q (List.mem_cons_of_mem _ hq)).1] at e
        cases e
    obtain ⟨n1, n2⟩ := hn p (List.mem_cons_self ..)
    have J : Inv X pins σ (upd H p.1 p.2) { s with heap := G, toks := tk } := I.laidN (t' := tk) old n1 n2 (ok p (List.mem_cons_self ..) _ _ (gi p.1 nd.1))
    have := learn (tk := tk) r (s := { s with heap := G, toks := tk }) (hF := hF) J (fun b o e => by
      by_cases hb : b ∈ r.map (·.1)
      · rw [go b hb] at e; cases e
      · rw [gi b hb] at e; exact e) (fun q hq => ⟨go _ (List.mem_map.mpr ⟨q, hq, rfl⟩), by
        have hne : q.1 ≠ p.1 := fun z => nd.1 (by rw [← z]; exact List.mem_map.mpr ⟨q, hq, rfl⟩)
        rw [upd_ne hne]
        exact (hn q (List.mem_cons_of_mem _ hq)).2⟩) nd.2 (fun q hq => ok q (List.mem_cons_of_mem _ hq))
    exact this
/-- many new objects, laid into the base -/
theorem gr_many {H0 H H' : Hp} (news : List Addr) (e : Same H0 H) (k : ∀ b o, H b = some o → H' b = some o) (hn : ∀ b ∈ news, H b = none) :
    Gr ⟨H0, H, none⟩ (fun b => if b ∈ news then H' b else H0 b) H' ∧ Same (fun b => if b ∈ news then H' b else H0 b) H' := by
  have h0 : ∀ b ∈ news, H0 b = none := fun b hb => by
    cases q : H0 b with
    | none => rfl
    | some o =>
      have := e b o q
      rw [hn b hb] at this
      cases this
  refine ⟨⟨fun b o q => ?_, fun b o q _ => k b o q, fun b q q0 => ?_⟩, fun b o q => ?_⟩
  · change H0 b = some o at q
    show (if b ∈ news then H' b else H0 b) = some o
    rw [if_neg fun z => by rw [h0 b z] at q; cases q]
    exact q
  · show (if b ∈ news then H' b else H0 b) = none
    rw [if_neg fun z => q (hn b z)]
    exact q0
  · change (if b ∈ news then H' b else H0 b) = some o at q
    split at q
    · exact q
    · exact k b o (e b o q)
/-! ### sorted(d.items()), numbers by numbers -/
def leP (p q : Int × Int) : Prop := p.1 < q.1 ∨ (p.1 = q.1 ∧ p.2 ≤ q.2)
def rSortIt2 : V → Hp → VK → Prop := fun x H Q => ∃ (d : Addr) (ps : List (Int × Int)), x = .ref d ∧ H d = some (.dK (ps.map fun p => (Sum.inl p.1, V.int p.2))) ∧
  ∀ (H' : Hp) (l : Addr) (ts : List Addr) (qs : List (Int × Int)), (∀ b o, H b = some o → H' b = some o) → (∀ b ∈ l :: ts, H b = none) → qs.Perm ps → qs.Pairwise leP → H' l = some (.lst (ts.map V.ref)) → Paired (fun t (q : Int × Int) => H' t = some (.tup [.int q.1, .int q.2])) ts qs → Q (.ref l) H'
def tSortIt2 (te : TE) : TE := fun σ H Q => te σ H fun x H1 => rSortIt2 x H1 Q
theorem lexB_leP {p q : Int × Int} (h : SrtO.lexB q p = false) : leP p q := by
  have a := SrtO.lexB_no.mp h
  unfold leP
  omega
theorem pairs_get {prog : Program} {w : World} {es : List DictEntry} {vs : List (Key × Value)} (h : Pairs (mixKind prog w) es vs) : ∀ {j : Nat} {en : DictEntry}, es[j]? = some en → ∃ kv, vs[j]? = some kv ∧ keyIs kv.1 en.key = true ∧ en.val = kv.2 := by
  induction h with
  | nil => intro j en e; simp at e
  | cons h1 h2 _ ih =>
    intro j en e
    cases j with
    | zero =>
      simp at e
      subst e
      exact ⟨_, rfl, h1, h2⟩
    | succ j => exact ih (by simpa using e)
theorem paired_at {α β : Type} {F : α → β → Prop} {xs : List α} {ys : List β} (h : Paired F xs ys) : ∀ {i : Nat} {y : β}, ys[i]? = some y → ∃ x, xs[i]? = some x ∧ F x y := by
  induction h with
  | nil => intro i y e; simp at e
  | cons r _ ih =>
    intro i y e
    cases i with
    | zero =>
      simp at e
      subst e
      exact ⟨_, rfl, r⟩
    | succ i => exact ih (by simpa using e)
section
variable {X : Cx} {e : Expr} {te : TE} {p apos cpos pos : Pos}
theorem pe_sortIt2 (hc : X.calm = true) (he : PE X e te) (hg : Gl X "sorted") (hm : X.mg "sorted" = none) (hb : attributeBase e "items" X.env (eval e X.env) = eval e X.env := by rfl) (hl : (apos.endLine == cpos.line) = true := by rfl)
    (hs : starEach [.Call (.Attribute e "items" apos) [] [] cpos] X.env = (false, eval (.Call (.Attribute e "items" apos) [] [] cpos) X.env) :: starEach [] X.env := by rfl) :
    PE X (.Call (.Name "sorted" p) [.Call (.Attribute e "items" apos) [] [] cpos] [] pos) (tSortIt2 te) := by
  refine ⟨fun pins s σ H Q I hq => ?_⟩
  refine wpAny_Call_Name_kw (ld_blt I hg hm boot_sorted ?_)
  refine PyProof.Rows.callWith_builtin1 ?_ hs rfl
  rw [hs]
  change wpAny _ _ (spliced ((false, eval (.Call (.Attribute e "items" apos) [] [] cpos) X.env) :: backTo pos (starEach [] X.env))) _ _ s
  refine Calls.spliced_cons (wpAny_Call_method (T := "dict") (id := "dict.items") hb rfl hl F.plainAttrs_dict F.slot_dict_items F.type_dict_items (thn (he.run pins s σ H _ I hq) fun u s1 z => ?_))
  obtain ⟨x, H1, I1, rx, d, ps, rfl, hd, q⟩ := z
  obtain rfl : u = Value.ref d := rx
  obtain ⟨hz, hs0, vs, kv, hdo⟩ := I1.hok d _ hd
  refine ⟨hdo.typeIs, hdo.mapOf.noDict, ?_⟩
  change wpAny _ _ (callWith cpos (.builtin "dict.items") [.ref d] [] []) _ X.xe s1
  have hdo' := hdo
  obtain ⟨o, es, ep, ho, hx, hdat, hks, hpr, hnd⟩ := hdo'
  have I2 : Inv X pins σ H1 { s1 with heap := s1.heap.push { cls := .type "dict_items", data := .fields #[.ref d] } } := I1.kept (t' := s1.toks) fun b ob z => Heap.get?_push_of_some _ z
  refine method_meetsIn F.slot_dict_items F.entry_dict_items rfl (PySem.evalArgs_none ⟨rfl, hdo.typeIs, F.args_dict_items_1 _, _, meets_dict_items (mixKind X.prog X.w) d hs0, ⟨vs, hdo⟩, Calls.spliced_nil ?_⟩)
  have hlen : es.size = ps.length := by
    rw [← Array.length_toList, hpr.length, ← Paired.length kv, List.length_map]
  rw [List.length_map] at hz
  refine DT.sortedI (es := es) (ep := ep) (I1.ok.hd hc) ⟨_, Heap.get?_push_size _ rfl, rfl, rfl⟩ ⟨o, Heap.get?_push_of_some _ ho, hx, hdat⟩ (by rw [hlen]; exact hz) fun h' tk as hk hlt hal hG => ?_
  have nd : as.Nodup := List.Pairwise.imp (fun h => Nat.ne_of_lt h) hG.rise
  have lak : as.length = ps.length := by omega
  -- the pairs
  have pr : ∀ (j : Nat) (b : Addr), as[j]? = some b → ∃ (y : Int × Int) (t1 t2 : Tok), ps[j]? = some y ∧ h'.get? b = some { cls := .type "tuple", data := .seq #[Value.int y.1 t1, Value.int y.2 t2] } := by
    intro j b hj
    obtain ⟨en, h1, h2⟩ := hG.pairs j b hj
    rw [← Array.getElem?_toList] at h1
    obtain ⟨kv', h3, h4, h5⟩ := pairs_get hpr h1
    obtain ⟨y0, h6, h7, h8⟩ := paired_at kv h3
    rw [List.getElem?_map] at h6
    obtain ⟨y, h9, rfl⟩ := Option.map_eq_some_iff.mp h6
    dsimp only at h7 h8
    obtain ⟨t2, e2⟩ := h8
    rw [← h7] at h4
    obtain ⟨t1, e1⟩ : ∃ t1, en.key = Value.int y.1 t1 := by
      rcases keyIs_shape h4 with ⟨i, t, e1, e2⟩ | ⟨z, t, e1, e2⟩
      · cases e1
        exact ⟨t, e2⟩
      · cases e1
    refine ⟨y, t1, t2, h9, ?_⟩
    rw [h2, e1, h5, e2]
  obtain ⟨k, hkk⟩ : ∃ k : Value → Int × Int, ∀ (j : Nat) (b : Addr) y, as[j]? = some b → ps[j]? = some y → k (.ref b) = y := by
    refine ⟨fun v => match v with | .ref b => (ps[as.idxOf b]?).getD (0, 0) | _ => (0, 0), fun j b y h1 h2 => ?_⟩
    obtain ⟨hj, e1⟩ := List.getElem?_eq_some_iff.mp h1
    have e2 : as.idxOf b = j := by
      rw [← e1]
      exact nd.idxOf_getElem j hj
    show (ps[as.idxOf b]?).getD (0, 0) = y
    rw [e2, h2]
    rfl
  have hsz : (as.map Value.ref).length ≤ sizeLine := by rw [List.length_map, lak]; exact hz
  have hoL : (h'.push { cls := .type "list", data := .seq (as.map Value.ref).toArray }).get? h'.objs.size = some (seqObj "list" (as.map Value.ref).toArray 0) := Heap.get?_push_size _ rfl
  have isP : ∀ v ∈ as.map Value.ref, Srt.IsPair (h'.push { cls := .type "list", data := .seq (as.map Value.ref).toArray }) v (k v).1 (k v).2 := fun v hv => by
    obtain ⟨b, hb, rfl⟩ := List.mem_map.mp hv
    obtain ⟨j, hj⟩ := List.mem_iff_getElem?.mp hb
    obtain ⟨y, t1, t2, h1, h2⟩ := pr j b hj
    rw [hkk j b y hj h1]
    exact ⟨b, _, t1, t2, _, rfl, Heap.get?_push_of_some _ h2, rfl, rfl⟩
  refine wpAny_call_entry slot_list_sort ⟨_, hoL, rfl⟩ entry_list_sort (SrtO.list_sort_ord (SrtO.swo_lex k) hoL hsz (fun h2 => SrtO.pairs_sortableO (by omega) isP fun oL eL => ?_) fun out h1 h2 => ⟨.none, rfl, ?_⟩) (args_list_sort _)
  · have e' : some oL = some (seqObj "list" (as.map Value.ref).toArray 0) := eL.symm.trans hoL
    cases e'
    intro c
    exact absurd (Value.type.inj c) (by decide)
  · obtain ⟨cc, hcc⟩ := sortedHeap_at (vs := as.map Value.ref) (out := out.toArray) hoL
    -- the addresses in their new order
    have hout : ∀ v ∈ out, ∃ b ∈ as, v = Value.ref b := fun v hv => by
      obtain ⟨b, hb, rfl⟩ := List.mem_map.mp (h2.perm.mem_iff.mp hv)
      exact ⟨b, hb, rfl⟩
    obtain ⟨ts, hts⟩ : ∃ ts : List Addr, out = ts.map Value.ref := by
      clear h1 h2 hcc
      induction out with
      | nil => exact ⟨[], rfl⟩
      | cons v out ih =>
        obtain ⟨ts, e⟩ := ih fun u hu => hout u (List.mem_cons_of_mem _ hu)
        obtain ⟨b, _, rfl⟩ := hout v (List.mem_cons_self ..)
        exact ⟨b :: ts, by rw [e]; rfl⟩
    subst hts
    have tp : ts.Perm as := by
      have := h2.perm.map fun v => match v with | Value.ref b => b | _ => 0
      rw [List.map_map, List.map_map] at this
      have e1 : ∀ l : List Addr, l.map ((fun v => match v with | Value.ref b => b | _ => 0) ∘ Value.ref) = l := fun l => by
        conv => rhs; rw [← List.map_id l]
        exact List.map_congr_left fun _ _ => rfl
      rwa [e1, e1] at this
    have hperm : ((ts.map fun b => k (.ref b))).Perm ps := by
      have e2 : as.map (fun b => k (.ref b)) = ps := by
        refine List.ext_getElem? fun j => ?_
        rw [List.getElem?_map]
        cases ej : as[j]? with
        | none =>
          have := List.getElem?_eq_none_iff.mp ej
          rw [List.getElem?_eq_none (by omega)]
          rfl
        | some b =>
          obtain ⟨y, _, _, h3, _⟩ := pr j b ej
          rw [h3]
          exact congrArg some (hkk j b y ej h3)
      have := tp.map fun b => k (.ref b)
      rwa [e2] at this
    have hsort : (ts.map fun b => k (.ref b)).Pairwise leP := by
      rw [List.pairwise_map]
      have := List.pairwise_map.mp h1
      exact this.imp fun z => lexB_leP z
    have tup : ∀ b ∈ ts, ∃ (t1 t2 : Tok), h'.get? b = some { cls := .type "tuple", data := .seq #[Value.int (k (.ref b)).1 t1, Value.int (k (.ref b)).2 t2] } := fun b hb => by
      obtain ⟨j, hj⟩ := List.mem_iff_getElem?.mp (tp.mem_iff.mp hb)
      obtain ⟨y, t1, t2, h3, h4⟩ := pr j b hj
      rw [hkk j b y hj h3]
      exact ⟨t1, t2, h4⟩
    have hF : ∀ b ob, h'.get? b = some ob → (sortedHeap (h'.push { cls := .type "list", data := .seq (as.map Value.ref).toArray }) h'.objs.size (as.map Value.ref) (ts.map Value.ref).toArray).get? b = some ob := fun b ob eb => by
      have hlt' := Heap.lt_size eb
      rw [sortedHeap_old (Nat.ne_of_lt hlt') (by rw [size_push']; exact Nat.lt_succ_of_lt hlt')]
      exact Heap.get?_push_of_some _ eb
    have big : ∀ b ∈ ts, s1.heap.objs.size < b := fun b hb => by
      have h9 := hG.above b (tp.mem_iff.mp hb)
      rw [size_push'] at h9
      exact Nat.lt_trans (Nat.lt_succ_self _) h9
    have big2 : s1.heap.objs.size + 1 < h'.objs.size := by
      rw [size_push'] at hlt
      exact hlt
    have small : ∀ b ∈ ts, b < h'.objs.size := fun b hb => by
      obtain ⟨_, _, h3⟩ := tup b hb
      exact Heap.lt_size h3
    have ndt : ts.Nodup := tp.nodup_iff.mpr nd
    have fresh2 : ∀ b, s1.heap.objs.size < b → (s1.heap.push { cls := .type "dict_items", data := .fields #[.ref d] }).get? b = none := fun b hb => by
      cases eb : (s1.heap.push { cls := .type "dict_items", data := .fields #[.ref d] }).get? b with
      | none => rfl
      | some ob =>
        have h9 := Heap.lt_size eb
        rw [size_push'] at h9
        exact absurd (Nat.lt_of_lt_of_le hb (Nat.le_of_lt_succ h9)) (Nat.lt_irrefl _)
    have J := learn (tk := tk) ((h'.objs.size, HO.lst (ts.map V.ref)) :: ts.map fun b => (b, HO.tup [.int (k (.ref b)).1, .int (k (.ref b)).2])) I2 (fun b ob z => hF b ob (hk b ob z)) (fun pp hpp => ?_) ?_ (fun pp hpp H' hh e1 => ?_)
    · refine ⟨.ref h'.objs.size, _, J, rfl, q _ h'.objs.size ts _ (fun b ob z => ?_) (fun b hb => ?_) hperm hsort ?_ ?_⟩
      · rw [putMany_off]
        · exact z
        · intro hm
          have hlt1 : (show Nat from b) < s1.heap.objs.size := by
            refine Nat.lt_of_not_le fun hle => ?_
            rw [I1.hok.fresh hle] at z
            cases z
          rw [List.map_cons, List.map_map] at hm
          rcases List.mem_cons.mp hm with h3 | h3
          · change b = h'.objs.size at h3
            subst h3
            exact absurd (Nat.lt_trans hlt1 (Nat.lt_trans (Nat.lt_succ_self _) big2)) (Nat.lt_irrefl _)
          · obtain ⟨c, hc1, rfl⟩ := List.mem_map.mp h3
            exact absurd (Nat.lt_trans hlt1 (big c hc1)) (Nat.lt_irrefl _)
      · rcases List.mem_cons.mp hb with rfl | hb
        · exact I1.hok.fresh (Nat.le_of_lt (Nat.lt_trans (Nat.lt_succ_self _) big2))
        · exact I1.hok.fresh (Nat.le_of_lt (big b hb))
      · refine putMany_at _ _ (h'.objs.size, _) ?_ (List.mem_cons_self ..)
        rw [List.map_cons, List.map_map, List.nodup_cons]
        refine ⟨fun hm => ?_, ?_⟩
        · obtain ⟨c, hc1, e3⟩ := List.mem_map.mp hm
          change c = h'.objs.size at e3
          exact absurd (e3 ▸ small c hc1) (Nat.lt_irrefl _)
        · rw [show ((fun x : Addr × HO => x.1) ∘ fun b => (b, HO.tup [.int (k (.ref b)).1, .int (k (.ref b)).2])) = id from rfl, List.map_id]
          exact ndt
      · have key : ∀ l : List Addr, (∀ b ∈ l, b ∈ ts) → Paired (fun t (y : Int × Int) => putMany H1 ((h'.objs.size, HO.lst (ts.map V.ref)) :: ts.map fun b => (b, HO.tup [.int (k (.ref b)).1, .int (k (.ref b)).2])) t = some (.tup [.int y.1, .int y.2])) l (l.map fun b => k (.ref b)) := by
          intro l
          induction l with
          | nil => intro _; exact .nil
          | cons b l ih =>
            intro hl
            refine .cons ?_ (ih fun c hc => hl c (List.mem_cons_of_mem _ hc))
            refine putMany_at _ _ (b, HO.tup [.int (k (.ref b)).1, .int (k (.ref b)).2]) ?_ (List.mem_cons_of_mem _ (List.mem_map.mpr ⟨b, hl b (List.mem_cons_self ..), rfl⟩))
            rw [List.map_cons, List.map_map, List.nodup_cons]
            refine ⟨fun hm => ?_, ?_⟩
            · obtain ⟨c, hc1, e3⟩ := List.mem_map.mp hm
              change c = h'.objs.size at e3
              exact absurd (e3 ▸ small c hc1) (Nat.lt_irrefl _)
            · rw [show ((fun x : Addr × HO => x.1) ∘ fun b => (b, HO.tup [.int (k (.ref b)).1, .int (k (.ref b)).2])) = id from rfl, List.map_id]
              exact ndt
        exact key ts fun _ z => z
    · rcases List.mem_cons.mp hpp with rfl | hpp
      · exact ⟨fresh2 _ (Nat.lt_trans (Nat.lt_succ_self _) big2), I1.hok.fresh (Nat.le_of_lt (Nat.lt_trans (Nat.lt_succ_self _) big2))⟩
      · obtain ⟨b, hb, rfl⟩ := List.mem_map.mp hpp
        exact ⟨fresh2 _ (big b hb), I1.hok.fresh (Nat.le_of_lt (big b hb))⟩
    · rw [List.map_cons, List.map_map, List.nodup_cons]
      refine ⟨fun hm => ?_, ?_⟩
      · obtain ⟨c, hc1, e3⟩ := List.mem_map.mp hm
        change c = h'.objs.size at e3
        exact absurd (e3 ▸ small c hc1) (Nat.lt_irrefl _)
      · rw [show ((fun x : Addr × HO => x.1) ∘ fun b => (b, HO.tup [.int (k (.ref b)).1, .int (k (.ref b)).2])) = id from rfl, List.map_id]
        exact ndt
    · rcases List.mem_cons.mp hpp with rfl | hpp
      · refine ⟨by rw [List.length_map]; have := tp.length_eq; omega, ts.map Value.ref, cc, LiI.vals_refs ts, ?_⟩
        exact e1.trans hcc
      · obtain ⟨b, hb, rfl⟩ := List.mem_map.mp hpp
        obtain ⟨t1, t2, h3⟩ := tup b hb
        exact ⟨by show 2 ≤ sizeLine; decide, [Value.int (k (.ref b)).1 t1, Value.int (k (.ref b)).2 t2], .cons ⟨t1, rfl⟩ (.cons ⟨t2, rfl⟩ .nil), _, e1.trans (hF b _ h3), rfl, _, rfl⟩
end
/-! ### the data -/
def pairsI : List (Key × Dt) → Option (List (Int × Int))
  | [] => some []
  | (.inl i, .int j) :: r => (pairsI r).map ((i, j) :: ·)
  | _ => none
def ltPB (p q : Int × Int) : Bool := decide (p.1 < q.1) || (decide (p.1 = q.1) && decide (p.2 ≤ q.2))
def insP (p : Int × Int) : List (Int × Int) → List (Int × Int)
  | [] => [p]
  | q :: r => if ltPB p q = true then p :: q :: r else q :: insP p r
def sortP : List (Int × Int) → List (Int × Int)
  | [] => []
  | p :: r => insP p (sortP r)
theorem ltPB_iff {p q : Int × Int} : ltPB p q = true ↔ leP p q := by
  unfold ltPB leP
  simp only [Bool.or_eq_true, Bool.and_eq_true, decide_eq_true_eq]
theorem leP_total {p q : Int × Int} (h : ¬ ltPB p q = true) : leP q p := by
  rw [ltPB_iff] at h
  unfold leP at h ⊢
  omega
theorem leP_trans {p q r : Int × Int} (h1 : leP p q) (h2 : leP q r) : leP p r := by
  unfold leP at h1 h2 ⊢
  omega
theorem insP_perm (p : Int × Int) : ∀ l, (insP p l).Perm (p :: l)
  | [] => .refl _
  | q :: r => by
    unfold insP
    split
    · exact .refl _
    · exact ((insP_perm p r).cons q).trans (.swap ..)
theorem sortP_perm : ∀ l, (sortP l).Perm l
  | [] => .refl _
  | p :: r => (insP_perm p _).trans ((sortP_perm r).cons p)
theorem insP_sorted (p : Int × Int) : ∀ {l : List (Int × Int)}, l.Pairwise leP → (insP p l).Pairwise leP
  | [], _ => List.pairwise_singleton ..
  | q :: r, h => by
    obtain ⟨h1, h2⟩ := List.pairwise_cons.mp h
    unfold insP
    split
    · rename_i hp
      have hpq := ltPB_iff.mp hp
      exact List.pairwise_cons.mpr ⟨fun y hy => by
        rcases List.mem_cons.mp hy with rfl | hy
        · exact hpq
        · exact leP_trans hpq (h1 y hy), h⟩
    · rename_i hp
      refine List.pairwise_cons.mpr ⟨fun y hy => ?_, insP_sorted p h2⟩
      rcases List.mem_cons.mp ((insP_perm p r).mem_iff.mp hy) with rfl | hy
      · exact leP_total hp
      · exact h1 y hy
theorem sortP_sorted : ∀ l, (sortP l).Pairwise leP
  | [] => .nil
  | p :: r => insP_sorted p (sortP_sorted r)
theorem sortP_one {l m : List (Int × Int)} (h : m.Perm l) (h2 : m.Pairwise leP) : m = sortP l :=
  List.Perm.eq_of_pairwise (fun a b _ _ h1 h2 => by
    unfold leP at h1 h2
    exact Prod.ext (by omega) (by omega)) h2 (sortP_sorted l) (h.trans (sortP_perm l).symm)
def prD2 (q : Int × Int) : Dt := .tup [.int q.1, .int q.2]
def srtItD (d : Dt) : Option Dt := match d with
  | .dct kvs => (pairsI kvs).map fun ps => .lst ((sortP ps).map prD2)
  | _ => none
theorem pairsI_kv {K : PySem.W.Frag} {H : Hp} : ∀ {kvs : List (Key × Dt)} {ps : List (Int × Int)} {ks : List (Key × V)}, pairsI kvs = some ps → DaKv K H ks kvs → ks = ps.map fun p => (Sum.inl p.1, V.int p.2)
  | [], ps, ks, h, d => by
    cases h
    cases d
    rfl
  | (.inl i, .int j) :: r, ps, ks, h, d => by
    obtain ⟨qs, h1, rfl⟩ := Option.map_eq_some_iff.mp h
    cases d with
    | cons d1 d2 =>
      cases d1
      rw [pairsI_kv h1 d2]
      rfl
  | (.inr _, _) :: r, ps, ks, h, d => by cases h
  | (.inl _, .non) :: r, ps, ks, h, d => by cases h
  | (.inl _, .bl _) :: r, ps, ks, h, d => by cases h
  | (.inl _, .str _) :: r, ps, ks, h, d => by cases h
  | (.inl _, .lst _) :: r, ps, ks, h, d => by cases h
  | (.inl _, .tup _) :: r, ps, ks, h, d => by cases h
  | (.inl _, .dct _) :: r, ps, ks, h, d => by cases h
  | (.inl _, .scr _) :: r, ps, ks, h, d => by cases h
theorem und_sortIt (K : PySem.W.Frag) : UnD K rSortIt2 srtItD := by
  intro x d z H0 H s hx hg Q k
  unfold srtItD at hg
  split at hg
  · rename_i kvs
    obtain ⟨ps, h, rfl⟩ := Option.map_eq_some_iff.mp hg
    obtain ⟨a, ks, rfl, h1, h2⟩ := hx
    rw [pairsI_kv h h2] at h1
    refine ⟨a, ps, rfl, h1, fun H' l ts qs kp hn hp hs hl ht => ?_⟩
    rw [← sortP_one hp hs] at k
    obtain ⟨g1, g2⟩ := gr_many (H0 := H0) (H := H) (H' := H') (l :: ts) s kp hn
    refine k (.ref l) _ H' g1 g2 (.lst (xs := ts.map V.ref) (by rw [if_pos (List.mem_cons_self ..)]; exact hl) ?_)
    have key : ∀ (us : List Addr) (rs : List (Int × Int)), (∀ u ∈ us, u ∈ l :: ts) → Paired (fun t (q : Int × Int) => H' t = some (.tup [.int q.1, .int q.2])) us rs → DaAll K (fun b => if b ∈ l :: ts then H' b else H0 b) (us.map V.ref) (rs.map prD2) := by
      intro us rs hu hpr
      induction hpr with
      | nil => exact .nil
      | @cons t q us rs h5 _ ih =>
        refine .cons (.tup (xs := [.int q.1, .int q.2]) (.inl (.inl ?_)) (.cons (.int _) (.cons (.int _) .nil))) (ih fun u h6 => hu u (List.mem_cons_of_mem _ h6))
        show (if t ∈ l :: ts then H' t else H0 t) = _
        rw [if_pos (hu t (List.mem_cons_self ..))]
        exact h5
    exact key ts qs (fun u hu => List.mem_cons_of_mem _ hu) ht
  · cases hg
section
variable {X : Cx} {W : WX} {o : Expr} {f1 : Rho → R Dt} {p apos cpos pos : Pos}
theorem de_sortIt (hc : X.calm = true) (hg : Gl X "sorted") (hm : X.mg "sorted" = none) (ho : DK X W o f1) (hb : attributeBase o "items" X.env (eval o X.env) = eval o X.env := by rfl) (hl : (apos.endLine == cpos.line) = true := by rfl)
    (hs : starEach [.Call (.Attribute o "items" apos) [] [] cpos] X.env = (false, eval (.Call (.Attribute o "items" apos) [] [] cpos) X.env) :: starEach [] X.env := by rfl) :
    DE X W (.Call (.Name "sorted" p) [.Call (.Attribute o "items" apos) [] [] cpos] [] pos) (un srtItD f1) := fun F => PE.wk (pe_sortIt2 hc (ho F) hg hm hb hl hs) fun _ _ _ h => tUn_un (und_sortIt _) h
end
/-! ### l.count(x), numbers -/
def cntD : Dt → Dt → Option Dt
  | .lst xs, .int k => (intsOf xs).map fun ns => .int (ns.count k : Nat)
  | _, _ => none
section
variable {X : Cx} {W : WX} {o e : Expr} {f1 f2 : Rho → R Dt} {apos cpos : Pos}
theorem de_count (ho : DE X W o f1) (he : DE X W e f2) (hbase : attributeBase o "count" X.env (eval o X.env) = eval o X.env := by rfl)
    (hfew : ((backTo cpos (starEach (e :: []) X.env)).all (fun x => !x.1) && (backToKw cpos (keywordEach [] X.env)).all (fun x => x.1.isSome)
      && decide ((e :: ([] : List Expr)).length + ([] : List Keyword).length + (if ([] : List Keyword).isEmpty then 0 else 1) < 30)) = true := by rfl)
    (hline : (apos.endLine == cpos.line) = true := by rfl) (hs : starEach (e :: []) X.env = (false, eval e X.env) :: starEach [] X.env := by rfl) (hplain : (backTo cpos (starEach [] X.env)).any (·.1) = false := by rfl) :
    DE X W (.Call (.Attribute o "count" apos) [e] [] cpos) (meth1 cntD isLst f1 f2) :=
  fun F => PE.wk (pe_bm PySem.F.plainAttrs_list PySem.F.slot_list_count PySem.F.type_list_count mt_lcount (ho F) (pa_cons (he F) pa_nil hs) hbase hfew hline hs hplain) fun σ H Q ⟨H0, ρ, E, q⟩ => by
    refine ⟨H0, ρ, E, ?_⟩
    unfold meth1 at q
    cases e1 : f1 ρ with
    | ok d ρ1 =>
      rw [e1] at q
      dsimp only [R.bind] at q
      intro v B0 B E1 m1 dv
      cases d with
      | lst xs =>
        rw [if_pos (by rfl)] at q
        cases dv with
        | @lst a vs _ h1 h2 =>
          refine ⟨.inl ⟨rfl, _, SqL.of (E1.ex _ _ h1)⟩, B0, ρ1, E1, ?_⟩
          cases e2 : f2 ρ1 with
          | ok y ρ2 =>
            rw [e2] at q
            dsimp only [R.bind] at q
            intro w C0 C E2 m2 d2
            cases e3 : cntD (.lst xs) y with
            | none => rw [e3] at q; exact q.elim
            | some z =>
              rw [e3] at q
              cases y with
              | int k =>
                change (intsOf xs).map _ = some z at e3
                obtain ⟨ns, h3, rfl⟩ := Option.map_eq_some_iff.mp e3
                have h4 := h2.mono m2.b0
                rw [intsOf_eq h3] at h4
                cases d2
                refine ⟨a, ns, k, rfl, rfl, ?_, q _ C0 C E2 (m1.trans m2) (.int _)⟩
                rw [← h4.ints]
                exact SqL.of (E2.ex _ _ (m2.b0 _ _ h1))
              | _ => cases e3
          | ex x ρ1 => rw [e2] at q; exact q
          | bad => rw [e2] at q; exact q
      | _ => exact q.elim
    | ex x ρ1 => rw [e1] at q; exact q
    | bad => rw [e1] at q; exact q
end
end DW

set_option Elab.async false
set_option linter.all false
set_option maxRecDepth 100000
set_option maxHeartbeats 4000000
/-! DWN: sorted(set(l)), numbers -/
namespace DW
open PySem PySem.Spec PyProof.Rows L2
abbrev newS (w : World) : Obj := { cls := .type "set", dict := none, data := .set #[] 0 (.fresh 0 0 (!w.params.followText "set-order")) }
section
variable {P : Program} {w : World} {A : Around} {E : Value → Shared → Prop} {s : Shared}
theorem ints_at {items : Array Value} {ns : List Int} (hz : items.size = ns.length) (hi : IntsAre items.toList ns) (i : Nat) (v : Value) (hv : items[i]? = some v) : ∃ k t, ns[i]? = some k ∧ v = .int k t := by
  have lt : i < ns.length := by rw [← hz]; exact (Array.getElem?_eq_some_iff.mp hv).1
  obtain ⟨t, e⟩ := PyProof.Rows.IntsAre.int_at hi i v (by rw [Array.getElem?_toList]; exact hv)
  refine ⟨ns[i], t, List.getElem?_eq_getElem lt, ?_⟩
  rw [e, List.getD_eq_getElem?_getD, List.getElem?_eq_getElem lt]
  rfl
/-- what the filling of a new set by a list leaves -/
theorem fill_list {R : Result → Shared → Prop} {l S : Addr} {items : Array Value} (ns : List Int) (calm : A.in1.handled = none) (hS : S = s.heap.objs.size) (isl : s.heap.IsList l items) (hi : IntsAre items.toList ns) (few : ns.length + 1 < scanBound)
    (k : ∀ h' tk c, SetR w h' S (fun j => decide (j ∈ ns)) c → c ≤ ns.length → (∀ b o, s.heap.get? b = some o → h'.get? b = some o) → R (.ok (.ret .none)) { s with heap := h', toks := tk }) :
    codeAny (model P w) A (.builtin "set.update.loop" ⟨[.ref S, .ref (s.heap.objs.size + 1)], []⟩) R { s with heap := (s.heap.push (newS w)).push { cls := .type "list_iterator", data := .fields #[.ref l, .int 0 0] } } := by
  subst hS
  have hz : items.size = ns.length := by
    have q := IntsAre.length hi
    rwa [Array.length_toList] at q
  obtain ⟨ol, ho, _⟩ := id isl
  have small : l < s.heap.objs.size := Heap.lt_size ho
  have at1 : (s.heap.push (newS w)).get? s.heap.objs.size = some (newS w) := Heap.get?_push_size _ rfl
  have sz1 : (s.heap.push (newS w)).objs.size = s.heap.objs.size + 1 := size_push' _ _
  have at2 : ((s.heap.push (newS w)).push { cls := .type "list_iterator", data := .fields #[.ref l, .int 0 0] }).get? (s.heap.objs.size + 1) = some { cls := .type "list_iterator", data := .fields #[.ref l, .int 0 0] } := by
    rw [← sz1]
    exact Heap.get?_push_size _ rfl
  have apart : s.heap.objs.size ∉ [s.heap.objs.size + 1, l] := by
    simp only [List.mem_cons, List.not_mem_nil, or_false, not_or]
    exact ⟨Nat.ne_of_lt (Nat.lt_succ_self _), Nat.ne_of_gt small⟩
  refine set_update_ints ((Walks.list calm (s.heap.objs.size + 1) l (Nat.ne_of_lt (Nat.lt_succ_of_lt small)) items).toS) s.heap.objs.size apart ns hz few (ints_at hz hi) items.size 0 _ rfl (Nat.zero_le _)
    ⟨⟨_, at2, rfl, rfl⟩, (isl.push _).push _⟩ ⟨0, Nat.le_refl 0, setR_new_at (Heap.get?_push_of_some _ at1)⟩ fun s' c mv hc hS => ?_
  obtain ⟨h', g', d', t', o'⟩ := s'
  obtain rfl : g' = s.gens := mv.gens
  obtain rfl : d' = s.drawn := mv.drawn
  obtain rfl : o' = s.os := mv.os
  rw [hz] at hc
  refine k h' t' c hS hc fun b o e => mv.heap b o ?_ (Heap.get?_push_of_some _ (Heap.get?_push_of_some _ e))
  have lt := Heap.lt_size e
  simp only [List.mem_cons, List.not_mem_nil, or_false, not_or]
  exact ⟨Nat.ne_of_lt lt, Nat.ne_of_lt (Nat.lt_succ_of_lt lt)⟩
set_option maxHeartbeats 3200000 in
theorem set_of_list {l : Addr} {items : Array Value} (ns : List Int) {Q : Value → Shared → Prop} (calm : A.handled = none) (isl : s.heap.IsList l items) (hi : IntsAre items.toList ns) (few : ns.length + 1 < scanBound)
    (goal : ∀ h' tk c, SetR w h' s.heap.objs.size (fun j => decide (j ∈ ns)) c → c ≤ ns.length → (∀ b o, s.heap.get? b = some o → h'.get? b = some o) → Q (.ref s.heap.objs.size) { s with heap := h', toks := tk }) :
    wpAny (model P w) A (call (.type "set") [.ref l]) Q E s := by
  obtain ⟨_, _, f1⟩ := F.called_set.mro
  have f2 := F.called_set.made
  have f3 := F.called_set.sub
  have f4 := F.called_set.notType
  have f5 := F.called_set.canCreate
  have f6 := F.typeCall_set_1 (.ref l)
  refine wpAny_call (codeAny_of_tree ?_)
  change wpAny _ _ (callAny (.type "set") _) _ _ _
  refine wpAny_pure ⟨Code.quiet_builtin _ (by decide +kernel), codeAny_builtin F.entry_type_call ?_⟩
  rw [Around.under_plain (weight_type_call_type "set" [.ref l] []) rfl]
  repeat (any_goals (first | assumption | wp_step | fail "no step"))
  refine codeAny_mono (code_set_led1 (.ref l) (E := E) (Q₁ := fun obj s₁ => obj = .ref s.heap.objs.size ∧ s₁ = { s with heap := s.heap.push (newS w) }) ⟨rfl, rfl⟩) fun r s₁ hr => ?_
  match r, hr with
  | .error _, hr => exact hr
  | .ok .next, hr => exact hr.elim
  | .ok .brk, hr => exact hr.elim
  | .ok .cont, hr => exact hr.elim
  | .ok (.ret obj), hr =>
    obtain ⟨rfl, rfl⟩ := hr
    have at1 : (s.heap.push (newS w)).get? s.heap.objs.size = some (newS w) := Heap.get?_push_size _ rfl
    have ty1 : Shared.TypeIs { s with heap := s.heap.push (newS w) } (.ref s.heap.objs.size) "set" := ⟨_, at1, rfl⟩
    have f7 := F.called_set.init.lookup
    have f8 := F.called_set.init.bind (.ref s.heap.objs.size)
    repeat (any_goals (first | assumption | wp_step | fail "no step"))
    refine codeAny_mono (codeAny_call_builtin (R := wants (fun r s₂ => r = .none ∧ ∃ h' tk c, s₂ = { s with heap := h', toks := tk } ∧ SetR w h' s.heap.objs.size (fun j => decide (j ∈ ns)) c ∧ c ≤ ns.length ∧ ∀ b o, s.heap.get? b = some o → h'.get? b = some o) E) F.called_set.init.plain F.entry_set_init (check_set_init_1 ty1 ?_)) fun r₂ s₂ hr₂ => ?_
    · have isl' := isl
      obtain ⟨⟨oc, od, oda, osl⟩, ho, hc, nn, hd⟩ := isl'
      simp only at hc hd
      subst hc hd
      have at3 : (s.heap.push (newS w)).get? l = some { cls := .type "list", dict := od, data := .seq items nn, slots := osl } := Heap.get?_push_of_some _ ho
      have n1 := F.sub_list_set
      have n2 := F.sub_list_frozenset
      have n3 : (Value.type "list" == Value.type "dict") = false := by decide
      unfold Builtin.«set.__init__» noKeywords Builtin.Frozenset.updateFrom
      generalize hI : pyIter = PI
      wp_walk
      subst hI
      refine wpAny_pyIter_list (isl.push (newS w)) (wpAny_bind (wpAny_runValue ?_))
      have calm3 : A.in1.in1.in1.handled = none := by simp [calm]
      have sz1 : (s.heap.push (newS w)).objs.size = s.heap.objs.size + 1 := size_push' _ _
      rw [sz1]
      refine fill_list (s := s) ns calm3 rfl isl hi few fun h' tk c a1 a2 a3 => ?_
      change wpAny _ _ _ _ _ _
      refine wpAny_pure ?_
      change wpAny _ _ (ret Value.none) _ _ _
      exact wpAny_pure ⟨rfl, h', tk, c, rfl, a1, a2, a3⟩
    · match r₂, hr₂ with
      | .error _, hr₂ => exact hr₂
      | .ok .next, hr₂ => exact hr₂.elim
      | .ok .brk, hr₂ => exact hr₂.elim
      | .ok .cont, hr₂ => exact hr₂.elim
      | .ok (.ret _), hr₂ =>
        obtain ⟨rfl, h', tk, c, rfl, a1, a2, a3⟩ := hr₂
        repeat (any_goals (first | assumption | wp_step | fail "no step"))
        exact goal _ _ _ a1 a2 a3
/-- sorted(S), a set of numbers, any number of them -/
theorem sorted_setA {a : Addr} {S : Int → Bool} {n : Nat} {Q : Value → Shared → Prop} (T : SetR w s.heap a S n) (calm : A.handled = none) (hn : n ≤ 1000000)
    (goal : ∀ s' p (out : List Value) (c : Nat) (ns : List Int), (∀ b o, s.heap.get? b = some o → s'.heap.get? b = some o) → s'.gens = s.gens → s'.os = s.os → s.heap.objs.size ≤ p →
      s'.heap.get? p = some (seqObj "list" out.toArray c) → IntsAre out ns → ns.Pairwise (· < ·) → (∀ k, k ∈ ns ↔ S k = true) → ns.length = n → Q (.ref p) s') :
    wpAny (model P w) A (call (.builtin "sorted") [.ref a]) Q E s := by
  obtain ⟨o, es, ep, t, ho, hex, hd, g, nd, hm, hb, hf, hen, hr, hl⟩ := T
  refine Calls.call_function_entry kind_sorted plain_sorted entry_sorted (args_sorted1 _) ?_
  unfold Builtin.«sorted»
  refine wpAny_bind (m := checkCount "sorted" 1 1 _) (wpAny_pure (wpAny_bind (collect_set (A := A.in1) calm ⟨o, ho, hex.1, hd⟩ hf hb hr hl fun s1 vs k1 hz g1 o1 pm => ?_)))
  have len : vs.length = n := by rw [pm.length_eq, List.length_map, Array.length_toList]; exact hen
  have isI : IntsAre vs (vs.map Builtin.Re.reRawOf) := ints_of vs fun v hv => by
    obtain ⟨e, he, rfl⟩ := List.mem_map.mp (pm.mem_iff.mp hv)
    obtain ⟨k, tk, e1, _⟩ := g e he
    exact ⟨k, tk, e1⟩
  have pk : (vs.map Builtin.Re.reRawOf).Perm (es.toList.map keyOf) := by
    have q := pm.map Builtin.Re.reRawOf
    rwa [List.map_map] at q
  have lineN : vs.length ≤ sizeLine := by rw [len]; exact sizeM hn
  refine wpAny_bind (wpAny_newList ?_ lineN)
  have atL : (s1.heap.push (seqObj "list" vs.toArray 0)).get? s1.heap.objs.size = some (seqObj "list" vs.toArray 0) := Heap.get?_push_size _ rfl
  refine wpAny_bind (wpAny_holding (wpAny_call_entry slot_list_sort ⟨_, atL, rfl⟩ entry_list_sort (SrtO.list_sort_ord SrtO.swo_int atL lineN (fun h2 => SrtO.ints_sortable isI h2) fun out b1 b2 => ⟨_, rfl, ?_⟩) (args_list_sort _)))
  obtain ⟨c1, c2, c3⟩ := SrtO.ints_out isI b1 b2
  obtain ⟨ec, hec⟩ := sortedHeap_at (vs := vs) (out := out.toArray) atL
  have pn := c2.trans pk
  refine wpAny_pure ⟨_, rfl, goal _ s1.heap.objs.size out ec _ (fun b u e => ?_) g1 o1 hz hec c1 (lt_of_le_nodup _ c3 (pn.nodup_iff.mpr nd)) (fun k => by rw [pn.mem_iff, ← hm k]) ?_⟩
  · have q := k1 b u e
    have lt := Heap.lt_size q
    change (sortedHeap (s1.heap.push (seqObj "list" vs.toArray 0)) s1.heap.objs.size vs out.toArray).get? b = some u
    rw [sortedHeap_old (Nat.ne_of_lt lt) (by rw [size_push']; exact Nat.lt_succ_of_lt lt)]
    exact Heap.get?_push_of_some _ q
  · rw [pn.length_eq, List.length_map, Array.length_toList]
    exact hen
end
def tSrtSet (K : PySem.W.Frag) (ta : TE) : TE := fun σ H Q => ta σ H fun x H1 => ∃ (l : Addr) (ns : List Int), x = .ref l ∧ SqL K H1 l (ns.map V.int) ∧ ns.length ≤ 4000 ∧
  ∀ (out : List Int) (p : Addr), out.Pairwise (· < ·) → (∀ k, k ∈ out ↔ k ∈ ns) → H1 p = none → Q (.ref p) (upd H1 p (.lst (out.map V.int)))
theorem pe_srtSet {X : Cx} {a : Expr} {ta : TE} {p p2 q pos : Pos} (hc : X.calm = true) (hg : Gl X "sorted") (hm : X.mg "sorted" = none) (hg2 : Gl X "set") (hm2 : X.mg "set" = none) (ha : PE X a ta)
    (na : starEach [a] X.env = (false, eval a X.env) :: starEach [] X.env := by rfl) : PE X (.Call (.Name "sorted" p) [.Call (.Name "set" p2) [a] [] q] [] pos) (tSrtSet X.K ta) := by
  refine ⟨fun pins s σ H Q I h => ?_⟩
  refine Call_ (ld_blt I hg hm boot_sorted (PyProof.Rows.callWith_builtin1 (PyProof.Rows.args_cons (Call_ (ld_blt I hg2 hm2 boot_set ?_)) rfl) rfl rfl))
  refine PyProof.Rows.callWith_type1 (PyProof.Rows.args_cons (thn (ha.run pins s σ H _ I h) fun v s1 z => PyProof.Rows.args_nil ?_) na) na rfl
  obtain ⟨x, H1, I1, r1, l, ns, rfl, sq, few, k⟩ := z
  cases r1
  obtain ⟨its, r, pl, hz⟩ := I1.list sq
  have isI : IntsAre its.toArray.toList ns := by
    rw [List.toList_toArray]
    exact r.ints
  refine set_of_list ns (I1.ok.hd hc) pl.isList isI (by unfold scanBound; omega) fun h' tk c a1 a2 a3 => PyProof.Rows.args_nil ?_
  have I2 : Inv X pins σ H1 { s1 with heap := h', toks := tk } := I1.kept a3
  refine sorted_setA (s := { s1 with heap := h', toks := tk }) a1 (I1.ok.hd hc) (by omega) fun s' pp out cc ms b1 b2 b3 b4 b5 b6 b7 b8 b9 => ?_
  have hlen : (ms.map V.int).length ≤ sizeLine := by rw [List.length_map, b9]; exact sizeM (by omega)
  have J : Inv X pins σ (upd H1 pp (.lst (ms.map V.int))) { ({ s1 with heap := h', toks := tk } : Shared) with heap := s'.heap, gens := s'.gens, drawn := s'.drawn, toks := s'.toks } :=
    I2.call (ch := []) (Un.laid b1 b4 (I2.hok.fresh b4)) (I2.hok.laid b1 b4 ⟨hlen, out, cc, vals_of_ints b6, b5⟩) (by rw [b2]; exact I2.bare) (fun _ z => nomatch z)
  have e : s' = { ({ s1 with heap := h', toks := tk } : Shared) with heap := s'.heap, gens := s'.gens, drawn := s'.drawn, toks := s'.toks } := by
    cases s'
    cases s1
    cases b3
    rfl
  rw [e]
  exact ⟨.ref pp, _, J, rfl, k ms pp b7 (fun z => by rw [b8 z, decide_eq_true_eq]) (I2.hok.fresh b4)⟩
/-! ### the data -/
def setI : List Int → List Int
  | [] => []
  | n :: ns => if n ∈ ns then setI ns else n :: setI ns
theorem mem_setI {k : Int} : ∀ {ns : List Int}, k ∈ setI ns ↔ k ∈ ns
  | [] => Iff.rfl
  | n :: ns => by
    unfold setI
    split
    · rename_i h
      rw [mem_setI, List.mem_cons]
      exact ⟨.inr, fun z => z.elim (fun e => e ▸ h) id⟩
    · rw [List.mem_cons, List.mem_cons, mem_setI]
theorem setI_nodup : ∀ ns : List Int, (setI ns).Nodup
  | [] => .nil
  | n :: ns => by
    unfold setI
    split
    · exact setI_nodup ns
    · rename_i h
      exact List.nodup_cons.mpr ⟨fun z => h (mem_setI.mp z), setI_nodup ns⟩
def srtSetD (d : Dt) : Option Dt := match d with
  | .lst xs => (intsOf xs).bind fun ns => if ns.length ≤ 4000 then some (.lst ((sortI (setI ns)).map .int)) else none
  | _ => none
theorem srtSet_one {out ns : List Int} (h : out.Pairwise (· < ·)) (hm : ∀ k, k ∈ out ↔ k ∈ ns) : out = sortI (setI ns) :=
  sortI_one ((List.perm_ext_iff_of_nodup (h.imp fun z => Int.ne_of_lt z) (setI_nodup ns)).mpr fun k => by rw [hm, mem_setI]) (h.imp fun z => Int.le_of_lt z)
theorem und_srtSet (K : PySem.W.Frag) : UnD K (fun x H Q => ∃ (l : Addr) (ns : List Int), x = .ref l ∧ SqL K H l (ns.map V.int) ∧ ns.length ≤ 4000 ∧ ∀ (out : List Int) (p : Addr), out.Pairwise (· < ·) → (∀ k, k ∈ out ↔ k ∈ ns) → H p = none → Q (.ref p) (upd H p (.lst (out.map V.int)))) srtSetD := by
  intro x d z H0 H s hx hg Q k
  unfold srtSetD at hg
  split at hg
  · obtain ⟨ns, h, hg⟩ := Option.bind_eq_some_iff.mp hg
    split at hg
    · rename_i hl
      cases hg
      obtain ⟨a, vs, rfl, h1, h2⟩ := hx
      rw [intsOf_eq h] at h2
      rw [h2.ints] at h1
      refine ⟨a, ns, rfl, SqL.of h1, hl, fun out p b1 b2 => ?_⟩
      rw [srtSet_one b1 b2]
      exact al_lst s (daInts _) k p
    · cases hg
  · cases hg
theorem de_srtSet {X : Cx} {W : WX} {a : Expr} {f1 : Rho → R Dt} {p p2 q pos : Pos} (hc : X.calm = true) (hg : Gl X "sorted") (hm : X.mg "sorted" = none) (hg2 : Gl X "set") (hm2 : X.mg "set" = none) (ha : DK X W a f1)
    (na : starEach [a] X.env = (false, eval a X.env) :: starEach [] X.env := by rfl) : DE X W (.Call (.Name "sorted" p) [.Call (.Name "set" p2) [a] [] q] [] pos) (un srtSetD f1) :=
  fun F => PE.wk (pe_srtSet hc hg hm hg2 hm2 (ha F) na) fun _ _ _ h => tUn_un (und_srtSet _) h
end DW
namespace DW
open PySem PySem.Spec PyProof.Rows L2
/-! ### d.get(k, c) -/
def getOr (c : Int) : Dt → Dt → Option Dt
  | .dct kvs, d => (keyD d).map fun k => (getK kvs k).getD (.int c)
  | _, _ => none
def getP (c : Int) (i : Nat) (f2 : Rho → R Dt) : Rho → R Dt := fun ρ => match pk i ρ with
  | some (.dct _) => (f2 ρ).bind fun e ρ2 => match pk i ρ2 with
    | some d => (match getOr c d e with
      | some z => .ok z ρ2
      | none => .bad)
    | none => .bad
  | _ => .bad
section
variable {X : Cx} {W : WX} {e : Expr} {f2 : Rho → R Dt} {p p3 apos cpos : Pos} {i : Nat}
theorem de_get2 {x : Str} {c : Int} {j : Nat} (hu : X.A.units + 1 < cLine) (hv : PE X (.Name x p) (tVar i)) (he : DE X W e f2) (m : M2 X (.Name x p) "get" apos e (.Constant (.int c) j p3) cpos) :
    DE X W (.Call (.Attribute (.Name x p) "get" apos) [e, .Constant (.int c) j p3] [] cpos) (getP c i f2) :=
  fun F => PE.wk (pe_dget2 hu hv (he F) pe_int m) fun σ H Q ⟨H0, ρ, E, q⟩ => by
    unfold getP at q
    cases e1 : pk i ρ with
    | none => rw [e1] at q; exact q.elim
    | some d0 =>
      rw [e1] at q
      obtain ⟨v0, hv0, p0⟩ := pk_at E e1
      refine ⟨v0, hv0, ?_⟩
      cases d0 with
      | dct kvs0 =>
        dsimp only at q
        obtain ⟨a, ks, rfl, h1, h2⟩ := p0
        refine ⟨a, rfl, .inl ⟨_, .inl h1⟩, H0, ρ, E, ?_⟩
        cases e2 : f2 ρ with
        | ok y ρ2 =>
          rw [e2] at q
          dsimp only [R.bind] at q
          intro v H2 B2 E2 m2 d2
          show ∃ o, DGet B2 a v o ∧ Q (o.getD (.int c)) B2
          cases e3 : pk i ρ2 with
          | none => rw [e3] at q; exact q.elim
          | some d =>
            rw [e3] at q
            dsimp only at q
            obtain ⟨v', hv', px⟩ := pk_at E2 e3
            rw [hv0] at hv'
            cases hv'
            cases d with
            | dct kvs =>
              obtain ⟨a', ks', ea, h3, h4⟩ := px
              cases ea
              cases e4 : keyD y with
              | none =>
                have : getOr c (.dct kvs) y = none := by show (keyD y).map _ = none; rw [e4]; rfl
                rw [this] at q
                exact q.elim
              | some k =>
                have : getOr c (.dct kvs) y = some ((getK kvs k).getD (.int c)) := by show (keyD y).map _ = _; rw [e4]; rfl
                rw [this] at q
                dsimp only at q
                refine ⟨valV ks' k, .inl ⟨ks', k, .inl h3, keyD_Va d2 e4, rfl⟩, ?_⟩
                obtain ⟨g1, g2⟩ := h4.get k
                cases e5 : getK kvs k with
                | none =>
                  rw [e5] at q
                  rw [g2 e5]
                  exact q _ H2 B2 E2 m2 (.int c)
                | some z =>
                  rw [e5] at q
                  obtain ⟨vz, e6, dz⟩ := g1 z e5
                  rw [e6]
                  exact q _ H2 B2 E2 m2 dz
            | _ => exact q.elim
        | ex x ρ1 => rw [e2] at q; exact q
        | bad => rw [e2] at q; exact q
      | _ => exact q.elim
end
end DW

set_option Elab.async false
set_option linter.all false
set_option maxRecDepth 100000
set_option maxHeartbeats 4000000
/-! DWX0: an own error whose __init__ says super().__init__(text) and stores one field -/
namespace DWX
open PySem PySem.W PySem.Calls PyProof.Rows PySem.HandSPX
/-! ### the text of __init__ -/
def xA (f : Str) (p1 p2 : Pos) : Arguments := { posonlyargs := [], args := [{ arg := "self", annotation := none, pos := p1 }, { arg := f, annotation := none, pos := p2 }], vararg := none, kwonlyargs := [], kw_defaults := [], kwarg := none, defaults := [] }
def xB (f m : Str) (j : Nat) (q1 q2 q3 q4 q5 q6 r1 r2 r3 r4 : Pos) : List Stmt :=
  [.Expr (.Call (.Attribute (.Call (.Name "super" q1) [] [] q2) "__init__" q3) [.Constant (.str m) j q4] [] q5) q6, .Assign [.Attribute (.Name "self" r1) f r2] (.Name f r3) r4]
def xS (f : Str) : Scope := { kind := .function, names := [(PySem.Str.ofString "self", .local), (f, .local), (PySem.Str.ofString "__class__", .free), (PySem.Str.ofString "super", .globalImplicit)], isGenerator := false, isCoroutine := false, more := [] }
abbrev xSup (q1 q2 : Pos) : Expr := .Call (.Name "super" q1) [] [] q2
/-- the call's places are told: super().__init__(m) runs as a method's call -/
def McOk (m : Str) (j : Nat) (q1 q2 q3 q4 q5 : Pos) : Prop := ∀ env : Env, eval (.Call (.Attribute (xSup q1 q2) "__init__" q3) [.Constant (.str m) j q4] [] q5) env = (do
  let ov ← attributeBase (xSup q1 q2) "__init__" env (eval (xSup q1 q2) env)
  standAt q3.atName
  let (f, first) ← holding [ov] (getMethod ov "__init__" (do return (← importBound (xSup q1 q2) env).getD true))
  callWith q5 f first (backTo q5 (starEach [.Constant (.str m) j q4] env)) [])
example : McOk "x" 0 ⟨22, 8, 22, 13⟩ ⟨22, 8, 22, 15⟩ ⟨22, 8, 22, 24⟩ ⟨22, 25, 22, 56⟩ ⟨22, 8, 22, 57⟩ := fun _ => rfl
/-- the names of the field that the kernel can look through -/
structure FldOk (f : Str) : Prop where
  l : (xS f).names.lookup f = some .local
  s : (xS f).names.lookup ("super" : Str) = some .globalImplicit
  c : (xS f).names.lookup ("__class__" : Str) = some .free
  ne : f ≠ "self"
  db : (f == ("__debug__" : Str)) = false
  bd : ∀ (qual : Str) (p1 p2 : Pos) (bdy : List Stmt) (cl : List (Str × Addr)) (doc pm : Value) (an : Option Addr) (cdv ct a v : Value), bindArgs (fnX "__init__" qual (xA f p1 p2) bdy (xS f) cl .none .none doc pm an cdv ct) ⟨[a, v], []⟩ = pure [(PySem.Str.ofString "self", a), (f, v)]
  bk : ∀ (qual : Str) (p1 p2 : Pos) (bdy : List Stmt) (cl : List (Str × Addr)) (doc pm : Value) (an : Option Addr) (cdv ct a v : Value), bindArgs (fnX "__init__" qual (xA f p1 p2) bdy (xS f) cl .none .none doc pm an cdv ct) ⟨[a], [(f, v)]⟩ = pure [(PySem.Str.ofString "self", a), (f, v)]
  nz : f ≠ ""
theorem fld_value : FldOk "value" := ⟨rfl, rfl, rfl, by decide, by decide, by intros; rfl, by intros; rfl, by decide⟩
theorem fld_part : FldOk "part" := ⟨rfl, rfl, rfl, by decide, by decide, by intros; rfl, by intros; rfl, by decide⟩
theorem fld_place : FldOk "place" := ⟨rfl, rfl, rfl, by decide, by decide, by intros; rfl, by intros; rfl, by decide⟩
theorem fld_number : FldOk "number" := ⟨rfl, rfl, rfl, by decide, by decide, by intros; rfl, by intros; rfl, by decide⟩
theorem fld_most : FldOk "most" := ⟨rfl, rfl, rfl, by decide, by decide, by intros; rfl, by intros; rfl, by decide⟩
/-- what the written part says of the class cn, at C, its __init__ at fI -/
structure OwnX (P : Program) (K : Frag) (mg : Str → Option Value) (cn f : Str) (B newId initId : String) (bmB : List Value) (C fI : Addr) : Prop where
  fb : ExcBaseFacts B newId initId bmB
  kf : KxsFacts B initId
  sf : StoreFacts B bmB "object.__setattr__" "object"
  fo : FldOk f
  gC : mg cn = some (.ref C)
  ex : excInitIn K C bmB newId = true
  ov : excOver K C bmB = true
  hd : hasDictIn K C = true
  sa : findIn K (.ref C) "__setattr__" = some (some (.builtin "object.__setattr__"))
  tf : takerIn K C f = some none
  iC : findIn K (.ref C) "__init__" = some (some (.ref fI))
  tI : typeIn K (.ref fI) = some (.type "function")
  kC : keepIn K (.ref C) = true
  bC : subIn K (.ref C) (.type "BaseException") = some true
  sB : subIn K (.ref C) (.type B) = some true
  sC : mroIn K C (.ref C) = some true
  tC : typeIn K (.ref C) = some (.type "type")
  sup : ks_superIn K C C "__init__" = some (some (.builtin initId))
  ms : mg "super" = none
  xf : L2.XfC K C
  no : findIn K (.ref C) f = some none
  op : nsIn K cStatics "thirdparty.any" = some none
  top : (P.main.scope.names.lookup ("super" : Str)).isSome = false
  fn : ∃ (oc : Value) (od : Option Addr) (doc pm : Value) (an : Option Addr) (ct : Value) (osl : Array (Option Value)) (qual m : Str) (j : Nat) (p1 p2 q1 q2 q3 q4 q5 q6 r1 r2 r3 r4 : Pos) (cc cda : Addr) (cl ccl : Value) (cld cdd : Option Addr) (csl ccs : Array (Option Value)) (vs : Array Value) (file : Str) (tf : Tok),
    K.lookup fI = some ⟨oc, od, .func (fnX "__init__" qual (xA f p1 p2) (xB f m j q1 q2 q3 q4 q5 q6 r1 r2 r3 r4) (xS f) [(PySem.Str.ofString "__class__", cc)] .none .none doc pm an (.ref cda) ct), osl⟩ ∧ codeIn K (.ref cda) qual = true ∧
    K.lookup cc = some ⟨cl, cld, .cell (some (.ref C)), csl⟩ ∧ K.lookup cda = some ⟨ccl, cdd, .fields vs, ccs⟩ ∧ vs[2]? = some (.str file tf) ∧ ((P.main.file : Str) == file) = true ∧ McOk m j q1 q2 q3 q4 q5
/-- what __init__ leaves of a new error at x -/
structure InitEnd (h h' : Heap) (x C dx t1 : Addr) (f : Str) (v : Value) : Prop where
  keep : ∀ b o, b ≠ x → h.get? b = some o → h'.get? b = some o
  obj : h'.get? x = some { cls := .ref C, dict := some dx, data := .fields #[.ref t1, .none, .none, .none, .bool false, .none] }
  dbig : h.objs.size ≤ dx
  dne : dx ≠ x
  ns : h'.Ns1 dx (fun y => if y = f then some v else none)
structure Made (h h' : Heap) (e C d : Addr) (f : Str) (v : Value) : Prop where
  keep : ∀ b o, h.get? b = some o → h'.get? b = some o
  new : h.objs.size ≤ e
  obj : ∃ oe vs, h'.get? e = some oe ∧ oe.cls = .ref C ∧ oe.dict = some d ∧ oe.data = .fields vs ∧ vs[1]? = some .none
  dbig : h.objs.size ≤ d
  dne : d ≠ e
  ns : h'.Ns1 d (fun y => if y = f then some v else none)
section
variable {P : Program} {w : World} {A : Around} {E : Value → Shared → Prop} {R : Result → Shared → Prop} {K : Frag} {mg : Str → Option Value} {cn f : Str} {B newId initId : String} {bmB : List Value} {C fI : Addr}
/-- self.f = v, the error without a dict -/
theorem store0 (T : OwnX P K mg cn f B newId initId bmB C fI) {hp : Heap} {g : Array GenState} {d : Drawn} {t : Nat} {os : OsState} {x t1 : Addr} {tk : Tok} {v : Value} (X : K.In hp) (hx : hp.get? x = some (excO C t1))
    (hq : ∀ h' tk' dx, (∀ b o, b ≠ x → hp.get? b = some o → h'.get? b = some o) → hp.objs.size ≤ dx → dx ≠ x → h'.get? x = some { cls := .ref C, dict := some dx, data := .fields #[.ref t1, .none, .none, .none, .bool false, .none] } →
      h'.Ns1 dx (fun y => if y = f then some v else none) → R (.ok (.ret .none)) ⟨h', g, d, tk', os⟩) :
    codeAny (model P w) A (.call (.builtin "object.__setattr__") ⟨[.ref x, .str f tk, v], []⟩) R ⟨hp, g, d, t, os⟩ := by
  have I : InstAt hp x (excO C t1) C none := ⟨hx, rfl, rfl, trivial⟩
  refine osa_openX (s := ⟨hp, g, d, t, os⟩) T.sf X I T.ov T.tf fun b => ?_
  obtain ⟨cd, hc, hd'⟩ := any_some T.hd
  have hcls : Looks (model P w) hp (classData C) cd := looks_clsIn X hc
  have hne : x ≠ hp.objs.size := Nat.ne_of_lt (Heap.lt_size hx)
  have hx1 : (hp.push (dictOf [] 0)).get? x = some (excO C t1) := Heap.get?_push_of_some _ hx
  show wpAny (model P w) _ (Builtin.ObjectAttr.storeInOwnDict (.ref x) (.ref C) (.str f tk) f v b) _ _ _
  refine wpAny_bind (wpAny_pure (wpAny_bind (instanceDict_exc hx hcls hd' ?_)))
  show wpAny _ _ (Builtin.ObjectAttr.storeInDict hp.objs.size (.str f tk) f v) _ _ _
  refine store_in_new ?_ fun h' tk' hn hs => ?_
  · exact ⟨_, #[], _, (Heap.get?_update_ne _ _ _ _ hne.symm).trans (Heap.get?_push_at rfl rfl), rfl, fun e he => absurd he (by simp), fun _ => rfl⟩
  · refine hq h' tk' hp.objs.size (fun b o hb ho => ?_) (Nat.le_refl _) hne.symm ?_ hn
    · exact (hs.2 b (Nat.ne_of_lt (Heap.lt_size ho))).trans ((Heap.get?_update_ne _ _ _ _ hb).trans (Heap.get?_push_of_some _ ho))
    · exact (hs.2 x hne).trans (Heap.get?_update_self _ hx1 rfl)
/-- the bound __init__ of the base, called with a text -/
theorem init_call (T : OwnX P K mg cn f B newId initId bmB C fI) {hp : Heap} {g : Array GenState} {d : Drawn} {t : Nat} {os : OsState} {u x t0 : Addr} {rest : List Value} {Q : Value → Shared → Prop} (X : K.In hp) (hx : hp.get? x = some (excO C t0)) (hu : hp.get? u = some (kxs_mw initId x)) (hz : rest.length ≤ sizeLine)
    (hq : ∀ h' t1, (∀ b o, b ≠ x → hp.get? b = some o → h'.get? b = some o) → h'.get? x = some (excO C t1) → Q .none ⟨h', g, d, t, os⟩) :
    wpAny (model P w) A (call (.ref u) rest) Q E ⟨hp, g, d, t, os⟩ := by
  obtain ⟨nm, N', qn, bs, bm, hdct, sn, sub, ab, col, dd, k0, k1, k2, k3, k5, hC, hT⟩ := excInit_of X T.ex
  refine wpAny_call (codeAny_of_tree ?_)
  show wpAny (model P w) A.in1 (callAny (.ref u) ⟨rest, []⟩) _ _ _
  simp only [callAny]
  refine wpAny_bind (wpAny_load hu ?_)
  have e1 : (Value.type "method-wrapper" == Value.type "method" || Value.type "method-wrapper" == Value.type "builtin_function_or_method" || Value.type "method-wrapper" == Value.type "method-wrapper") = true := by decide
  simp only [kxs_mw, e1, if_true]
  refine KFB.if_so (by decide) ?_
  refine wpAny_bind (check_bound_init T.fb.toExcCallFacts hC hx rfl ?_)
  refine wpAny_bind (wpAny_pure (wpAny_pure ?_))
  refine ⟨plainId_quiet T.fb.init.plain _, codeAny_builtin T.fb.initEntry ?_⟩
  exact exc_init_tree (cls := .ref C) (t0 := t0) (dv := none) (c2 := .none) (c3 := .none) (b4 := .bool false) hx hz fun h' k e _ => hq h' _ k e
theorem one_size (v : Value) : [v].length ≤ sizeLine := by
  rw [sizeLine_eq]
  exact (by decide : 1 ≤ 16777216)
theorem own_init (T : OwnX P K mg cn f B newId initId bmB C fI) {s : Shared} {x t0 : Addr} {v : Value} (X : K.In s.heap) (hlim : s.heap.NoLimit) (G : s.heap.Ns mainGlobals mg) (Bt : ∃ mb, s.heap.Ns builtinsNs mb ∧ ∀ y : Str, y ≠ "__name__" → mb y = bootBuiltins y) (hx : s.heap.get? x = some (excO C t0)) (hnx : K.lookup x = none) (hroom : A.depth < recursionLimit) {args : Args} (hargs : args = ⟨[.ref x, v], []⟩ ∨ args = ⟨[.ref x], [(f, v)]⟩ := by exact .inl rfl)
    (hq : ∀ h' tk dx t1, InitEnd s.heap h' x C dx t1 f v → R (.ok (.ret .none)) { s with heap := h', toks := tk }) :
    codeAny (model P w) A (.call (.ref fI) args) R s := by
  obtain ⟨oc, od, doc, pm, an, ct, osl, qual, m, j, p1, p2, q1, q2, q3, q4, q5, q6, r1, r2, r3, r4, cc, cda, cl, ccl, cld, cdd, csl, ccs, vs, file, tf, ho, hcd, hcell, hcode, hvs, hfile, hmc⟩ := T.fn
  obtain ⟨cd, hc, hd'⟩ := any_some T.hd
  have hnf : ∀ y ∈ (xS f).names, y.2 ≠ .cell := fun y hy => by
    simp only [xS, List.mem_cons, List.not_mem_nil, or_false] at hy
    rcases hy with rfl | rfl | rfl | rfl <;> exact fun z => nomatch z
  have hloc : ∀ y ∈ [((PySem.Str.ofString "self"), Value.ref x), (f, v)], (xS f).names.lookup y.1 = some .local := fun y hy => by
    simp only [List.mem_cons, List.not_mem_nil, or_false] at hy
    rcases hy with rfl | rfl
    · rfl
    · exact T.fo.l
  refine ks_codeAny_call_defAt (fd := fnX "__init__" qual (xA f p1 p2) (xB f m j q1 q2 q3 q4 q5 q6 r1 r2 r3 r4) (xS f) [(PySem.Str.ofString "__class__", cc)] .none .none doc pm an (.ref cda) ct) (body := xB f m j q1 q2 q3 q4 q5 q6 r1 r2 r3 r4) (binds := [(PySem.Str.ofString "self", .ref x), (f, v)])
    hroom (X _ _ ho) rfl hlim (codeRec_of X hcd) rfl (BindsTo.of_eq (by rcases hargs with rfl | rfl <;> first | exact T.fo.bd _ _ _ _ _ _ _ _ _ _ _ _ | exact T.fo.bk _ _ _ _ _ _ _ _ _ _ _ _)) hnf hloc (fun h₁ hn k => ?_)
  have X1 : K.In h₁ := X.keeps k
  have hx1 := k _ _ hx
  obtain ⟨oD, hD1, hD2⟩ : ∃ oD, h₁.get? C = some oD ∧ oD.data = .cls cd := by
    unfold clsIn at hc
    split at hc
    · rename_i c d cd' sl hK
      cases hc
      exact ⟨_, X1 _ _ hK, rfl⟩
    · cases hc
  have G1 := G.keeps k
  obtain ⟨mb, b1, b2⟩ := Bt
  have b1' := b1.keeps k
  show _root_.PySem.wpAt (model P w) _ _ (execs (xB f m j q1 q2 q3 q4 q5 q6 r1 r2 r3 r4) _) _ _ _
  refine ks_wpAt_execs_cons (ks_wpAt_Expr_any (ks_wpAt_MethodCall (ks_wpAt_super_base T.fo.s T.fo.c rfl rfl (X1 _ _ ho) rfl rfl rfl (X1 _ _ hcode) rfl hvs hfile T.top ?_) (he := hmc _)))
  refine ks_loadName_global rfl T.fo.s (loadGlobal_builtin G1 T.ms b1' ((b2 _ (by decide)).trans (by rfl)) ⟨rfl, ?_⟩)
  refine wpAny_loadName_free rfl T.fo.c rfl ⟨_, X1 _ _ hcell, rfl⟩ ?_
  have ls : ([(PySem.Str.ofString "self", Value.ref x), (f, v)] : List (Str × Value)).reverse.lookup ("self" : Str) = some (.ref x) := by
    have : ((PySem.Str.ofString "self") == f) = false := by simpa using Ne.symm T.fo.ne
    simp [List.lookup, this]
  have lf : ([(PySem.Str.ofString "self", Value.ref x), (f, v)] : List (Str × Value)).reverse.lookup f = some v := by simp [List.lookup]
  refine wpAny_loadName_local rfl rfl hn (v := .ref x) ls ?_
  refine ks_wpAny_isType_cls hD1 hD2 ⟨rfl, ?_⟩
  refine ks_wpAny_call_super hD1 hD2 hx1 rfl (fun c e => nomatch e) (looks_mroIn X1 T.sC) (fun h2 e2 k2 => ?_)
  -- the bound __init__ of the base
  have X2 : K.In h2 := X1.keeps k2
  have hx2 := k2 _ _ hx1
  have I2 : InstAt h2 x (excO C t0) C none := ⟨hx2, rfl, rfl, trivial⟩
  have hxC : x ≠ C := ks_ne X2 I2 hc
  have hsup := T.sup
  unfold ks_superIn at hsup
  rw [hc] at hsup
  have hmro : Looks (model P w) h2 (mroOf (.ref C)) cd.mro := fun A Q E s k q => wpAny_bind ((looks_clsIn X2 hc) A _ E s k (wpAny_pure q))
  refine kxs_getMethod T.kf e2 (looks_opaque X2 T.op) hmro rfl X2 hsup (I2.type.andThen (looks_subIn X2 T.sB)) hxC rfl ?_
  have k3 : ∀ b o, h2.get? b = some o → (h2.push (kxs_mw initId x)).get? b = some o := fun b o e => Heap.get?_push_of_some _ e
  have hu : (h2.push (kxs_mw initId x)).get? h2.objs.size = some (kxs_mw initId x) := Heap.get?_push_at rfl rfl
  refine kxs_callWith (i := initId) (x := x) rfl ?_
  refine evalArgs_plain (spliced_more (wpAny_Constant_str (spliced_none ?_)))
  refine ⟨hu, init_call T (X2.keeps k3) (k3 _ _ hx2) hu (one_size _) fun h4 t1 k4 hx4 => ?_⟩
  have kA : ∀ b o, b ≠ x → s.heap.get? b = some o → h4.get? b = some o := fun b o hb e => k4 b o hb (k3 b o (k2 b o (k b o e)))
  have hxL : s.heap.objs.size ≠ x := Nat.ne_of_gt (Heap.lt_size hx)
  have hn4 : h4.Ns s.heap.objs.size (fun y => ([(PySem.Str.ofString "self", Value.ref x), (f, v)] : List (Str × Value)).reverse.lookup y) := by
    obtain ⟨oL, es, ep, hL, r⟩ := hn
    exact ⟨oL, es, ep, k4 _ _ hxL (k3 _ _ (k2 _ _ hL)), r⟩
  have X4 : K.In h4 := fun a o e => k4 a o (fun z => by
    rw [z, hnx] at e
    cases e) (k3 a o (X2 a o e))
  show _root_.PySem.wpAt (model P w) _ _ (execs [.Assign [.Attribute (.Name "self" r1) f r2] (.Name f r3) r4] _) _ _ _
  refine ks_wpAt_execs_cons (ks_wpAt_Assign_Attr ?_)
  refine _root_.PySem.wpAt_of_wpAny ?_
  refine wpAny_Name (wpAny_loadName_local rfl T.fo.l hn4 lf ?_) T.fo.db
  refine wpAny_Name (wpAny_loadName_local rfl rfl hn4 ls ?_) rfl
  refine set_plain X4 (ox := excO C t1) (od := none) ⟨hx4, rfl, rfl, trivial⟩ T.sa ?_
  refine store0 T X4 hx4 fun h5 tk5 dx k5 d1 d2 hx5 n5 => ?_
  refine _root_.PySem.wpAt_of_wpAny (wpAny_execs_nil ?_)
  refine hq h5 tk5 dx t1 ⟨fun b o hb e => k5 b o hb (kA b o hb e), hx5, ?_, d2, n5⟩
  exact Nat.le_of_lt (Nat.lt_of_lt_of_le hn4.lt d1)
theorem own_made (T : OwnX P K mg cn f B newId initId bmB C fI) {s : Shared} {v : Value} (X : K.In s.heap) (hlim : s.heap.NoLimit) (G : s.heap.Ns mainGlobals mg) (Bt : ∃ mb, s.heap.Ns builtinsNs mb ∧ ∀ y : Str, y ≠ "__name__" → mb y = bootBuiltins y) (hroom : A.depth + 1 < recursionLimit)
    (hq : ∀ h' tk e d, Made s.heap h' e C d f v → R (.ok (.ret (.ref e))) { s with heap := h', toks := tk }) :
    codeAny (model P w) A (.call (.ref C) ⟨[v], []⟩) R s := by
  obtain ⟨nm, N', qn, bs, bm, hdct, sn, sub, ab, col, dd, k0, k1, k2, k3, k5, hC, hT⟩ := excInit_of X T.ex
  obtain ⟨hp, g, dr, tk, os⟩ := s
  have k : ∀ b o, hp.get? b = some o → ((hp.push (kdv_tup [v])).push (excO C hp.objs.size)).get? b = some o := fun b o e => Heap.get?_push_of_some _ (Heap.get?_push_of_some _ e)
  have hget : ((hp.push (kdv_tup [v])).push (excO C hp.objs.size)).get? (hp.objs.size + 1) = some (excO C hp.objs.size) := by heap_get
  have hnx : K.lookup (hp.objs.size + 1) = none := by
    cases e : K.lookup (hp.objs.size + 1) with
    | none => rfl
    | some o =>
      have z : hp.get? (hp.objs.size + 1) = some o := X _ _ e
      exact absurd (Nat.lt_of_succ_lt (Heap.lt_size z)) (Nat.lt_irrefl _)
  obtain ⟨mb, b1, b2⟩ := Bt
  refine call_own T.fb hT hC (looks_findIn X T.iC) (fun self => bind_fn X self T.tI) (one_size v) ?_
  refine own_init (s := ⟨(hp.push (kdv_tup [v])).push (excO C hp.objs.size), g, dr, tk, os⟩) T (X.keeps k) (hlim.keeps k) (G.keeps k) ⟨mb, b1.keeps k, b2⟩ hget hnx hroom (.inl rfl) fun h' tk' dx t1 J => ?_
  have old : ∀ b o, hp.get? b = some o → h'.get? b = some o := fun b o e => J.keep b o (Nat.ne_of_lt (Nat.lt_succ_of_lt (Heap.lt_size e))) (k b o e)
  have z : hp.objs.size + 1 + 1 ≤ dx := by
    have q := J.dbig
    first
      | exact q
      | (simpa only [Heap.size_push] using q)
  exact ⟨rfl, hq h' tk' (hp.objs.size + 1) dx ⟨old, Nat.le_succ _, ⟨_, _, J.obj, rfl, rfl, rfl, rfl⟩, Nat.le_trans (by omega : hp.objs.size ≤ hp.objs.size + 1 + 1) z, J.dne, J.ns⟩⟩
end
end DWX
namespace DW
open PySem PySem.Spec PyProof.Rows L2
theorem relO_fld {v : V} {u : Value} (r : RelV v u) (f y : Str) : RelO (List.lookup y [(f, v)]) (if y = f then some u else none) := by
  by_cases h : y = f
  · subst h
    rw [if_pos rfl]
    simp only [List.lookup, beq_self_eq_true]
    exact r
  · have h2 : (y == f) = false := by simpa using h
    rw [if_neg h]
    simp only [List.lookup, h2]
    trivial
section
variable {X : Cx} {cn f : Str} {B newId initId : String} {bmB : List Value} {C fI : Addr}
/-- X(e), an own error with the field f -/
def tMkX (C : Addr) (f : Str) (ta : TA) : L2.St → Hp → XK → Prop := fun σ H Q => ta σ H fun vs H1 => ∃ v, vs = [v] ∧ ∀ d, H1 d = none → Q (.ref C) (some d) (upd H1 d (.xd [(f, v)]))
theorem pmk_x {a : Expr} {ta : TA} {p pos : Pos} {k : Nat} (T : DWX.OwnX X.prog X.K X.mg cn f B newId initId bmB C fI) (hr : Room k X.A) (ha : PA X [a] ta) (hg : Gl X cn)
    (hd : (cn == ("__debug__" : Str)) = false) (he : starEach (a :: []) X.env = (false, eval a X.env) :: starEach [] X.env := by rfl) (hpl : (backTo pos (starEach [] X.env)).any (·.1) = false := by rfl) :
    PMk X (.Call (.Name cn p) [a] [] pos) (tMkX C f ta) := by
  intro pins s σ H Q I h
  refine wpAny_Call_Name_kw (ld_glob I hg T.gC ?_ hd)
  refine PySem.W.callWith_K (h₀ := X.base) I.ok.mod.kin T.kC (thn (ha.run pos pins s σ H _ I h) fun us s1 hh => ?_) he hpl
  obtain ⟨vs, H1, I1, r1, v, ev, q1⟩ := hh
  subst ev
  refine ⟨I1.kIn, ?_⟩
  cases r1 with
  | cons rv rn =>
    rename_i v' us'
    cases rn
    show wpAny _ _ (call (.ref C) [v']) _ _ _
    have hlim := I1.nolimit
    have hG : s1.heap.Ns mainGlobals X.mg := I1.mod.glob.keeps I1.bk
    have hB : ∃ mb, s1.heap.Ns builtinsNs mb ∧ ∀ y : Str, y ≠ "__name__" → mb y = bootBuiltins y := by
      obtain ⟨mb, b1, b2⟩ := I1.mod.blt
      exact ⟨mb, b1.keeps I1.bk, b2⟩
    obtain ⟨hp, g, dr, tk, os⟩ := s1
    refine wpAny_call (DWX.own_made T I1.kIn hlim hG hB (by have := hr.dp; omega) fun h' tk' e d M => ?_)
    show MkP X pins σ Q (.ref e) ⟨h', g, dr, tk', os⟩
    obtain ⟨oe, fv, hoe, hc, hdd, hdat, h1⟩ := M.obj
    obtain ⟨G', g1, g2⟩ := restrict h' fun b => decide (b ≠ e)
    have gk : ∀ b, b ≠ e → G'.get? b = h'.get? b := fun b hb => g1 b (decide_eq_true hb)
    have ge : G'.get? e = none := g2 e (by simp)
    have old : ∀ b o, hp.get? b = some o → G'.get? b = some o := fun b o q => (gk b (Nat.ne_of_lt (Nat.lt_of_lt_of_le (Heap.lt_size q) M.new))).trans (M.keep b o q)
    have ob : ObjOk X.prog X.w (upd H1 d (.xd [(f, v)])) G' d (.xd [(f, v)]) := ⟨_, M.ns.at (fun o q => (gk d M.dne).trans q), fun y => relO_fld rv f y⟩
    have J : Inv X pins σ (upd H1 d (.xd [(f, v)])) ⟨G', g, dr, tk', os⟩ := I1.laid (t' := tk') old M.dbig ob
    refine ⟨e, oe, fv, ⟨G', g, dr, tk', os⟩, _, .ref C, some d, rfl, J, fun b o q => ?_, ge, hoe, ⟨hc, hdd⟩, hdat, h1, ?_, rfl, I1.bare, raises_own T.bC T.tC, q1 d (I1.hok.fresh M.dbig)⟩
    · by_cases hb : b = e
      · have q' : G'.get? b = some o := q
        rw [hb, ge] at q'
        cases q'
      · exact (gk b hb).symm.trans q
    · rw [upd_ne (Ne.symm M.dne)]
      exact I1.hok.fresh M.new
end
end DW

set_option Elab.async false
set_option linter.all false
set_option maxRecDepth 100000
set_option maxHeartbeats 4000000
/-! DWX1: defs that raise, calls of them, raise, try .. except X as n: return n.f -/
namespace DW
open PySem PySem.Spec PyProof.Rows L2
def spX (g : Gx) (fn : Fn) : Sp := fun vs H Q E => ∃ H0 ds, Same H0 H ∧ TbOk g.K H0 H ∧ DaAll g.K H0 vs ds ∧ match fn ds with
  | .ok s => ∀ v H0' H', Gw ⟨H0, H, none⟩ H0' H' → TbOk g.K H0' H' → Same H0' H' → SlR g.K ⟨H0, H, none⟩ H0' H' v s → Q v H'
  | .ex e => ∀ c da H0' H', Gw ⟨H0, H, none⟩ H0' H' → TbOk g.K H0' H' → Same H0' H' → XR g ⟨H0, H, none⟩ H0' H' e c da → E c da H'
  | .bad => False
abbrev wE (E : XK) : WX := fun c d _ H => E c d H
def HasX (P : Program) (w : World) (K : PySem.W.Frag) (mg : Str → Option Value) (base : Heap) (x : Str) (ps : List Str) (fn : Fn) (k : Nat) : Prop :=
  ∃ f fd, mg x = some (.ref f) ∧ PySem.W.keepIn K (.ref f) = true ∧ Binds K fd ps [] ∧ FnG P w K mg base (L2.CX P w) k f fd ps (spX ⟨K, mg⟩ fn)
section
variable {P : Program} {w : World} {K : PySem.W.Frag} {mg : Str → Option Value} {base : Heap}
theorem fnDX {x qual : Str} {params : Arguments} {bd : List Stmt} {scope : Scope} {f : Addr} {fd : FuncData} {N ps : List Str} {k : Nat} {body : Rho → SR} (F : FunD K x qual params bd scope [] [] f fd) (S : FnScope N ps scope) (hN : ps.length ≤ N.length)
    (hb : ∀ (cdv : Value) (A : Around) (outer : List Env) (s : Shared) (H : Hp) (E : XK), Room k (A.deeper (envOfC qual scope s.heap.objs.size f cdv)) → Quiet (A.deeper (envOfC qual scope s.heap.objs.size f cdv)) →
      Takes (cxOf (L2.CX P w) P w K mg base N qual scope f cdv A outer s H E) (wE E) → PassesOwn (model P w) (cxOf (L2.CX P w) P w K mg base N qual scope f cdv A outer s H E).A (cxOf (L2.CX P w) P w K mg base N qual scope f cdv A outer s H E).env (cxOf (L2.CX P w) P w K mg base N qual scope f cdv A outer s H E).xe →
      DSs (cxOf (L2.CX P w) P w K mg base N qual scope f cdv A outer s H E) (wE E) bd body) :
    FnG P w K mg base (L2.CX P w) (k + 1) f fd ps (spX ⟨K, mg⟩ (runF ps.length N.length body)) := by
  have lem : ∀ ds : List Dt, runF ps.length N.length body ds ≠ .bad → ds.length = ps.length := fun ds h => by
    unfold runF at h
    split at h
    · assumption
    · exact absurd rfl h
  have lem2 : ∀ {vs : List V} {H : Hp} {Q : VK} {E : XK} {H0 : Hp} {ds : List Dt}, (match runF ps.length N.length body ds with
      | .ok s => ∀ v H0' H', Gw ⟨H0, H, none⟩ H0' H' → TbOk K H0' H' → Same H0' H' → SlR K ⟨H0, H, none⟩ H0' H' v s → Q v H'
      | .ex e => ∀ c da H0' H', Gw ⟨H0, H, none⟩ H0' H' → TbOk K H0' H' → Same H0' H' → XR ⟨K, mg⟩ ⟨H0, H, none⟩ H0' H' e c da → E c da H'
      | .bad => False) → ds.length = ps.length := fun {vs H Q E H0 ds} h => by
    refine lem ds fun z => ?_
    rw [z] at h
    exact h
  refine fnG F S (fun vs H Q E h => ?_) (fun cdv A outer s H vs Q E hr hq _ h => ?_)
  · obtain ⟨H0, ds, h1, tb, h2, h3⟩ := h
    rw [h2.length]
    exact lem2 (vs := vs) h3
  · obtain ⟨H0, ds, h1, tb, h2, h3⟩ := h
    have hl : ds.length = ps.length := lem2 (vs := vs) h3
    refine ⟨_, hb cdv A outer s H E hr hq (takes_of rfl rfl rfl rfl) (passes_of rfl) ⟨H0, H, none⟩, H0, envOf N.length ds, en_start h1 tb h2 (by omega), ?_⟩
    unfold runF at h3
    rw [if_pos hl] at h3
    cases e : body (envOf N.length ds) with
    | nx ρ' =>
      rw [e] at h3
      exact fun σ' H0' H' E' _ => h3 _ H0' H' E'.gr E'.tb E'.ex (Da.non : Da K H0' .non .non)
    | rt s ρ' =>
      rw [e] at h3
      exact fun v σ' H0' H' E' hs => h3 _ H0' H' E'.gr E'.tb E'.ex hs
    | bk _ => rw [e] at h3; exact h3.elim
    | ct _ => rw [e] at h3; exact h3.elim
    | ex x ρ' =>
      rw [e] at h3
      exact fun σ' c da H0' H' xr E' => h3 c da H0' H' E'.gr E'.tb E'.ex xr
    | bad => rw [e] at h3; exact h3.elim
theorem hasX {x : Str} {st : Stmt} {N ps : List Str} {k : Nat} {body : Rho → SR} (D : IsDef K mg x st) (S : FnScope N ps (defScope st)) (hN : ps.length ≤ N.length)
    (hbi : ∀ (kV doc pm : Value) (an : Option Addr) (cdv ct : Value) (us : List Value), us.length = ps.length → bindArgs (PySem.W.fnOf x x (defArgs st) (defBody st) (defScope st) .none kV doc pm an cdv ct) ⟨us, []⟩ = pure (ps.zip us))
    (hb : ∀ (f : Addr) (cdv : Value) (A : Around) (outer : List Env) (s : Shared) (H : Hp) (E : XK), Room k (A.deeper (envOfC x (defScope st) s.heap.objs.size f cdv)) → Quiet (A.deeper (envOfC x (defScope st) s.heap.objs.size f cdv)) →
      Takes (cxOf (L2.CX P w) P w K mg base N x (defScope st) f cdv A outer s H E) (wE E) → PassesOwn (model P w) (cxOf (L2.CX P w) P w K mg base N x (defScope st) f cdv A outer s H E).A (cxOf (L2.CX P w) P w K mg base N x (defScope st) f cdv A outer s H E).env (cxOf (L2.CX P w) P w K mg base N x (defScope st) f cdv A outer s H E).xe →
      DSs (cxOf (L2.CX P w) P w K mg base N x (defScope st) f cdv A outer s H E) (wE E) (defBody st) body) :
    HasX P w K mg base x ps (runF ps.length N.length body) (k + 1) := by
  obtain ⟨f, fd, F, hm⟩ := D
  exact ⟨f, fd, hm, F.kp, F.bindsN hbi, fnDX F S hN (hb f)⟩
end
/-! ### calls of such -/
def callX (fn : Fn) (fa : Rho → R (List Dt)) : Rho → R Dt := fun ρ => (fa ρ).bind fun ds ρ1 => match fn ds with
  | .ok (.fr d) => .ok d ρ1
  | .ex e => .ex e ρ1
  | _ => .bad
section
variable {X : Cx} {CX : CXT} {k : Nat} {f : Addr} {fd : FuncData} {ps : List Str} {sp : Sp} {E : L2.St → XK} {x : Str} {p pos : Pos} {e : Expr} {es : List Expr} {t : TA}
theorem runGS {pins : List (Addr × Obj)} {σ : L2.St} {H : Hp} {s : Shared} {Q : VK} {us : List Value} {vs : List V} (G : FnG X.prog X.w X.K X.mg X.base CX k f fd ps sp) (room : Room k X.A) (quiet : Quiet X.A) (bind : Binds X.K fd ps []) (hx : PassesAt CX X σ (E σ))
    (J : Inv X pins σ H s) (rel : Vals vs us) (h : sp vs H Q (E σ)) : wpAny (model X.prog X.w) X.A (call (.ref f) us) (EP X pins σ Q) X.xe s := by
  have hl : (us ++ []).length = ps.length := by rw [List.append_nil, ← rel.length]; exact G.len _ _ _ _ h
  have hb : BindsTo s fd ⟨us, []⟩ (ps.zip us) := by
    have := bind s us J.kIn hl
    rwa [List.append_nil] at this
  refine wpAny_call (codeAny_mono (G.run X.A X.stack s H ⟨us, []⟩ us vs Q (E σ) room quiet J.env0 hb rel h) fun res s' hq => ?_)
  match res, hq with
  | .error err, hq => exact hx pins H s err s' J hq
  | .ok (.ret u), hq => exact J.after hq
  | .ok .next, hq => exact False.elim hq
  | .ok .brk, hq => exact False.elim hq
  | .ok .cont, hq => exact False.elim hq
theorem pe_callGS (G : FnG X.prog X.w X.K X.mg X.base CX k f fd ps sp) (room : Room k X.A) (quiet : Quiet X.A) (hgl : Gl X x) (hmg : X.mg x = some (.ref f)) (keep : PySem.W.keepIn X.K (.ref f) = true) (bind : Binds X.K fd ps []) (hx : ∀ σ, PassesAt CX X σ (E σ))
    (args : PA X (e :: es) t) (hdb : (x == ("__debug__" : Str)) = false) (he : starEach (e :: es) X.env = (false, eval e X.env) :: starEach es X.env) (hpl : (backTo pos (starEach es X.env)).any (·.1) = false) :
    PE X (.Call (.Name x p) (e :: es) [] pos) (tCallS sp E t) :=
  ⟨fun pins s σ H Q J h => wpAny_Call_Name_kw (ld_glob J hgl hmg (PySem.W.callWith_K (h₀ := X.base) J.ok.mod.kin keep (thn (args.run pos pins s σ H _ J h) fun us s1 z => by
    obtain ⟨vs, H1, J1, rel, q⟩ := z
    exact ⟨J1.kIn, runGS G room quiet bind (hx σ) J1 rel q⟩) he hpl) hdb)⟩
end
section
variable {g : Gx} {F : Fm} {W : WX} {σ : L2.St} {H : Hp} {Q : VK}
theorem tCallX_of {fn : Fn} {fa : Rho → R (List Dt)} (h : tD g F W (callX fn fa) σ H Q) : tCallS (spX g fn) (WE W) (tDA g F W fa) σ H Q := by
  obtain ⟨H0, ρ, E, q⟩ := h
  refine ⟨H0, ρ, E, ?_⟩
  unfold callX at q
  cases e : fa ρ with
  | ok ds ρ1 =>
    rw [e] at q
    dsimp only [R.bind] at q
    intro vs H0' H' E' m hd
    refine ⟨H0', ds, E'.ex, E'.tb, hd, ?_⟩
    cases e2 : fn ds with
    | ok s =>
      rw [e2] at q
      cases s with
      | fr d =>
        intro v C0 C gr tt s2 hv
        obtain ⟨E3, m3⟩ := E'.postW m gr tt s2
        exact q v C0 C E3 m3 hv
      | _ => exact q.elim
    | ex x =>
      rw [e2] at q
      intro c da C0 C gr tt s2 xr
      obtain ⟨E3, m3⟩ := E'.postW m gr tt s2
      obtain ⟨nz, p, v, x1, x2, x3, x4⟩ := xr
      exact q c da C0 C ⟨nz, p, v, x1, x2, Classical.byContradiction fun z => E'.gr.st p z x3, x4⟩ E3
    | bad => rw [e2] at q; exact q.elim
  | ex x ρ1 =>
    rw [e] at q
    exact q
  | bad => rw [e] at q; exact q.elim
end
section
variable {X : Cx} {W : WX} {e : Expr} {es : List Expr} {pos p p2 : Pos} {fa : Rho → R (List Dt)} {k j : Nat} {ps : List Str} {x : Str}
theorem de_hX {fn : Fn} (h : HasX X.prog X.w X.K X.mg X.base x ps fn j) (tk : Takes X W) (hr : Room k X.A) (hq : Quiet X.A) (hjk : j ≤ k) (hg : Gl X x)
    (ha : DA X W (e :: es) fa) (hdb : (x == ("__debug__" : Str)) = false := by decide) (he : starEach (e :: es) X.env = (false, eval e X.env) :: starEach es X.env := by rfl) (hpl : (backTo pos (starEach es X.env)).any (·.1) = false := by rfl) :
    DE X W (.Call (.Name x p) (e :: es) [] pos) (callX fn fa) := by
  obtain ⟨f, fd, hm, hk, hb, G⟩ := h
  exact fun F => PE.wk (pe_callGS G (hr.mono hjk) hq hg hm hk hb (fun σ => passAt tk σ) (ha F) hdb he hpl) fun _ _ _ h => tCallX_of h
end
/-! ### raise -/
def raiseS (cls fld : Str) (f1 : Rho → R Dt) : Rho → SR := fun ρ => (f1 ρ).bindS fun d ρ1 => .ex ⟨cls, fld, d⟩ ρ1
section
variable {X : Cx} {W : WX} {cn f : Str} {B newId initId : String} {bmB : List Value} {C fI : Addr} {e : Expr} {f1 : Rho → R Dt} {p pos pos2 : Pos} {k : Nat}
theorem ds_raise (T : DWX.OwnX X.prog X.K X.mg cn f B newId initId bmB C fI) (hr : Room k X.A) (hc : X.calm = true) (tk : Takes X W) (hg : Gl X cn) (ha : DE X W e f1)
    (hd : (cn == ("__debug__" : Str)) = false := by decide) (he : starEach (e :: []) X.env = (false, eval e X.env) :: starEach [] X.env := by rfl) (hpl : (backTo pos (starEach [] X.env)).any (·.1) = false := by rfl) :
    DS X W (.Raise (some (.Call (.Name cn p) [e] [] pos)) none pos2) (raiseS cn f f1) := fun F =>
  PS.wk (ps_raise hc tk (pmk_x T hr (pa_cons (ha F) pa_nil he) hg hd he hpl)) fun D σ H h => by
    obtain ⟨H0, ρ, E, q⟩ := h
    refine ⟨H0, ρ, E, ?_⟩
    unfold raiseS at q
    cases e1 : f1 ρ with
    | ok d ρ1 =>
      rw [e1] at q
      intro v H0' H' E' m hv
      exact ⟨v, rfl, fun dx hdx => q σ (.ref C) (some dx) H0' (upd H' dx (.xd [(f, v)])) ⟨T.fo.nz, dx, v, T.gC, rfl, Classical.byContradiction fun z => E'.gr.st dx z hdx, upd_same, hv⟩ (E'.grow (gr_newO hdx) (same_newO hdx E'.ex))⟩
    | ex x ρ1 =>
      rw [e1] at q
      exact q σ
    | bad => rw [e1] at q; exact q.elim
end
end DW

set_option Elab.async false
set_option linter.all false
set_option maxRecDepth 100000
set_option maxHeartbeats 4000000
/-! DWX2: try: .. except X as n: return n.f -/
namespace DW
open PySem PySem.Spec PyProof.Rows L2
/-- body; what each error's class is to the clause; what the suite returns of an error -/
def tryR (i : Nat) (fb : Rho → SR) (mt : Str → Option Bool) (su : Xc → Option Dt) : Rho → SR := fun ρ => match fb ρ with
  | .ex e ρ1 => match mt e.cls with
    | some true => match su e with
      | some d => if i < ρ1.length then .rt (.fr d) ρ1 else .bad
      | none => .bad
    | some false => .ex e ρ1
    | none => .bad
  | r => r
/-- the field of an error of just one class -/
def fldOf (cn f : Str) (e : Xc) : Option Dt := if e.cls = cn ∧ e.fld = f then some e.val else none
/-- the clause's class is at c -/
def MtOk (K : PySem.W.Frag) (mg : Str → Option Value) (mt : Str → Option Bool) (c : Value) : Prop := ∀ cn b, mt cn = some b → ∀ cv, mg cn = some cv → PySem.W.exmOne K cv c = some b
def mtL (l : List (Str × Bool)) (s : Str) : Option Bool := l.lookup s
theorem mt_nil {K : PySem.W.Frag} {mg : Str → Option Value} {c : Value} : MtOk K mg (mtL []) c := fun cn b h => by
  unfold mtL at h
  cases h
theorem mt_cons {K : PySem.W.Frag} {mg : Str → Option Value} {c : Value} {l : List (Str × Bool)} {cn : Str} {b : Bool} {a : Addr} (hg : mg cn = some (.ref a)) (he : PySem.W.exmOne K (.ref a) c = some b) (h : MtOk K mg (mtL l) c) : MtOk K mg (mtL ((cn, b) :: l)) c := fun y b' hy cv hcv => by
  unfold mtL at hy
  rw [List.lookup_cons] at hy
  split at hy
  · rename_i e
    have e2 : y = cn := by simpa using e
    subst e2
    rw [hg] at hcv
    cases hcv
    cases hy
    exact he
  · exact h y b' hy cv hcv
section
variable {X : Cx} {W : WX} {cn f n : Str} {B newId initId : String} {bmB : List Value} {C fI : Addr} {body : List Stmt} {fb : Rho → SR} {p1 p2 p3 p4 p5 p6 : Pos} {mt : Str → Option Bool}
theorem ds_tryF (i : Nat) (T : DWX.OwnX X.prog X.K X.mg cn f B newId initId bmB C fI) (hm : MtOk X.K X.mg mt (.ref C)) (hs : X.stack = X.env :: X.outer) (hf : X.env.frame = some X.env.locals) (hN : X.N.Nodup) (hi : X.N[i]? = some n) (hln : X.env.kindOf n = some .local) (hg : Gl X cn) (tk : Takes X W)
    (hb : ∀ (W' : WX) (pn : List (Addr × Obj)) (xe : Value → Shared → Prop), Takes (X.tr pn xe) W' → PassesOwn (model X.prog X.w) X.A X.env xe → DSs (X.tr pn xe) W' body fb)
    (hd : (cn == ("__debug__" : Str)) = false := by decide) (hv : ∀ a oe pn, PE (X.suite a ((a, oe) :: pn)) (.Name n p3) (tVar i) := by exact fun _ _ _ => pv _) (hab : attributeBase (.Name n p3) f X.env (eval (.Name n p3) X.env) = eval (.Name n p3) X.env := by rfl) :
    DS X W (.Try body [.ExceptHandler (some (.Name cn p1)) (some n) [.Return (some (.Attribute (.Name n p3) f p4)) p5] p2] [] [] p6) (tryR i fb mt (fldOf cn f)) := fun F =>
  PS.wk (ps_try_as (i := i) (tb := fun W' => tS (gx X) F W' fb) (ts := fun a cls d => tRet (tXf a cls d C f (tVar i))) (Wout := W) hs hf hN hi hln ⟨hg, hd, .inl T.gC⟩ tk
      (fun W' pn xe tk' po => hb W' pn xe tk' po F) (fun a oe cls d pn hz hf' => pss_one (ps_ret (pe_xf T.xf T.no hz hf' (hv a oe pn) hab)))) fun D σ H h => by
    obtain ⟨H0, ρ, E, q⟩ := h
    refine ⟨H0, ρ, E, ?_⟩
    unfold tryR at q
    cases e1 : fb ρ with
    | nx ρ1 => rw [e1] at q; exact q
    | rt s ρ1 => rw [e1] at q; exact q
    | bk ρ1 => rw [e1] at q; exact q
    | ct ρ1 => rw [e1] at q; exact q
    | bad => rw [e1] at q; exact q
    | ex e ρ1 =>
      rw [e1] at q
      dsimp only at q
      intro σ' cv da H0' H' xr E'
      cases e2 : mt e.cls with
      | none => rw [e2] at q; exact q.elim
      | some b =>
        rw [e2] at q
        obtain ⟨nz, dd, v, g1, g2, g0, g3, g4⟩ := xr
        refine ⟨b, hm _ _ e2 _ g1, fun hbt a ha => ?_, fun hbf => ?_⟩
        · subst hbt
          dsimp only at q
          unfold fldOf at q
          by_cases hc : e.cls = cn ∧ e.fld = f
          · rw [if_pos hc] at q
            have hcv : cv = .ref C := by
              rw [hc.1] at g1
              exact Option.some.inj (g1.symm.trans T.gC)
            dsimp only at q
            by_cases hi1 : i < ρ1.length
            rotate_left
            · rw [if_neg hi1] at q
              exact q.elim
            rw [if_pos hi1] at q
            have hl : i < σ'.length := by rw [E'.len]; exact hi1
            refine ⟨.ref a, by rw [List.getElem?_set_self hl], rfl, hcv, dd, [(e.fld, v)], v, g2, g3, by rw [hc.2]; simp [List.lookup], ?_⟩
            exact q v σ' H0' H' E' g4
          · rw [if_neg hc] at q
            exact q.elim
        · subst hbf
          exact q σ' cv da H0' H' ⟨nz, dd, v, g1, g2, g0, g3, g4⟩ E'
end
end DW

set_option Elab.async false
set_option linter.all false
set_option maxRecDepth 100000
set_option maxHeartbeats 4000000
/-! DWX3: the facts of own error classes, told by the head -/
namespace DWX
open PySem PySem.W PySem.Calls PyProof.Rows L2 He
/-- an error class: its name, its field, the text of its __init__, the base above it -/
structure XD where
  cn : Str
  fld : Str
  st : Stmt
  B : String
  newId : String
  initId : String
  bmB : List Value
abbrev FnE : Type := Option (Str × Str × Arguments × FuncBody × Scope × Addr × List Str × Addr)
def initAt (K : Frag) (cn : Str) : Addr := ma K (ga K cn) "__init__"
def fnE (K : Frag) (a : Addr) : FnE := match K.lookup a with
  | some ⟨_, _, .func fd, _⟩ => some (fd.name, fd.qualname, fd.params, fd.body, fd.scope, fd.globals, fd.closure.map (·.1), fd.builtins)
  | _ => none
def XD.val (d : XD) : FnE := some ("__init__", d.cn ++ ".__init__", defArgs d.st, .stmts (defBody d.st), defScope d.st, mainGlobals, [PySem.Str.ofString "__class__"], builtinsNs)
def cellB (K : Frag) (C : Addr) : List (Str × Addr) → Bool
  | [(_, cc)] => (match K.lookup cc with
    | some ⟨_, _, .cell (some (.ref D)), _⟩ => decide (D = C)
    | _ => false)
  | _ => false
def fileB (K : Frag) (file : Str) : Value → Bool
  | .ref c => (match K.lookup c with
    | some ⟨_, _, .fields vs, _⟩ => (match (vs[2]? : Option Value) with
      | some (.str z _) => file == z
      | _ => false)
    | _ => false)
  | _ => false
def iniB (K : Frag) (file qual : Str) (C a : Addr) : Bool := match K.lookup a with
  | some ⟨_, _, .func fd, _⟩ => decide (fd.defaults = .none) && (decide (fd.kwdefaults = .none) && (codeIn K fd.code qual && (cellB K C fd.closure && fileB K file fd.code)))
  | _ => false
def XD.ok (file : Str) (K : Frag) (d : XD) : Bool :=
  eqO (nsIn K mainGlobals d.cn) (some (some (.ref (ga K d.cn)))) && (excInitIn K (ga K d.cn) d.bmB d.newId && (excOver K (ga K d.cn) d.bmB && (hasDictIn K (ga K d.cn) &&
  (eqO (findIn K (.ref (ga K d.cn)) "__setattr__") (some (some (.builtin "object.__setattr__"))) && (eqO (takerIn K (ga K d.cn) d.fld) (some none) && (eqO (findIn K (.ref (ga K d.cn)) d.fld) (some none) &&
  (eqO (findIn K (.ref (ga K d.cn)) "__init__") (some (some (.ref (initAt K d.cn)))) && (decide (typeIn K (.ref (initAt K d.cn)) = some (.type "function")) && (keepIn K (.ref (ga K d.cn)) &&
  (decide (subIn K (.ref (ga K d.cn)) (.type "BaseException") = some true) && (decide (subIn K (.ref (ga K d.cn)) (.type d.B) = some true) && (decide (mroIn K (ga K d.cn) (.ref (ga K d.cn)) = some true) &&
  (decide (typeIn K (.ref (ga K d.cn)) = some (.type "type")) && (eqO (ks_superIn K (ga K d.cn) (ga K d.cn) "__init__") (some (some (.builtin d.initId))) && (eqO (nsIn K mainGlobals "super") (some none) &&
  (eqO (nsIn K cStatics "thirdparty.any") (some none) && (xfB K (ga K d.cn) && iniB K file (d.cn ++ ".__init__") (ga K d.cn) (initAt K d.cn))))))))))))))))))
def TxtOk (st : Stmt) (f : Str) : Prop := ∃ (m : Str) (j : Nat) (p1 p2 q1 q2 q3 q4 q5 q6 r1 r2 r3 r4 : Pos), defArgs st = xA f p1 p2 ∧ defBody st = xB f m j q1 q2 q3 q4 q5 q6 r1 r2 r3 r4 ∧ defScope st = xS f ∧ McOk m j q1 q2 q3 q4 q5
theorem cellB_ok {K : Frag} {C : Addr} {cl : List (Str × Addr)} (h : cellB K C cl = true) : ∃ y cc cv cd cs, cl = [(y, cc)] ∧ K.lookup cc = some ⟨cv, cd, .cell (some (.ref C)), cs⟩ := by
  unfold cellB at h
  split at h
  · rename_i y cc
    split at h
    · rename_i a b D c e
      rw [of_decide_eq_true h] at e
      exact ⟨y, cc, _, _, _, rfl, e⟩
    · cases h
  · cases h
theorem fileB_ok {K : Frag} {file : Str} {v : Value} (h : fileB K file v = true) : ∃ c cv cd vs cs z t, v = .ref c ∧ K.lookup c = some ⟨cv, cd, .fields vs, cs⟩ ∧ vs[2]? = some (.str z t) ∧ (file == z) = true := by
  unfold fileB at h
  split at h
  · rename_i c
    split at h
    · rename_i a b vs d e
      split at h
      · rename_i z t e2
        exact ⟨c, _, _, _, _, z, t, rfl, e, e2, h⟩
      · cases h
    · cases h
  · cases h
theorem XD.own {P : Program} {K : Frag} {h : Heap} {mg : Str → Option Value} {d : XD} {file : Str} (X : K.In h) (G : h.Ns mainGlobals mg) (hok : d.ok file K = true) (hfn : fnE K (initAt K d.cn) = d.val) (tx : TxtOk d.st d.fld)
    (fb : ExcBaseFacts d.B d.newId d.initId d.bmB) (kf : KxsFacts d.B d.initId) (sf : StoreFacts d.B d.bmB "object.__setattr__" "object") (fo : FldOk d.fld) (hfile : (P.main.file : Str) = file) (top : (P.main.scope.names.lookup ("super" : Str)).isSome = false) :
    OwnX P K mg d.cn d.fld d.B d.newId d.initId d.bmB (ga K d.cn) (initAt K d.cn) := by
  unfold XD.ok at hok
  obtain ⟨h1, hok⟩ := ba hok
  obtain ⟨h2, hok⟩ := ba hok
  obtain ⟨h3, hok⟩ := ba hok
  obtain ⟨h4, hok⟩ := ba hok
  obtain ⟨h5, hok⟩ := ba hok
  obtain ⟨h6, hok⟩ := ba hok
  obtain ⟨h7, hok⟩ := ba hok
  obtain ⟨h8, hok⟩ := ba hok
  obtain ⟨h9, hok⟩ := ba hok
  obtain ⟨h10, hok⟩ := ba hok
  obtain ⟨h11, hok⟩ := ba hok
  obtain ⟨h12, hok⟩ := ba hok
  obtain ⟨h13, hok⟩ := ba hok
  obtain ⟨h14, hok⟩ := ba hok
  obtain ⟨h15, hok⟩ := ba hok
  obtain ⟨h16, hok⟩ := ba hok
  obtain ⟨h17, hok⟩ := ba hok
  obtain ⟨h18, h19⟩ := ba hok
  obtain ⟨m, j, p1, p2, q1, q2, q3, q4, q5, q6, r1, r2, r3, r4, t1, t2, t3, t4⟩ := tx
  refine ⟨fb, kf, sf, fo, mg_of X G (eqO_ok h1), h2, h3, h4, eqO_ok h5, eqO_ok h6, eqO_ok h8, of_decide_eq_true h9, h10, of_decide_eq_true h11, of_decide_eq_true h12, of_decide_eq_true h13, of_decide_eq_true h14, eqO_ok h15, mg_none_of X G (eqO_ok h16), xfB_ok h18, eqO_ok h7, eqO_ok h17, top, ?_⟩
  unfold iniB at h19
  unfold fnE XD.val at hfn
  cases e : K.lookup (initAt K d.cn) with
  | none =>
    rw [e] at hfn
    cases hfn
  | some o =>
    obtain ⟨oc, od, dt, osl⟩ := o
    rw [e] at hfn h19
    cases dt with
    | func fd =>
      obtain ⟨g1, g2⟩ := ba h19
      obtain ⟨g3, g4⟩ := ba g2
      obtain ⟨g5, g6⟩ := ba g4
      obtain ⟨g7, g8⟩ := ba g6
      obtain ⟨y, cc, cv, cdx, cs, c1, c2⟩ := cellB_ok g7
      obtain ⟨c, cv2, cd2, vs, cs2, z, t, f1, f2, f3, f4⟩ := fileB_ok g8
      have k1 := of_decide_eq_true g1
      have k2 := of_decide_eq_true g3
      obtain ⟨nm, qn, params, body, scope, gl, clo, dv, kv, doc, pm, an, code, ct, bl⟩ := fd
      dsimp only at k1 k2 c1 f1 g5 hfn
      subst k1 k2 c1 f1
      injection hfn with hfn
      simp only [Prod.mk.injEq, List.map_cons, List.map_nil, List.cons.injEq, and_true] at hfn
      obtain ⟨rfl, rfl, rfl, rfl, rfl, rfl, rfl, rfl⟩ := hfn
      rw [t1, t2, t3]
      exact ⟨oc, od, doc, pm, an, ct, osl, _, m, j, p1, p2, q1, q2, q3, q4, q5, q6, r1, r2, r3, r4, cc, c, cv, cv2, cdx, cd2, cs, cs2, vs, z, t, rfl, g5, c2, f2, f3, by rw [hfile]; exact f4, t4⟩
    | _ => cases h19
/-! ### the Hook: what the names of the module reach, and the statics -/
/-- those that are not yet among the bits of m -/
def visB : List Addr → Nat → List Addr → Nat × List Addr
  | [], m, out => (m, out)
  | a :: as, m, out => match Nat.beq (Nat.land (Nat.shiftRight m a) 1) 1 with
    | true => visB as m out
    | false => visB as (Nat.lor m (Nat.shiftLeft 1 a)) (a :: out)
def refB (g : Addr → Option Obj) (a : Addr) : List Addr := match g a with
  | some o => refsD o
  | none => []
def asB (g : Addr → Option Obj) : Nat → Nat → List Addr → List Addr → List Addr
  | 0, _, _, all => all
  | n + 1, m, fr, all => match visB (fr.flatMap (refB g)) m [] with
    | (m', new) => asB g n m' new (new ++ all)
def asE (g : Addr → Option Obj) (n : Nat) : List Addr := sysModules :: cStatics :: asB g n (Nat.shiftLeft 1 mainGlobals) [mainGlobals] [mainGlobals]
abbrev frE (g : Addr → Option Obj) (n : Nat) : Frag := frT g (asE g n)
abbrev AlE : Type := (AlT × Bool) × List FnE
def obsE (n : Nat) (fa : List Fa) (fn : List DefD) (ts : List Tab) (tf : List Defn) (file : Str) (xs : List XD) (ex : Frag → Bool) (g : Addr → Option Obj) : AlE :=
  ((obsT fa fn ts (frE g n), xs.all (XD.ok file (frE g n)) && (tabsB g tf (frE g n) && ex (frE g n))), xs.map fun d => fnE (frE g n) (initAt (frE g n) d.cn))
def valE (fn : List DefD) (ts : List Tab) (xs : List XD) (w : World) : AlE := ((valT fn ts w, true), xs.map XD.val)
structure SaysE (fa : List Fa) (fn : List DefD) (ts : List Tab) (tf : List Defn) (file : Str) (xs : List XD) (ex : Frag → Bool) (w : World) (h : Heap) (K : Frag) : Prop where
  t : SaysT fa fn ts w K
  ok : ∀ d ∈ xs, d.ok file K = true
  txt : ∀ d ∈ xs, fnE K (initAt K d.cn) = d.val
  hd : ∀ p ∈ tf, codeHdIn K (cT K p).1 (cT K p).2 = true
  out : ∀ p ∈ tf, K.lookup (cT K p).2 = none
  empty : ∀ p ∈ tf, h.get? (cT K p).2 = some { cls := .none, data := .fields #[] }
  ex : ex K = true
theorem map_all {α β : Type} {f g : α → β} : ∀ {l : List α}, l.map f = l.map g → ∀ x ∈ l, f x = g x
  | [], _, _, h => nomatch h
  | a :: l, e, x, h => by
    injection e with e1 e2
    cases h with
    | head => exact e1
    | tail _ h => exact map_all e2 x h
theorem saysE_of {n : Nat} {fa : List Fa} {fn : List DefD} {ts : List Tab} {tf : List Defn} {file : Str} {xs : List XD} {ex : Frag → Bool} {w : World} {h : Heap} (e : obsE n fa fn ts tf file xs ex h.get? = valE fn ts xs w) : SaysE fa fn ts tf file xs ex w h (frE h.get? n) := by
  have e1 : obsT fa fn ts (frE h.get? n) = valT fn ts w := congrArg (fun z : AlE => z.1.1) e
  have e2 : (xs.all (XD.ok file (frE h.get? n)) && (tabsB h.get? tf (frE h.get? n) && ex (frE h.get? n))) = true := congrArg (fun z : AlE => z.1.2) e
  have e3 : (xs.map fun d => fnE (frE h.get? n) (initAt (frE h.get? n) d.cn)) = xs.map XD.val := congrArg (fun z : AlE => z.2) e
  obtain ⟨h1, h2⟩ := ba e2
  obtain ⟨h2, hex⟩ := ba h2
  have tabs : ∀ p ∈ tf, codeHdIn (frE h.get? n) (cT (frE h.get? n) p).1 (cT (frE h.get? n) p).2 = true ∧ ∃ o, h.get? (cT (frE h.get? n) p).2 = some o ∧ emptyTab o = true := fun p hp => by
    obtain ⟨h3, h4⟩ := ba (List.all_eq_true.mp h2 p hp)
    refine ⟨h3, ?_⟩
    split at h4
    · rename_i o q
      exact ⟨o, q, h4⟩
    · cases h4
  refine ⟨e1, List.all_eq_true.mp h1, fun d hd => map_all e3 d hd, fun p hp => (tabs p hp).1, fun p hp => ?_, fun p hp => ?_, hex⟩
  · obtain ⟨o, q, z⟩ := (tabs p hp).2
    exact frT_none q z
  · obtain ⟨o, q, z⟩ := (tabs p hp).2
    rw [q, emptyTab_eq z]
def hookE (n : Nat) (fa : List Fa) (fn : List DefD) (ts : List Tab) (tf : List Defn) (file : Str) (xs : List XD) (ex : Frag → Bool) : Hook where
  α := AlE
  obs := fun s => obsE n fa fn ts tf file xs ex s.heap.get?
  val := fun w => valE fn ts xs w
  says := fun w h => ∃ K : Frag, K.In h ∧ SaysE fa fn ts tf file xs ex w h K
  of := fun _ _ e => ⟨_, frT_in, saysE_of e⟩
  keeps := fun _ _ _ ⟨K, hK, c⟩ k => ⟨K, Frag.In.keeps hK k, ⟨c.t, c.ok, c.txt, c.hd, c.out, fun p hp => k _ _ (c.empty p hp), c.ex⟩⟩
theorem obsE_eq {n : Nat} {fa : List Fa} {fn : List DefD} {ts : List Tab} {tf : List Defn} {file : Str} {xs : List XD} {ex : Frag → Bool} {g : Addr → Option Obj} {s : Shared} (h : ∀ a, g a = s.heap.get? a) : obsE n fa fn ts tf file xs ex g = (hookE n fa fn ts tf file xs ex).obs s := by
  have e : g = s.heap.get? := funext h
  rw [e]
  rfl
/-! ### the three bases -/
abbrev veB : List Value := [.type "ValueError", .type "Exception", .type "BaseException", .type "object"]
abbrev leB : List Value := [.type "LookupError", .type "Exception", .type "BaseException", .type "object"]
abbrev oeB : List Value := [.type "OverflowError", .type "ArithmeticError", .type "Exception", .type "BaseException", .type "object"]
/-- the __init__ that a class's text begins with -/
def clsInit : Stmt → Stmt
  | .ClassDef _ _ _ (st :: _) .. => st
  | st => st
end DWX

set_option Elab.async false
set_option linter.all false
set_option maxRecDepth 100000
set_option maxHeartbeats 4000000
/-! DWT: a law's end where lambdas were made (tables of code objects) -/
namespace DW
open PySem PySem.Spec PyProof.Rows L2
theorem lawT {P : Program} {w : World} {K : PySem.W.Frag} {mg mb : Str → Option Value} {CX : CXT} {k : Nat} {fa a : Addr} {cs : List (Addr × Addr)} {fd : FuncData} {x : Str} {sp : Sp} {t : Shared} {us : List Value} {ns : List Int}
    (kin : K.In t.heap) (glob : t.heap.Ns mainGlobals mg) (blt : t.heap.Ns builtinsNs mb) (boot : ∀ x : Str, x ≠ "__name__" → mb x = bootBuiltins x) (lim : t.heap.NoLimit) (gens : t.gens = #[])
    (tab : ∀ p ∈ cs, t.heap.get? p.2 = some { cls := .none, data := .fields #[] }) (out : ∀ p ∈ cs, K.lookup p.2 = none) (code : ∀ p ∈ cs, PySem.W.codeHdIn K p.1 p.2 = true)
    (bmod : ∃ (bm : Addr) (ob : Obj), mg "__builtins__" = some (.ref bm) ∧ bm ≠ builtinsNs ∧ t.heap.get? bm = some ob ∧ ob.cls = .type "module" ∧ ob.dict = some builtinsNs ∧ ob.data = .plain)
    (obj : t.heap.get? a = some { cls := .type "list", data := .seq us.toArray }) (hints : IntsAre us ns) (len : ns.length ≤ sizeLine) (room : Room k callerA)
    (G : ∀ base : Heap, K.In base → base.Ns mainGlobals mg → (∀ p ∈ cs, LamX.TabB base mg p.1 p.2) → FnG P w K mg base CX k fa fd [x] sp) (bind : ∀ (s : Shared) (u : Value), BindsTo s fd ⟨[u], []⟩ [(x, u)])
    (hsp : ∀ H : Hp, (∀ p ∈ cs, H p.2 = some (.tbl #[])) → SqL K H a (ns.map V.int) → sp [.ref a] H (fun v _ => v = .bl true) fun _ _ _ => False)
    (hCX : ∀ H e s', CX [] H t (fun _ _ _ => False) e s' → False) :
    codeAny (model P w) callerA (.call (.ref fa) ⟨[.ref a], []⟩) (fun r s' => r = .ok (.ret (.bool true)) ∧ OldK t.heap s'.heap ∧ s'.os = t.os ∧ AllBare s'.gens) t := by
  let tb : Addr → Prop := fun b => ∃ p ∈ cs, p.2 = b
  have tabAt : ∀ {b}, tb b → t.heap.get? b = some { cls := .none, data := .fields #[] } := fun ⟨p, hp, e⟩ => e ▸ tab p hp
  have notA : ¬ tb a := fun z => by
    have q := tabAt z
    rw [obj] at q
    cases q
  have codeT : ∀ p ∈ cs, PySem.W.CodeHd t.heap p.1 p.2 := fun p hp => PySem.W.codeHd_of_K kin (code p hp)
  -- H: the script, the tables, no more
  have key : ∀ H : Hp, (∀ p ∈ cs, H p.2 = some (.tbl #[])) → (∀ b, H b = none ∨ tb b ∨ ∃ o xs, H b = some (.frz o (.lst xs))) → SqL K H a (ns.map V.int) → HOk P w H t.heap → (∀ b, H b ≠ none → b = a ∨ tb b) → (H a ≠ none → K.lookup a = none) →
      codeAny (model P w) callerA (.call (.ref fa) ⟨[.ref a], []⟩) (fun r s' => r = .ok (.ret (.bool true)) ∧ OldK t.heap s'.heap ∧ s'.os = t.os ∧ AllBare s'.gens) t := fun H tabs kinds sq hok at_ off => by
    have away : ∀ {b : Addr}, b ≠ a → ¬ tb b → H b = none := fun {b} hb hn => by
      cases q : H b with
      | none => rfl
      | some u =>
        rcases at_ b (by rw [q]; exact fun z => nomatch z) with z | z
        · exact absurd z hb
        · exact absurd z hn
    have other : ∀ {b : Addr} {o : Obj}, t.heap.get? b = some o → (∀ vs n, o.data ≠ .seq vs n) → o.data ≠ .fields #[] → H b = none := fun {b o} e n1 n2 => by
      refine away (fun z => ?_) fun z => ?_
      · rw [z, obj] at e
        cases e
        exact n1 _ _ rfl
      · rw [tabAt z] at e
        cases e
        exact n2 rfl
    have move : ∀ {b : Addr} {m : Str → Option Value}, t.heap.Ns b m → (hidT t.heap H).Ns b m := fun {b m} n => by
      obtain ⟨o, es, ep, e, d, rest⟩ := n
      exact ⟨o, es, ep, hidT_get e (other e (fun _ _ z => by rw [d] at z; cases z) fun z => by rw [d] at z; cases z), d, rest⟩
    have kinH : K.In (hidT t.heap H) := fun b o e => by
      refine hidT_get (kin b o e) ?_
      by_cases hb : b = a
      · subst hb
        cases q : H b with
        | none => rfl
        | some u =>
          rw [off (by rw [q]; exact fun z => nomatch z)] at e
          cases e
      · refine away hb fun ⟨p, hp, z⟩ => ?_
        rw [← z, out p hp] at e
        cases e
    have tabB : ∀ p ∈ cs, LamX.TabB (hidT t.heap H) mg p.1 p.2 := fun p hp => by
      refine ⟨PySem.W.codeHd_of_K kinH (code p hp), ?_, fun z => ?_⟩
      · obtain ⟨bm, ob, b1, b2, b3, b4, b5, b6⟩ := bmod
        refine ⟨bm, ob, b1, b2, fun z => ?_, fun z => ?_, hidT_get b3 (other b3 (fun _ _ z => by rw [b6] at z; cases z) fun z => by rw [b6] at z; cases z), b4, b5, b6⟩
        · obtain ⟨o, es, ep, e, d, _⟩ := glob
          rw [z, e] at b3
          cases b3
          rw [d] at b6
          cases b6
        · rw [z, tab p hp] at b3
          cases b3
          cases b6
      · obtain ⟨o, es, ep, e, d, _⟩ := glob
        rw [z, tab p hp] at e
        cases e
        cases d
    obtain ⟨mc, l1, l2⟩ := lim
    have env0 : Env0 P w K mg (hidT t.heap H) callerA [] t H := ⟨rfl, ⟨kinH, move glob, ⟨mb, move blt, boot⟩, ⟨mc, move l1, l2⟩⟩, fun _ _ e => of_hidT e, Nat.le_of_eq (hidT_size _ _), trivial, fun b hb => (nomatch hb), hok, .of_eq gens⟩
    refine codeAny_mono ((G _ kinH (move glob) tabB).run callerA [] t H ⟨[.ref a], []⟩ [.ref a] [.ref a] _ _ room rfl env0 (bind t (.ref a)) (.cons rfl .nil) (hsp H tabs sq)) fun res s' h => ?_
    match res, h with
    | .error e, h => exact (hCX H e s' h).elim
    | .ok .next, h => exact False.elim h
    | .ok .brk, h => exact False.elim h
    | .ok .cont, h => exact False.elim h
    | .ok (.ret u), ⟨v, H', os, bare, un, hok', rel, q⟩ =>
      have hv : v = .bl true := q
      subst hv
      have hu : u = Value.bool true := rel
      subst hu
      have stay : ∀ b o, ¬ tb b → t.heap.get? b = some o → s'.heap.get? b = some o := fun b o nb e => by
        rcases kinds b with z | z | ⟨ob, xs, z⟩
        · exact un.keep b o e z (fun m => nomatch m) (fun m => nomatch m)
        · exact absurd z nb
        · have e1 := (hok b _ z).1
          rw [e] at e1
          cases e1
          exact (hok' b _ (un.frzs b _ _ z)).1
      have more : ∀ p ∈ cs, ∃ vs : Array Value, s'.heap.get? p.2 = some { cls := .none, data := .fields vs } := fun p hp => by
        obtain ⟨vs, z⟩ := un.tbls p.2 #[] (tabs p hp)
        exact ⟨_, hok' p.2 _ z⟩
      refine ⟨rfl, ⟨fun b o e => ?_, fun b o e => ?_⟩, os, bare⟩
      · by_cases hb : tb b
        · obtain ⟨p, hp, z⟩ := hb
          subst z
          obtain ⟨vs, hvs⟩ := more p hp
          rw [tab p hp] at e
          cases e
          exact .inr (.inl ⟨((codeT p hp).tab (tab p hp)).isCodeTable, rfl, #[], vs, rfl, by rw [Array.empty_append]; exact hvs⟩)
        · exact .inl (stay b o hb e)
      · by_cases hb : tb b
        · obtain ⟨p, hp, z⟩ := hb
          subst z
          obtain ⟨vs, hvs⟩ := more p hp
          exact ⟨_, hvs⟩
        · exact ⟨o, stay b o hb e⟩
  have rel := vals_ints hints
  have tabIn : ∀ p ∈ cs, tb p.2 := fun p hp => ⟨p, hp, rfl⟩
  have tabNe : ∀ p ∈ cs, p.2 ≠ a := fun p hp z => notA (z ▸ tabIn p hp)
  classical
  by_cases hk : ∃ o, K.lookup a = some o
  · obtain ⟨o, hk⟩ := hk
    have e := kin a o hk
    rw [obj] at e
    cases e
    refine key (fun b => if tb b then some (.tbl #[]) else none) (fun p hp => if_pos (tabIn p hp)) (fun b => ?_) (.inr ⟨_, us.toArray, _, hk, rfl, rfl, rfl, by rw [List.size_toArray, hints.length]; exact len, by simpa using rel⟩) (fun b u z => ?_) (fun b z => ?_) fun z => absurd (if_neg notA) z
    · by_cases hb : tb b
      · exact .inr (.inl hb)
      · exact .inl (if_neg hb)
    · by_cases hb : tb b
      · cases (if_pos hb).symm.trans z
        exact tabAt hb
      · cases (if_neg hb).symm.trans z
    · by_cases hb : tb b
      · exact .inr hb
      · exact absurd (if_neg hb) z
  · have hk' : K.lookup a = none := by
      cases q : K.lookup a with
      | none => rfl
      | some o => exact absurd ⟨o, q⟩ hk
    refine key (fun b => if b = a then some (.frz { cls := .type "list", data := .seq us.toArray } (.lst (ns.map V.int))) else if tb b then some (.tbl #[]) else none) (fun p hp => (if_neg (tabNe p hp)).trans (if_pos (tabIn p hp))) (fun b => ?_) (.inl (.inr ⟨_, if_pos rfl⟩)) (fun b u z => ?_) (fun b z => ?_) fun _ => hk'
    · by_cases hb : b = a
      · exact .inr (.inr ⟨_, _, if_pos hb⟩)
      · by_cases hb2 : tb b
        · exact .inr (.inl hb2)
        · exact .inl ((if_neg hb).trans (if_neg hb2))
    · by_cases hb : b = a
      · subst hb
        cases (if_pos rfl).symm.trans z
        exact ⟨obj, by rw [List.length_map]; exact len, us, _, rel, obj⟩
      · have z1 := (if_neg hb).symm.trans z
        by_cases hb2 : tb b
        · cases (if_pos hb2).symm.trans z1
          exact tabAt hb2
        · cases (if_neg hb2).symm.trans z1
    · by_cases hb : b = a
      · exact .inl hb
      · by_cases hb2 : tb b
        · exact .inr hb2
        · exact absurd ((if_neg hb).trans (if_neg hb2)) z
theorem walkT {l : PySem.W.OpenLaw} {n k : Nat} {q : Program} {loose : List Str} {XP : (Str → Option Value) → Heap → Prop} {YP : World → Heap → Prop} {d : DefRec} {CX : CXT} {x : Str}
    (most : l.most = some n) (line : n ≤ sizeLine) (dfl : d.params.defaults = []) (room : Room k callerA)
    (F : ∀ (w : World) (mg : Str → Option Value) (fa : Addr) (h : Heap), YP w h → h.Ns mainGlobals mg → mg d.name = some (.ref fa) →
      ∃ (K : PySem.W.Frag) (fd : FuncData) (sp : Sp) (cs : List (Addr × Addr)), K.In h ∧ (∀ p ∈ cs, h.get? p.2 = some { cls := .none, data := .fields #[] }) ∧ (∀ p ∈ cs, K.lookup p.2 = none) ∧ (∀ p ∈ cs, PySem.W.codeHdIn K p.1 p.2 = true) ∧ (∀ (s : Shared) (u : Value), BindsTo s fd ⟨[u], []⟩ [(x, u)]) ∧
        (∀ (H : Hp) (a : Addr) (ns : List Int), ns.length ≤ n → (∀ p ∈ cs, H p.2 = some (.tbl #[])) → SqL K H a (ns.map V.int) → sp [.ref a] H (fun v _ => v = .bl true) fun _ _ _ => False) ∧
        ∀ base : Heap, K.In base → base.Ns mainGlobals mg → (∀ p ∈ cs, LamX.TabB base mg p.1 p.2) → FnG l.prog w K mg base CX k fa fd [x] sp)
    (hCX : ∀ (H : Hp) (s : Shared) (e : Value) (s' : Shared), CX [] H s (fun _ _ _ => False) e s' → False) :
    PySem.W.WalkO q loose XP YP l.row.toRowW d [] (fun f vs => PySem.call f vs) :=
  Att.attach_call most dfl fun w _ t mg mb fa _ _ _ _ a us ns Gd Y _ _ _ hmg hobj hints hlen hg => by
    obtain ⟨K, fd, sp, cs, kin, tab, out, code, bind, hsp, hF⟩ := F w mg fa _ Y Gd.T.g hmg
    exact lawT kin Gd.T.g Gd.T.b Gd.T.builtins Gd.T.nolimit hg tab out code Gd.T.bmain hobj hints (Nat.le_trans hlen line) room hF bind (fun H tabs sq => hsp H a ns hlen tabs sq) fun H e s' => hCX H t e s'
end DW

set_option Elab.async false
set_option linter.all false
set_option maxRecDepth 100000
set_option maxHeartbeats 4000000
/-! DWU: a lambda handed to a def that calls it (with no parameter, or with one that has a whole number as default) -/
namespace DW
open PySem PySem.Spec PyProof.Rows L2 LamX
/-- H1 is H, but for the table at P and a new code object -/
structure Tg (P : Addr) (T : List (Addr × Str)) (H H1 : Hp) : Prop where
  kp : ∀ b o, b ≠ P → H b = some o → H1 b = some o
  tb : Tabs T H1
  st : H1 P ≠ none
abbrev lamQ (X : Cx) : Str := X.env.qual ++ "<lambda>"
abbrev lamO (X : Cx) (params : Arguments) (body : Expr) (scope : Scope) (dV doc pm : Value) (c' : Addr) (ctv : Value) : Obj := PySem.W.kdv_obj "<lambda>" (lamQ X) params (.expr body) scope (cloFrom X.env.cells scope.names []) dV doc pm c' ctv
section
variable {X : Cx} {pins : List (Addr × Obj)} {σ : L2.St} {H HZ : Hp} {s s1 : Shared}
theorem noframe (I : Inv X pins σ H s) {f : Addr} (hf : s.heap.objs.size ≤ f) : f ∉ frs X.stack := fun z => by
  rcases List.mem_cons.mp (I.stkSub _ z) with e | e
  · exact Nat.lt_irrefl _ (Nat.lt_of_lt_of_le (e ▸ I.lt) hf)
  · exact I.nofs hf e
/-- the function object is made -/
theorem lamTail {T : List (Addr × Str)} {c P : Addr} {params : Arguments} {body : Expr} {scope : Scope} {pos : Pos} {dV : Value} {E : Value → Shared → Prop} {Q : Value → Shared → Prop} (I : Inv X pins σ H s) (tab : TabB X.base X.mg c P) (code : X.env.code = .ref c)
    (inT : (P, lamQ X) ∈ T) (only : ∀ p ∈ T, p.1 = P → p.2 = lamQ X) (tabs : Tabs T H) (caught : ∀ y ∈ scope.names, y.2 = .free → ∃ c, X.env.cells.lookup y.1 = some c)
    (h : ∀ (f c' : Addr) (doc pm ctv : Value) (H1 : Hp) (s' : Shared), Inv X pins σ H1 s' → Tg P T H H1 → (∀ b o, b ≠ P → s.heap.get? b = some o → s'.heap.get? b = some o) → (∀ b, s.heap.objs.size ≤ b → H b = none) →
      s'.heap.get? f = some (lamO X params body scope dV doc pm c' ctv) → H1 f = none → f ∉ frs X.stack → H1 c' = some (CodeO c' (lamQ X)) → c' ≠ f → (∀ b o, s.heap.get? b = some o → H b = none → H1 b = none) → Q (.ref f) s') :
    wpAny (model X.prog X.w) X.A (makeTail "<lambda>" (lamQ X) params (.expr body) scope X.env dV .none none pos pos.line) Q E s := by
  obtain ⟨ps, atP, tri, each⟩ := tabs _ inT
  have blt : s.heap.BuiltinsAt X.mg P := tab.bm.keeps I.bk
  have getP : s.heap.get? P = some { cls := .none, data := .fields ps } := I.hok P _ atP
  have fresh : ∀ b, s.heap.objs.size ≤ b → H b = none := fun b hb => I.hok.fresh hb
  cases found : codeAmong pos ps.toList with
  | none =>
    refine PySem.W.kdv_makeTail (mg := X.mg) (c := c) (P := P) (ps := ps) (closure_ok caught) I.ok.glob (I.mod.glob.keeps I.bk) code (tab.code.keeps I.bk) getP tri found tab.gP blt fun c' ctv doc h' tk ext ge lt rec tb' => ?_
    obtain ⟨c2, oc, vs, u, e2, hoc, hd, hv⟩ := rec
    cases e2
    have sz : s.heap.objs.size ≤ h'.objs.size := Nat.le_trans ge (Nat.le_of_lt lt)
    have newC : H c' = none := fresh c' ge
    have J := inv_table (t' := tk) (more := #[rawInt pos.line, rawInt pos.col, .ref c']) (h' := h'.push (lamO X params body scope dV doc ((X.mg "__name__").getD .none) c' ctv)) I atP
      (fun b o hb e => Heap.get?_push_of_some _ (ext b o hb e)) (Heap.get?_push_of_some _ tb') ge ⟨oc, vs, u, Heap.get?_push_of_some _ hoc, hd, hv⟩
    have app : (ps ++ #[rawInt pos.line, rawInt pos.col, .ref c']).toList = ps.toList ++ [rawInt pos.line, rawInt pos.col, .ref c'] := by simp
    have nPc : P ≠ c' := ne_of_none atP newC
    have keep1 : ∀ b o, b ≠ P → H b = some o → upd (upd H P (.tbl (ps ++ #[rawInt pos.line, rawInt pos.col, .ref c']))) c' (CodeO c' (lamQ X)) b = some o := fun b o hb e => by
      rw [upd_ne (ne_of_none e newC), upd_ne hb]
      exact e
    have notT : ∀ {b : Addr} {q : Str}, H b = some (CodeO b q) → b ≠ P := fun {b q} e z => by
      rw [z, atP] at e
      exact codeO_ne _ (Option.some.inj e).symm
    refine h h'.objs.size c' doc ((X.mg "__name__").getD .none) ctv _ _ J ⟨keep1, fun p hp => ?_, ?_⟩ (fun b o hb e => Heap.get?_push_of_some _ (ext b o hb e)) fresh (Heap.get?_push_size _ rfl) ?_ (noframe I sz) upd_same (Nat.ne_of_lt lt) (fun b o e n => ?_)
    · by_cases hb : p.1 = P
      · rw [only p hp hb, hb]
        refine ⟨_, by rw [upd_ne nPc, upd_same], by rw [app]; exact PySem.TriplesOk_snoc _ _ _ _ tri, fun p' cv hcv => ?_⟩
        rw [app] at hcv
        rcases among_app _ tri hcv with z | z
        · obtain ⟨c0, e1, e2⟩ := each p' cv z
          exact ⟨c0, e1, keep1 _ _ (notT e2) e2⟩
        · exact ⟨c', z, upd_same⟩
      · obtain ⟨ps', a1, a2, a3⟩ := tabs p hp
        refine ⟨ps', keep1 _ _ hb a1, a2, fun p' cv hcv => ?_⟩
        obtain ⟨c0, e1, e2⟩ := a3 p' cv hcv
        exact ⟨c0, e1, keep1 _ _ (notT e2) e2⟩
    · rw [upd_ne nPc, upd_same]
      exact fun z => nomatch z
    · rw [upd_ne (Nat.ne_of_gt lt), upd_ne (Nat.ne_of_gt (Nat.lt_of_lt_of_le (Heap.lt_size getP) sz))]
      exact fresh _ sz
    · rw [upd_ne (Nat.ne_of_lt (Nat.lt_of_lt_of_le (Heap.lt_size e) ge)), upd_ne (fun z => by rw [z, atP] at n; cases n)]
      exact n
  | some cv =>
    obtain ⟨c', e, hco⟩ := each pos cv found
    subst e
    refine PySem.W.kdv_makeTailHit (mg := X.mg) (c := c) (P := P) (ps := ps) (closure_ok caught) I.ok.glob (I.mod.glob.keeps I.bk) code (tab.code.keeps I.bk) getP tri found blt fun ctv doc h' tk ext sz => ?_
    have J : Inv X pins σ H { s with heap := h'.push (lamO X params body scope dV doc ((X.mg "__name__").getD .none) c' ctv), toks := tk } := I.kept fun b o e => Heap.get?_push_of_some _ (ext b o e)
    have hcs : c' < s.heap.objs.size := by
      obtain ⟨⟨oc, _, _, q, _⟩, _⟩ := I.hok c' _ hco
      exact Heap.lt_size q
    exact h h'.objs.size c' doc ((X.mg "__name__").getD .none) ctv H _ J ⟨fun _ _ _ e => e, tabs, by rw [atP]; exact fun z => nomatch z⟩ (fun b o _ e => Heap.get?_push_of_some _ (ext b o e)) fresh (Heap.get?_push_size _ rfl) (fresh _ sz) (noframe I sz) hco (Nat.ne_of_lt (Nat.lt_of_lt_of_le hcs sz)) (fun _ _ _ n => n)
/-! ### the lambda's names -/
structure LamN (N : List Str) (sc scope : Scope) : Prop where
  kind : scope.kind = .function
  co : scope.isCoroutine = false
  gen : scope.isGenerator = false
  cell : ∀ y ∈ scope.names, y.2 ≠ .cell
  own : ∀ y, scope.names.lookup y = some .local → y ∉ N
  free : ∀ y ∈ scope.names, y.2 = .free → sc.names.lookup y.1 = some .cell ∨ sc.names.lookup y.1 = some .free
def lamNB (N : List Str) (sc scope : Scope) : Bool :=
  decide (scope.kind = .function) && (!scope.isCoroutine && (!scope.isGenerator && (scope.names.all (fun y => !decide (y.2 = .cell)) && (scope.names.all (fun y => !decide (y.2 = .local) || !N.contains y.1) && scope.names.all fun y => !decide (y.2 = .free) || decide (sc.names.lookup y.1 = some .cell) || decide (sc.names.lookup y.1 = some .free)))))
theorem lamN_by {N : List Str} {sc scope : Scope} (h : lamNB N sc scope = true) : LamN N sc scope := by
  unfold lamNB at h
  simp only [Bool.and_eq_true, Bool.or_eq_true, Bool.not_eq_true', decide_eq_true_eq, decide_eq_false_iff_not, List.all_eq_true] at h
  obtain ⟨h1, h2, h3, h4, h5, h6⟩ := h
  refine ⟨h1, h2, h3, h4, fun y hy hm => ?_, fun y hy e => ?_⟩
  · rcases h5 _ (PySem.mem_of_lookup hy) with z | z
    · exact z rfl
    · have : N.contains y = true := by simpa using hm
      rw [this] at z
      cases z
  · rcases h6 y hy with (z | z) | z
    · exact absurd e z
    · exact .inl z
    · exact .inr z
theorem LamN.has {scope : Scope} (L : LamN X.N X.env.scope scope) (ok : X.Ok) : ∀ y ∈ scope.names, y.2 = .free → ∃ c, X.env.cells.lookup y.1 = some c := fun y hy e => by
  rcases L.free y hy e with k | k
  · exact ok.has _ (.inl k)
  · exact ok.has _ (.inr k)
/-- the lambda's body begins -/
theorem lamStart {A : Around} {outer : List Env} {E : XK} {scope : Scope} {f c' : Addr} {h₁ : Heap} {tk : Nat} {binds : List (Str × Value)} (I : Inv X pins σ H s) (L : LamN X.N X.env.scope scope) (e0 : Env0 X.prog X.w X.K X.mg X.base A outer s1 HZ) (calm : A.handled = none)
    (un : Un (frs X.stack) [] H HZ s.heap s1.heap) (ns : h₁.Ns s1.heap.objs.size fun y => binds.reverse.lookup y) (kp : ∀ b o, s1.heap.get? b = some o → h₁.get? b = some o) :
    Inv (lamCx X A outer s1 HZ E scope f c') [] σ HZ { s1 with heap := h₁, toks := tk } := by
  have caught := L.has I.ok
  have down : ∀ {y c}, (cloFrom X.env.cells scope.names []).lookup y = some c → X.env.cells.lookup y = some c := fun {y c} e => by
    rcases cloFrom_mem (PySem.mem_of_lookup e) with z | ⟨z1, z2⟩
    · cases z
    · obtain ⟨c1, hc⟩ := caught _ z1 rfl
      rw [z2, show X.env.cells.lookup y = some c1 from hc]
      rfl
  have up : ∀ {y}, scope.names.lookup y = some .free → ∃ c, (cloFrom X.env.cells scope.names []).lookup y = some c := fun {y} hl => mem_lookup (cloFrom_has (cells := X.env.cells) (acc := []) (PySem.mem_of_lookup hl))
  have cellK : ∀ {c : Addr} {v : Option Value}, H c = none → s.heap.IsCell c v → h₁.IsCell c v := fun {c v} n ⟨o, ho, hd⟩ => by
    obtain ⟨sl, q⟩ := un.any ho n (fun z => nomatch z)
    exact ⟨_, kp _ _ q, hd⟩
  have none_ : ∀ b : Addr, b ∉ (lamCx X A outer s1 HZ E scope f c').ex := fun b z => nomatch (show b ∈ ([] : List Addr) from z)
  refine ⟨⟨e0.mod, L.kind, rfl, rfl, Nat.le_refl _, fun y z c e1 e2 => I.ok.inj y z c (down e1) (down e2), fun y hy => ?_, fun y c z _ => (Bool.false_ne_true z).elim, fun _ => calm, Around.frames_deeper e0.frames, .inr ⟨rfl, rfl⟩, fun b z => absurd z (none_ b), e0.bs, e0.bsz, fun b _ _ => none_ b, fun b z => absurd z (none_ b), e0.funs, e0.frf⟩,
    rfl, e0.bare, Un.kept kp, ⟨_, ns, fun i y v e1 e2 e3 => ?_⟩, fun y c e => ?_, e0.hok.fresh (Nat.le_refl _), fun y c e => ?_, fun q hq => (nomatch (show q ∈ ([] : List (Addr × Obj)) ++ [] from hq)), e0.hok.kept kp, I.len⟩
  · rcases (show scope.names.lookup y = some .cell ∨ scope.names.lookup y = some .free from hy) with hy | hy
    · exact absurd rfl (L.cell _ (PySem.mem_of_lookup hy))
    · exact up hy
  · rcases (show Vis scope y from e3) with k | k | k
    · exact absurd (List.mem_of_getElem? (show X.N[i]? = some y from e1)) (L.own y k)
    · exact absurd rfl (L.cell _ (PySem.mem_of_lookup k))
    · obtain ⟨m, hn, hl⟩ := I.loc
      have side := L.free _ (PySem.mem_of_lookup k) rfl
      obtain ⟨w', r, q⟩ := hl i y v e1 e2 (side.elim (fun k => .inr (.inl k)) (fun k => .inr (.inr k)))
      obtain ⟨c2, h2⟩ := up k
      refine ⟨w', r, .inr ⟨.inr k, c2, h2, ?_⟩⟩
      rcases q with ⟨k', _⟩ | ⟨_, c3, e', z⟩
      · have k' : X.env.scope.names.lookup y = some .local := k'
        rcases side with k2 | k2
        · rw [show X.env.scope.names.lookup y = _ from k2] at k'
          cases k'
        · rw [show X.env.scope.names.lookup y = _ from k2] at k'
          cases k'
      · rw [down h2] at e'
        cases e'
        exact cellK (I.freeC y _ (down h2)) z
  · obtain ⟨w', z⟩ := I.cell y c (down e)
    exact ⟨w', cellK (I.freeC y c (down e)) z⟩
  · obtain ⟨v, o, ho, hd⟩ := I.cell y c (down e)
    exact un.free c o ho (I.freeC y c (down e)) (fun z => nomatch z)
/-! ### it is called: Z is the context of the def that got it, entered at s -/
/-- the call's reading: what it may raise is wished for where it is called -/
def tAct (f c' : Addr) (q : Str) (i : Nat) (W : WX) (tl : XK → Hp → VK → Prop) : TE := fun σZ HZ Q => ∃ E : XK, σZ[i]? = some (some (.ref f)) ∧ HZ c' = some (CodeO c' q) ∧ (∀ cls d H', E cls d H' → W cls d σZ H') ∧ tl E HZ Q
theorem lamAct {CXg : CXT} {Eg : XK} {Ng : List Str} {qg : Str} {sg : Scope} {g f c' : Addr} {cdg dV doc pm ctv : Value} {params : Arguments} {body : Expr} {scope : Scope} {k i : Nat} {a : Str} {pn : List (Addr × Obj)} {xe : Value → Shared → Prop} {W : WX} {t : XK → TE} {p1 p2 : Pos} {binds : List (Str × Value)}
    (I : Inv X pins σ H s) (L : LamN X.N X.env.scope scope) (hf : s.heap.get? f = some (lamO X params body scope dV doc pm c' ctv)) (hfn : H f = none) (hfr : f ∉ frs X.stack) (locs : ∀ y ∈ binds, scope.names.lookup y.1 = some .local)
    (bind : ∀ s1 : Shared, (∀ b o, s.heap.get? b = some o → H b = none → b ∉ frs X.stack → s1.heap.get? b = some o) → BindsTo s1 (PySem.W.kdv_fn "<lambda>" (lamQ X) params (.expr body) scope (cloFrom X.env.cells scope.names []) dV doc pm (.ref c') ctv) ⟨[], []⟩ binds)
    (tk : Takes ((cxOf CXg X.prog X.w X.K X.mg X.base Ng qg sg g cdg X.A X.stack s H Eg).tr pn xe) W) (room : Room (k + 1) (X.A.deeper (envOfC qg sg s.heap.objs.size g cdg)))
    (hbody : ∀ (A : Around) (outer : List Env) (s : Shared) (H : Hp) (E : XK) (f c' : Addr), Room k (A.deeper (lamEnv X scope s.heap.objs.size f c')) → (∃ e, A = X.A.deeper e) → PE (lamCx X A outer s H E scope f c') body (t E))
    (hN : Ng[i]? = some a) (hv : Vis sg a) (hd : (a == ("__debug__" : Str)) = false := by decide) (hcd : (a == ("__classdict__" : Str)) = false := by decide) :
    PE ((cxOf CXg X.prog X.w X.K X.mg X.base Ng qg sg g cdg X.A X.stack s H Eg).tr pn xe) (.Call (.Name a p1) [] [] p2) (tAct f c' (lamQ X) i W fun E HZ Q => t E σ HZ Q) := by
  refine ⟨fun pinsZ sZ σZ HZ Q IZ ⟨E, at_, hc, hW, ht⟩ => wpAny_Call_Name_kw (thn ((pe_var (pos := p1) (i := i) hN hv hd hcd).run pinsZ sZ σZ HZ (fun v H1 => v = .ref f ∧ H1 = HZ) IZ ⟨.ref f, at_, rfl, rfl⟩) fun u s1 ⟨v, H1, J, rv, q1⟩ => ?_)⟩
  obtain ⟨ev, eH⟩ := q1
  subst ev eH
  obtain rfl : u = Value.ref f := rv
  have un : Un (frs X.stack) [] H H1 s.heap s1.heap := J.base
  have old : ∀ b o, s.heap.get? b = some o → H b = none → b ∉ frs X.stack → s1.heap.get? b = some o := fun b o e n m => un.keep b o e n m (fun z => nomatch z)
  have of1 := old f _ hf hfn hfr
  refine PySem.W.callWith_F0 ⟨_, _, _, _, of1⟩ ?_
  obtain ⟨⟨oc, vs, t', hoc, hdc, hvc⟩, _, _⟩ := J.hok c' _ hc
  have rc : codeAny (model X.prog X.w) (X.A.deeper (envOfC qg sg s.heap.objs.size g cdg)) (.call (.ref f) ⟨[], []⟩) (CR (L2.CX X.prog X.w) (envOfC qg sg s.heap.objs.size g cdg :: X.stack) X.prog X.w H1 s1 Q E) s1 := by
    refine PySem.W.kla_callFunE room.depth of1 rfl L.co L.gen rfl ⟨c', oc, vs, t', rfl, hoc, hdc, hvc⟩ (bind s1 old _ _ _ _ (wpAny_newFunctionEnv L.cell locs (fun h₁ hns hsb => ⟨J.nolimit.fresh _ hsb, ?_⟩) L.kind))
    show codeAny _ _ (.expr body (lamEnv X scope s1.heap.objs.size f c')) _ _
    have kp : ∀ b o, s1.heap.get? b = some o → h₁.get? b = some o := fun b o e => hsb.extBut b o (Nat.ne_of_lt (Heap.lt_size e)) (Heap.get?_push_of_some _ e)
    have JL : Inv (lamCx X (X.A.deeper (envOfC qg sg s.heap.objs.size g cdg)) (envOfC qg sg s.heap.objs.size g cdg :: X.stack) s1 H1 E scope f c') [] σ H1 { s1 with heap := h₁, toks := s1.toks + binds.length } := lamStart I L J.env0 room.hd un hns kp
    refine PySem.W.kla_codeExpr (wpAny_mono ((hbody _ _ s1 H1 E f c' (room.deeper _) ⟨_, rfl⟩).run [] _ _ H1 Q JL ht) (fun v s' hq => ?_) fun e s' hq => hq)
    obtain ⟨w', H', J', rv, q⟩ := hq
    exact ⟨w', H', J'.os, J'.bare, J'.base, J'.hok, rv, q⟩
  refine wpAny_call (codeAny_mono rc fun r s' hq => ?_)
  match r, hq with
  | .error e, hq => exact tk e s' (XE.of_call J (fun cls d H' h => hW cls d H' h) hq)
  | .ok (.ret u), hq => exact J.after hq
  | .ok .next, hq => exact False.elim hq
  | .ok .brk, hq => exact False.elim hq
  | .ok .cont, hq => exact False.elim hq
/-! ### the lambda's expression -/
theorem lamEv0 {params : Arguments} {body : Expr} {scope : Scope} {pos : Pos} {env : Env} {M : Model} {A : Around} {E : Value → Shared → Prop} {Q : Value → Shared → Prop} (none_ : defaultsOf params env = ([], []))
    (h : wpAny M A (makeTail "<lambda>" (env.qual ++ "<lambda>") params (.expr body) scope env .none .none none pos pos.line) Q E s) : wpAny M A (eval (.Lambda params body scope pos) env) Q E s := by
  refine PySem.W.kla_eval none_ ?_
  rw [makeFunction_eq]
  simp only [List.zip_nil_right, List.filterMap_nil, List.isEmpty_nil, if_true, pure_bind]
  exact h
/-- how a lambda is made: with no default, or with one whole number -/
inductive LamP (env : Env) (params : Arguments) (body : Expr) (scope : Scope) : Prop
  | no (d : defaultsOf params env = ([], [])) (b : ∀ (q : Str) (cl : List (Str × Addr)) (doc pm cv ctv : Value), bindArgs (PySem.W.kdv_fn "<lambda>" q params (.expr body) scope cl .none doc pm cv ctv) ⟨[], []⟩ = pure [])
  | one {n : Int} {j : Nat} {p : Pos} {y : Str} (d : params.defaults = [.Constant (.int n) j p]) (kw : params.kw_defaults = []) (l : scope.names.lookup y = some .local) (kk : Str → List (Str × Addr) → Value → Value → Value → Value → Value → Option (Array Value) → Sem (List (Str × Value)))
      (b1 : ∀ (q : Str) (cl : List (Str × Addr)) (dV doc pm cv ctv : Value), bindArgs (PySem.W.kdv_fn "<lambda>" q params (.expr body) scope cl dV doc pm cv ctv) ⟨[], []⟩ = seqItems? dV >>= kk q cl dV doc pm cv ctv) (b2 : ∀ (q : Str) (cl : List (Str × Addr)) (dV doc pm cv ctv v : Value), kk q cl dV doc pm cv ctv (some #[v]) = pure [(y, v)])
theorem lamEval {T : List (Addr × Str)} {c P : Addr} {params : Arguments} {body : Expr} {scope : Scope} {pos : Pos} {E : Value → Shared → Prop} {Q : Value → Shared → Prop} (I : Inv X pins σ H s) (lp : LamP X.env params body scope) (tab : TabB X.base X.mg c P) (code : X.env.code = .ref c)
    (inT : (P, lamQ X) ∈ T) (only : ∀ p ∈ T, p.1 = P → p.2 = lamQ X) (tabs : Tabs T H) (caught : ∀ y ∈ scope.names, y.2 = .free → ∃ c, X.env.cells.lookup y.1 = some c)
    (h : ∀ (f c' : Addr) (dV doc pm ctv : Value) (binds : List (Str × Value)) (H1 : Hp) (s' : Shared), Inv X pins σ H1 s' → Tg P T H H1 → s'.heap.get? f = some (lamO X params body scope dV doc pm c' ctv) → H1 f = none → f ∉ frs X.stack → H1 c' = some (CodeO c' (lamQ X)) → (∀ y ∈ binds, scope.names.lookup y.1 = some .local) →
      (∀ s1 : Shared, (∀ b o, s'.heap.get? b = some o → H1 b = none → b ∉ frs X.stack → s1.heap.get? b = some o) → BindsTo s1 (PySem.W.kdv_fn "<lambda>" (lamQ X) params (.expr body) scope (cloFrom X.env.cells scope.names []) dV doc pm (.ref c') ctv) ⟨[], []⟩ binds) → Q (.ref f) s') :
    wpAny (model X.prog X.w) X.A (eval (.Lambda params body scope pos) X.env) Q E s := by
  cases lp with
  | no d b =>
    refine lamEv0 d (lamTail I tab code inT only tabs caught fun f c' doc pm ctv H1 s' J tg kp fr get hn hfr hc ne un => ?_)
    exact h f c' .none doc pm ctv [] H1 s' J tg get hn hfr hc (fun _ z => nomatch z) (fun s1 _ => BindsTo.of_eq (b _ _ _ _ _ _))
  | @one n j p y d kw l kk b1 b2 =>
    refine PySem.W.kdv_lam (by rw [d]; rfl) kw ?_
    rw [d]
    refine PySem.W.kdv_all1 (thn ((pe_int (X := X) (j := j) (pos := p)).run pins s σ H (fun v H1 => v = .int n ∧ H1 = H) I ⟨rfl, rfl⟩) fun u s1 ⟨v, H1, J, rv, ev, eH⟩ => ?_)
    subst ev eH
    refine PySem.W.kdv_all0 ?_
    rw [makeFunction_eq]
    simp only [List.zip_nil_right, List.filterMap_nil, List.isEmpty_nil, if_true, pure_bind, List.isEmpty_cons, Bool.false_eq_true, if_false]
    refine wpAny_bind (wpAny_newTextTuple ?_)
    have J2 : Inv X pins σ H1 { s1 with heap := s1.heap.push (PySem.W.kdv_tup [u]) } := J.kept (t' := s1.toks) fun b o e => Heap.get?_push_of_some _ e
    have fresh : H1 s1.heap.objs.size = none := J.hok.fresh (Nat.le_refl _)
    obtain ⟨ps, atP⟩ : ∃ ps, H1 P = some (.tbl ps) := by
      obtain ⟨ps, q, _⟩ := tabs _ inT
      exact ⟨ps, q⟩
    refine lamTail J2 tab code inT only tabs caught fun f c' doc pm ctv H2 s' J3 tg kp fr get hn hfr hc ne un => ?_
    have nP : s1.heap.objs.size ≠ P := Ne.symm (ne_of_none atP fresh)
    have at_ : s'.heap.get? s1.heap.objs.size = some (PySem.W.kdv_tup [u]) := kp _ _ nP (Heap.get?_push_size _ rfl)
    refine h f c' (.ref s1.heap.objs.size) doc pm ctv [(y, u)] H2 s' J3 tg get hn hfr hc (fun z hz => ?_) (fun s2 old => ?_)
    · rw [List.mem_singleton] at hz
      subst hz
      exact l
    · exact BindsTo.of_defaults rfl (old _ _ at_ (un _ _ (Heap.get?_push_size _ rfl) fresh) (noframe J (Nat.le_refl _))) rfl (b1 _ _ _ _ _ _ _) (b2 _ _ _ _ _ _ _ u)
end
end DW

set_option Elab.async false
set_option linter.all false
set_option maxRecDepth 100000
set_option maxHeartbeats 4000000
/-! DWV: an error caught by one of three classes, kept under a name, asked of later -/
namespace DW
open PySem PySem.Spec PyProof.Rows L2 LamX
theorem fly_push {B h : Heap} {l : List Env} {a : Addr} {Z : Obj → Prop} {o : Obj} (x : HandSPX.FlyingZ B l a Z h) : HandSPX.FlyingZ B l a Z (h.push o) := by
  obtain ⟨x1, x2, x3, oe, vs, T, oT, ts, y1, y2, y3, y4, y5, y6, y7, y8, y9⟩ := x
  exact ⟨fun b u e => Heap.get?_push_of_some _ (x1 b u e), x2, Heap.FunFrames.of_keeps (fun b u e _ => ⟨u, Heap.get?_push_of_some _ e, rfl⟩) x3, oe, vs, T, oT, ts, Heap.get?_push_of_some _ y1, y2, y3, y4, y5, y6, Heap.get?_push_of_some _ y7, y8, y9⟩
theorem up_push {h g : Heap} {o : Obj} (u : h.UpToSlots g) : h.UpToSlots (g.push o) := fun b x e n => by
  obtain ⟨sl, q⟩ := u b x e n
  exact ⟨sl, Heap.get?_push_of_some _ q⟩
theorem pe_cls {X : Cx} {x : Str} {C : Addr} {p : Pos} (hg : Gl X x) (hm : X.mg x = some (.ref C)) (hd : (x == ("__debug__" : Str)) = false := by decide) : PE X (.Name x p) (fun σ H Q => Q (.ref C) H) :=
  ⟨fun pins s σ H Q I h => ld_glob I hg hm ⟨.ref C, H, I, rfl, h⟩ hd⟩
theorem exV_ok {P : Program} {w : World} {H : Hp} {h : Heap} {a dd : Addr} {cls : Value} {oe : Obj} {vs : Array Value} (e : h.get? a = some oe) (z : Zc cls (some dd) oe) (d : oe.data = .fields vs) : ObjOk P w H h a (ExV a cls dd) :=
  ⟨⟨oe, vs, e, z, d⟩, ⟨oe, e⟩, fun _ _ ⟨o, v, q, r⟩ k => ⟨o, v, k o q, r⟩⟩
/-- a new object that was known to the object alone is tracked from now on -/
theorem track {X : Cx} {pins : List (Addr × Obj)} {σ : L2.St} {H : Hp} {s : Shared} {a dd : Addr} {cls : Value} {oe : Obj} (J : Inv X ((a, oe) :: pins) σ H s) (z : Zc cls (some dd) oe) (hd : ∃ vs, oe.data = .fields vs) (new0 : X.s_0.heap.get? a = none) (newP : ∀ p ∈ X.pn ++ pins, p.1 ≠ a) : Inv X pins σ (upd H a (ExV a cls dd)) s := by
  obtain ⟨get, none_, nL, nF, noC⟩ := J.pin (a, oe) (List.mem_append_right _ List.mem_cons_self)
  obtain ⟨vs, hd⟩ := hd
  have sub : ∀ p ∈ X.pn ++ pins, p ∈ X.pn ++ (a, oe) :: pins := fun p hp => by
    rcases List.mem_append.mp hp with q | q
    · exact List.mem_append_left _ q
    · exact List.mem_append_right _ (List.mem_cons_of_mem _ q)
  refine ⟨J.ok, J.os, J.bare, ⟨J.base.keep, J.base.slot, fun b o e n hx => ?_, J.base.there, fun b xs e => ?_, fun b o u e => ?_, fun b ps e => ?_⟩, J.loc, J.cell, ?_, fun x c e => ?_, fun p hp => ?_, J.hok.laidN (fun _ _ q => q) none_ (exV_ok get z hd), J.len⟩
  · rw [upd_ne (fun q => by rw [q, new0] at e; cases e)]
    exact J.base.free b o e n hx
  · have q := J.base.tups b xs e
    rw [upd_ne (ne_of_none q none_)]
    exact q
  · have q := J.base.frzs b o u e
    rw [upd_ne (ne_of_none q none_)]
    exact q
  · obtain ⟨m, q⟩ := J.base.tbls b ps e
    exact ⟨m, by rw [upd_ne (ne_of_none q none_)]; exact q⟩
  · rw [upd_ne (Ne.symm nL)]
    exact J.free
  · have hc : c ≠ a := fun q => by
      obtain ⟨v, o, ho, hv⟩ := J.cell x c e
      rw [q, get] at ho
      cases ho
      exact noC v hv
    rw [upd_ne hc]
    exact J.freeC x c e
  · obtain ⟨p1, p2, p3, p4, p5⟩ := J.pin p (sub p hp)
    exact ⟨p1, by rw [upd_ne (newP p hp)]; exact p2, p3, p4, p5⟩
section
variable {X : Cx} {x1 x2 x3 n : Str} {C1 C2 C3 : Addr} {i : Nat} {body suite rest : List Stmt} {b₀ : Stmt} {q1 q2 q3 q4 pos pos' : Pos} {tb : WX → TS} {ts : Addr → Value → Option Addr → TS} {tr : TS} {k1}
/-- what is wished of an error: caught, the suite, then the rest, with the error's object tracked; none is let by -/
def wKeep (K : PySem.W.Frag) (cs : List Addr) (i : Nat) (ts : Addr → Value → Option Addr → TS) (tr : TS) (D : Ends) : WX := fun cls d σ H =>
  PySem.W.exmAny K cls (cs.map Value.ref) = some true ∧ ∃ dd, d = some dd ∧ ∀ a, H a = none → ts a cls d { nx := fun σ' H' => tr D (σ'.set i none) (upd H' a (ExV a cls dd)), rt := fun _ _ => False, bk := fun _ _ => False, ct := fun _ _ => False } (σ.set i (some (.ref a))) H
theorem pss_try_keep (hs : X.stack = X.env :: X.outer) (hf : X.env.frame = some X.env.locals) (hN : X.N.Nodup) (hi : X.N[i]? = some n) (hln : X.env.kindOf n = some .local) (hg1 : Gl X x1) (hm1 : X.mg x1 = some (.ref C1)) (hg2 : Gl X x2) (hm2 : X.mg x2 = some (.ref C2)) (hg3 : Gl X x3) (hm3 : X.mg x3 = some (.ref C3))
    (hb : ∀ (W : WX) (pn : List (Addr × Obj)) (xe : Value → Shared → Prop), Takes (X.tr pn xe) W → PassesOwn (model X.prog X.w) X.A X.env xe → PSs (X.tr pn xe) body (tb W))
    (hsu : ∀ (a : Addr) (oe : Obj) (cls : Value) (d : Option Addr) (pn : List (Addr × Obj)), Zc cls d oe → (∃ vs, oe.data = .fields vs) → PSs (X.suite a ((a, oe) :: pn)) (b₀ :: suite) (ts a cls d))
    (hr : PSs X rest tr) (hex : X.ex = [])
    (hd1 : (x1 == ("__debug__" : Str)) = false := by decide) (hd2 : (x2 == ("__debug__" : Str)) = false := by decide) (hd3' : (x3 == ("__debug__" : Str)) = false := by decide) :
    PSs X (.Try body [.ExceptHandler (some (.Tuple [.Name x1 q1, .Name x2 q2, .Name x3 q3] k1 q4)) (some n) (b₀ :: suite) pos'] [] [] pos :: rest) (fun D σ H => tb (wKeep X.K [C1, C2, C3] i ts tr D) { D with nx := tr D } σ H) := by
  refine ⟨fun pins s σ H D I h => wpAny_execs_cons (wpAny_Try_except ?_)⟩
  have ok := I.ok
  have frames : X.A.frames = some (X.env :: X.outer) := by rw [ok.frames, hs]
  have local_ : Loc X.env.scope n := .inl hln
  -- the rest, from a state in which the error is known
  have onward : ∀ {a dd : Addr} {oe : Obj} {cls : Value} {σ6 : L2.St} {H6 : Hp} {s6 : Shared}, Zc cls (some dd) oe → (∃ vs, oe.data = .fields vs) → X.s_0.heap.get? a = none → (∀ p ∈ X.pn ++ pins, p.1 ≠ a) → Inv (X.suite a ((a, oe) :: (X.pn ++ pins))) [] σ6 H6 s6 → tr D (σ6.set i none) (upd H6 a (ExV a cls dd)) →
      wpAny (model X.prog X.w) X.A (do bindName X.env n .none; unbindBehindTheSuite X.env n pos') (fun _ s7 => wpAny (model X.prog X.w) X.A (execs rest X.env) (SP X pins D) X.xe s7) X.xe s6 := fun {a dd oe cls σ6 H6 s6} hz hd new0 newP S6 q => by
    have J6 : Inv X ((a, oe) :: pins) σ6 H6 s6 := ⟨ok, S6.os, S6.bare, S6.base, S6.loc, S6.cell, S6.free, S6.freeC, fun p hp => S6.pin p (by
      rw [List.append_nil]
      rcases List.mem_append.mp hp with z | z
      · exact List.mem_cons_of_mem _ (List.mem_append_left _ z)
      · rcases List.mem_cons.mp z with z | z
        · exact z ▸ List.mem_cons_self
        · exact List.mem_cons_of_mem _ (List.mem_append_right _ z)), S6.hok, S6.len⟩
    exact gone_ok J6 hN hi hln fun s7 J7 => hr.run pins s7 _ _ D (track J7 hz hd new0 newP) q
  refine wpAny_mono ((hb (wKeep X.K [C1, C2, C3] i ts tr D) (X.pn ++ pins) (fun e s₁ => wpAny (model X.prog X.w) X.A (noteFrame e X.env) (fun _ s₂ => wpAny (model X.prog X.w) X.A (setFlight e none) (fun _ s₃ => wpAny (model X.prog X.w) X.A (handleBy e X.env [.ExceptHandler (some (.Tuple [.Name x1 q1, .Name x2 q2, .Name x3 q3] k1 q4)) (some n) (b₀ :: suite) pos']) (fun fl s1 => match fl with
      | .next => wpAny (model X.prog X.w) X.A (execs rest X.env) (SP X pins D) X.xe s1
      | fl => SP X pins D fl s1) X.xe s₃) X.xe s₂) X.xe s₁) (fun u s' xx => ?_) PassesOwn.looking).run [] s σ H { D with nx := tr D } (I.toTry _) h) (fun fl s1 z => ?_) (fun _ _ z => z)
  · obtain ⟨a, B, sI, pins', σ', H', cls, d, rfl, J', nb, up, sky, na, os, ag, hit, dd, rfl, hyes⟩ := xx
    have J : Inv X pins σ' H' sI := J'.ofTry ok
    have sky' : Sky B (X.env :: X.outer) a (Zc cls (some dd)) X.env.locals s'.heap := hs ▸ sky
    refine Sky.land Zc.steady frames hf sky' fun h3 fl3 up3 => ?_
    have J3 : Inv X pins σ' H' { s' with heap := h3 } := J.landed nb fl3.1 (up.trans up3) os ag
    obtain ⟨oe3, vs3, he3, hz3, hd3⟩ := fl3.there
    have away : a ∉ frs (X.env :: X.outer) := fun hm => by
      obtain ⟨_, o', e', hnf⟩ := fl3.2.2.1.mem hm
      rw [he3] at e'
      cases e'
      exact hnf _ hd3
    have nL : a ≠ X.env.locals := fun z => away (List.mem_filterMap.mpr ⟨X.env, List.mem_cons_self, by rw [hf, z]⟩)
    have nF : a ∉ X.fs := fun hm => by
      obtain ⟨e, he, q⟩ := List.mem_filterMap.mp hm
      exact away (List.mem_filterMap.mpr ⟨e, List.mem_cons_of_mem _ he, q⟩)
    have newI : sI.heap.get? a = none := by
      cases q : sI.heap.get? a with
      | none => rfl
      | some o =>
        have z := nb a o q (by rw [hs]; exact away)
        rw [fl3.2.1] at z
        cases z
    have new0 : X.s_0.heap.get? a = none := by
      cases q : X.s_0.heap.get? a with
      | none => rfl
      | some o =>
        obtain ⟨o', z⟩ := J.base.there a o q (by rw [hex]; exact fun z => nomatch z)
        rw [newI] at z
        cases z
    have newP : ∀ p ∈ X.pn ++ pins, p.1 ≠ a := fun p hp z => by
      have q := (J.pin p hp).1
      rw [z, newI] at q
      cases q
    have S3 := J3.suite he3 hd3 na nL nF
    refine wpAny_handleBy_cons (codeAny_handlers_test ?_) (fun q => nomatch q)
    refine wpAny_Tuple (wpAny_items_cons (ld_glob (X := X.suite a ((a, oe3) :: (X.pn ++ pins))) S3 hg1 hm1 (wpAny_items_cons (ld_glob (X := X.suite a ((a, oe3) :: (X.pn ++ pins))) S3 hg2 hm2 (wpAny_items_cons (ld_glob (X := X.suite a ((a, oe3) :: (X.pn ++ pins))) S3 hg3 hm3 (wpAny_items_nil ⟨by size_fits, ?_⟩) hd3')) hd2)) hd1))
    have kp : ∀ q o, h3.get? q = some o → (h3.push { cls := .type "tuple", data := .seq [Value.ref C1, .ref C2, .ref C3].toArray }).get? q = some o := fun _ _ z => Heap.get?_push_of_some _ z
    have LT : PySem.W.Looks (model X.prog X.w) h3 (typeOf (.ref a)) cls := fun A Q E s k q => wpAny_typeOf_ref (k _ _ he3) (by rw [hz3.1]; exact q)
    refine (PySem.W.exm_tup3 (M := model X.prog X.w) (J3.kIn.keeps kp) (LT.keeps kp) (Heap.get?_push_size h3 rfl) hit).here ?_
    refine codeAny_handlers_suite_as ?_
    refine HandSPX.lands_againZ (fly_push fl3) fun h4 fl4 up4 => ?_
    have J4 : Inv X pins σ' H' { s' with heap := h4 } := J.landed nb fl4.1 ((up_push (up.trans up3)).trans up4) os ag
    obtain ⟨oe4, vs4, he4, hz4, hd4⟩ := fl4.there
    have S4 := J4.suite he4 hd4 na nL nF
    refine store_ok (X := X.suite a ((a, oe4) :: (X.pn ++ pins))) (v := .ref a) S4 hN hi local_ rfl (fun s5 S5 => ?_) (.inr hln)
    refine wpAny_mono ((hsu a oe4 cls (some dd) (X.pn ++ pins) hz4 ⟨_, hd4⟩).run [] s5 _ H' _ S5 (hyes a na)) (fun fl s6 z => ?_) (fun _ _ z => False.elim z)
    match fl, z with
    | .next, ⟨σ6, H6, S6, q6⟩ => exact onward hz4 ⟨_, hd4⟩ new0 newP S6 q6
    | .brk, ⟨_, _, _, q6⟩ => exact False.elim q6
    | .cont, ⟨_, _, _, q6⟩ => exact False.elim q6
    | .ret u, ⟨_, _, _, _, _, q6⟩ => exact False.elim q6
  · match fl, z with
    | .next, ⟨σ', H', J', y⟩ => exact wpAny_execs_nil (hr.run pins s1 σ' H' D (J'.ofTry ok) y)
    | .brk, ⟨σ', H', J', y⟩ => exact ⟨σ', H', J'.ofTry ok, y⟩
    | .cont, ⟨σ', H', J', y⟩ => exact ⟨σ', H', J'.ofTry ok, y⟩
    | .ret u, ⟨v, σ', H', J', r, y⟩ => exact ⟨v, σ', H', J'.ofTry ok, r, y⟩
end
end DW

set_option Elab.async false
set_option linter.all false
set_option maxRecDepth 100000
set_option maxHeartbeats 4000000
/-! DWW: errors as data: isinstance of one, its field -/
namespace DW
open PySem PySem.Spec PyProof.Rows L2 LamX
/-- what isinstance asks of an error's class -/
structure XcC (K : PySem.W.Frag) (D : Addr) : Prop where
  cl : (PySem.W.clsIn K D).isSome = true
  ga : PySem.W.findIn K (.ref D) "__getattribute__" = some (some (.builtin "BaseException.__getattribute__"))
  gt : PySem.W.findIn K (.ref D) "__getattr__" = some none
  sb : PySem.W.subIn K (.ref D) (.type "BaseException") = some true
  cc : PySem.W.findIn K (.ref D) "__class__" = some (some (.builtin "object.__class__"))
  gg : PySem.W.specialIn K (.builtin "object.__class__") "__get__" = some (some (.builtin "getset_descriptor.__get__"))
  tk : PySem.W.takesIn K (.builtin "object.__class__") = some true
  ob : PySem.W.mroIn K D (.type "object") = some true
def xcB (K : PySem.W.Frag) (D : Addr) : Bool := (PySem.W.clsIn K D).isSome && (decide (PySem.W.findIn K (.ref D) "__getattribute__" = some (some (.builtin "BaseException.__getattribute__"))) && (decide (PySem.W.findIn K (.ref D) "__getattr__" = some none) && (decide (PySem.W.subIn K (.ref D) (.type "BaseException") = some true) && (decide (PySem.W.findIn K (.ref D) "__class__" = some (some (.builtin "object.__class__"))) && (decide (PySem.W.specialIn K (.builtin "object.__class__") "__get__" = some (some (.builtin "getset_descriptor.__get__"))) && (decide (PySem.W.takesIn K (.builtin "object.__class__") = some true) && decide (PySem.W.mroIn K D (.type "object") = some true)))))))
theorem xcB_ok {K : PySem.W.Frag} {D : Addr} (h : xcB K D = true) : XcC K D := by
  unfold xcB at h
  simp only [Bool.and_eq_true, decide_eq_true_eq] at h
  obtain ⟨h1, h2, h3, h4, h5, h6, h7, h8⟩ := h
  exact ⟨h1, h2, h3, h4, h5, h6, h7, h8⟩
/-- which classes of errors are of the class at E -/
def KtOk (K : PySem.W.Frag) (mt : Str → Option Bool) (E : Addr) : Prop := ∀ c b, mt c = some b → XcC K (He.ga K c) ∧ PySem.W.kitOne K (.ref (He.ga K c)) (.ref E) = some b
def isX (mt : Str → Option Bool) : Dt → Option Dt
  | .xo c _ _ => (mt c).map .bl
  | _ => none
/-- the field f of errors of some classes -/
def FdOk (K : PySem.W.Frag) (f : Str) (cs : List Str) : Prop := f ≠ "" ∧ ∀ c ∈ cs, XfC K (He.ga K c) ∧ PySem.W.findIn K (.ref (He.ga K c)) f = some none
def fldX (f : Str) (cs : List Str) : Dt → Option Dt
  | .xo c g v => if c ∈ cs ∧ g = f then some v else none
  | _ => none
section
variable {X : Cx} {W : WX} {e : Expr} {f1 : Rho → R Dt} {pos p p2 : Pos}
/-- an error of the class at D -/
def IsXc (H : Hp) (a D : Addr) : Prop := (∃ (dd : Addr) (fs : List (Str × V)), H a = some (ExV a (.ref D) dd) ∧ H dd = some (.xd fs)) ∨ ∃ t, H a = some (ExB a (.ref D) t)
def rIsX (K : PySem.W.Frag) (E : Addr) : List V → Hp → VK → Prop := fun xs H Q => ∃ (a D : Addr) (b : Bool), xs = [.ref a, .ref E] ∧ IsXc H a D ∧ XcC K D ∧ PySem.W.kitOne K (.ref D) (.ref E) = some b ∧ Q (.bl b) H
theorem inst_of {pins : List (Addr × Obj)} {σ : L2.St} {H : Hp} {s : Shared} {a D dd : Addr} {fs : List (Str × V)} (I : Inv X pins σ H s) (ha : H a = some (ExV a (.ref D) dd)) (hd : H dd = some (.xd fs)) : ∃ oe od, PySem.W.InstAt s.heap a oe D (some od) ∧ ∃ mA : Str → Option Value, (∀ n, RelO (fs.lookup n) (mA n)) ∧ ∀ n, PySem.W.lookIn n od = some (mA n) := by
  obtain ⟨⟨oe, vs, get, z, data⟩, _⟩ := I.hok a _ ha
  obtain ⟨mA, ns, hr⟩ := I.hok dd _ hd
  obtain ⟨od, ho, hl⟩ := lookIn_ns ns
  exact ⟨oe, od, ⟨get, z.1, by unfold PySem.W.notCls; rw [data] <;> rfl, by rw [z.2]; exact ho⟩, mA, hr, hl⟩
theorem inst_ofX {pins : List (Addr × Obj)} {σ : L2.St} {H : Hp} {s : Shared} {a D : Addr} (I : Inv X pins σ H s) (h : IsXc H a D) : ∃ oe od, PySem.W.InstAt s.heap a oe D od := by
  rcases h with ⟨dd, fs, ha, hd⟩ | ⟨t, ha⟩
  · obtain ⟨oe, od, J, _⟩ := inst_of I ha hd
    exact ⟨oe, _, J⟩
  · obtain ⟨⟨oe, vs, get, z, data, _⟩, _⟩ := I.hok a _ ha
    exact ⟨oe, none, ⟨get, z.1, by unfold PySem.W.notCls; rw [data] <;> rfl, by rw [z.2]; trivial⟩⟩
theorem call_isX {E : Addr} : CallR X (.builtin "isinstance") (rIsX X.K E) := by
  intro pins s σ H xs us Q I r h
  obtain ⟨a, D, b, rfl, ha, C, e, q⟩ := h
  cases r with
  | cons r1 r2 =>
    cases r2 with
    | cons r2 r3 =>
      cases r3
      cases r1
      cases r2
      obtain ⟨oe, od, J⟩ := inst_ofX I ha
      exact PySem.W.kia_one (PySem.W.kitx_exc C.cl C.ga C.gt C.sb C.cc C.gg C.tk C.ob) I.kIn J e (fun z => nomatch z) fun tk => ⟨.bl b, H, I.kept (t' := tk) fun _ _ z => z, rfl, q⟩
def tXv (K : PySem.W.Frag) (f : Str) (te : TE) : TE := fun σ H Q => te σ H fun x H1 => ∃ (a D dd : Addr) (fs : List (Str × V)) (v : V), x = .ref a ∧ H1 a = some (ExV a (.ref D) dd) ∧ H1 dd = some (.xd fs) ∧ XfC K D ∧ PySem.W.findIn K (.ref D) f = some none ∧ fs.lookup f = some v ∧ Q v H1
theorem pe_xv {te : TE} {f : Str} (he : PE X e te) (hb : attributeBase e f X.env (eval e X.env) = eval e X.env := by rfl) : PE X (.Attribute e f pos) (tXv X.K f te) := by
  refine ⟨fun pins s σ H Q I h => attr_of hb (thn (he.run pins s σ H _ I h) fun u s1 ⟨x, H1, J, rx, a, D, dd, fs, v, ex, ha, hd, T, no, l, q⟩ => ?_)⟩
  subst ex
  obtain rfl : u = Value.ref a := rx
  obtain ⟨oe, od, ins, mA, hr, hl⟩ := inst_of J ha hd
  obtain ⟨u, hu, ru⟩ := RelO.some_of (v := v) (o := mA f) (by rw [← l]; exact hr f)
  exact HandSPX.exc_get J.kIn ins T.ga T.gg T.exC (PySem.W.findObj_own T.hdC no rfl (by rw [hl, hu])) (handed_of ru) ⟨v, H1, J.tok _, ru, q⟩
theorem und_isX {K : PySem.W.Frag} {E : Addr} {mt : Str → Option Bool} (T : KtOk K mt E) : UnD K (fun x H Q => rIsX K E [x, .ref E] H Q) (isX mt) := by
  intro x d z H0 H s hx hg Q k
  unfold isX at hg
  split at hg
  · rename_i c f v
    obtain ⟨b, e, rfl⟩ := Option.map_eq_some_iff.mp hg
    obtain ⟨t1, t2⟩ := T c b e
    cases hx with
    | xo h0 h1 h2 h3 => exact ⟨_, _, b, rfl, .inl ⟨_, _, s _ _ h1, s _ _ h2⟩, t1, t2, sc s (.bl b) k⟩
    | xb h1 h2 => exact ⟨_, _, b, rfl, .inr ⟨_, s _ _ h1⟩, t1, t2, sc s (.bl b) k⟩
  · cases hg
theorem de_isX {cn : Str} {E : Addr} {mt : Str → Option Bool} (T : KtOk X.K mt E) (hg : Gl X "isinstance") (hm : X.mg "isinstance" = none) (hgT : Gl X cn) (hmT : X.mg cn = some (.ref E)) (ha : DK X W e f1) (hd : (cn == ("__debug__" : Str)) = false := by decide)
    (he : starEach (e :: [.Name cn p2]) X.env = (false, eval e X.env) :: starEach [.Name cn p2] X.env := by rfl) (hpl : (backTo pos (starEach [.Name cn p2] X.env)).any (·.1) = false := by rfl) (he2 : starEach (.Name cn p2 :: []) X.env = (false, eval (.Name cn p2) X.env) :: starEach [] X.env := by rfl) :
    DE X W (.Call (.Name "isinstance" p) [e, .Name cn p2] [] pos) (un (isX mt) f1) := fun F =>
  PE.wk (pe_callB (call_isX (E := E)) hg hm (by decide +kernel) (pa_cons (ha F) (pa_cons (pe_cls hgT hmT hd) pa_nil he2) he) (he := he) (hpl := hpl)) fun σ H Q h => tUn_un (r := fun x H Q => rIsX X.K E [x, .ref E] H Q) (und_isX T) h
theorem und_fldX {K : PySem.W.Frag} {f : Str} {cs : List Str} (T : FdOk K f cs) : UnD K (fun x H Q => ∃ (a D dd : Addr) (fs : List (Str × V)) (v : V), x = .ref a ∧ H a = some (ExV a (.ref D) dd) ∧ H dd = some (.xd fs) ∧ XfC K D ∧ PySem.W.findIn K (.ref D) f = some none ∧ fs.lookup f = some v ∧ Q v H) (fldX f cs) := by
  intro x d z H0 H s hx hg Q k
  unfold fldX at hg
  split at hg
  · rename_i c g v
    split at hg
    · rename_i hc
      cases hg
      cases hx with
      | xo h0 h1 h2 h3 =>
        obtain ⟨t1, t2⟩ := T.2 c hc.1
        exact ⟨_, _, _, _, _, rfl, s _ _ h1, s _ _ h2, t1, t2, by rw [hc.2]; simp [List.lookup], sc s h3 k⟩
      | xb h1 h2 => exact absurd hc.2.symm T.1
    · cases hg
  · cases hg
theorem de_fldX {f : Str} {cs : List Str} (T : FdOk X.K f cs) (he : DK X W e f1) (hb : attributeBase e f X.env (eval e X.env) = eval e X.env := by rfl) : DE X W (.Attribute e f pos) (un (fldX f cs) f1) := fun F =>
  PE.wk (pe_xv (he F) hb) fun σ H Q h => tUn_un (und_fldX T) h
end
end DW

set_option Elab.async false
set_option linter.all false
set_option maxRecDepth 100000
set_option maxHeartbeats 4000000
/-! DWO: outcome(lambda: e): what a call returns, or how it is refused -/
namespace DW
open PySem PySem.Spec PyProof.Rows L2 LamX
/-- the def that calls what it got: TT, what it makes of the lambda's reading -/
def OutG (X : Cx) (Ng : List Str) (x : Str) (sg : Scope) (g : Addr) (cdg : Value) (bg : List Stmt) (a q : Str) (k : Nat) (TT : (XK → Hp → VK → Prop) → Hp → VK → Prop) : Prop :=
  ∀ (f c' : Addr) (s : Shared) (H : Hp) (Q : VK) (tl : XK → Hp → VK → Prop), Room k (X.A.deeper (envOfC x sg s.heap.objs.size g cdg)) → Quiet (X.A.deeper (envOfC x sg s.heap.objs.size g cdg)) →
    (∀ (W : WX) (pn : List (Addr × Obj)) (xe : Value → Shared → Prop) (p1 p2 : Pos), Takes ((cxOf CX0 X.prog X.w X.K X.mg X.base Ng x sg g cdg X.A X.stack s H E0).tr pn xe) W → PE ((cxOf CX0 X.prog X.w X.K X.mg X.base Ng x sg g cdg X.A X.stack s H E0).tr pn xe) (.Call (.Name a p1) [] [] p2) (tAct f c' q 0 W tl)) →
    H c' = some (CodeO c' q) → TT tl H Q →
    ∃ t, PSs (cxOf CX0 X.prog X.w X.K X.mg X.base Ng x sg g cdg X.A X.stack s H E0) bg t ∧ t { nx := fun _ H' => Q .non H', rt := Q } (L2.start Ng [.ref f]) H
def tLamQ (P : Addr) (T : List (Addr × Str)) (TT : (XK → Hp → VK → Prop) → Hp → VK → Prop) (t : XK → TE) : TE := fun σ H Q => Tabs T H ∧ ∀ H1, Tg P T H H1 → TT (fun E H' Q' => t E σ H' Q') H1 Q
section
variable {X : Cx}
theorem pe_lamQ {T : List (Addr × Str)} {TT : (XK → Hp → VK → Prop) → Hp → VK → Prop} {x a : Str} {st : Stmt} {c P : Addr} {k : Nat} {Ng : List Str} {params : Arguments} {body : Expr} {scope : Scope} {t : XK → TE} {p lpos pos : Pos} (D : IsDef X.K X.mg x st) (hg : Gl X x) (Sg : FnScope Ng [a] (defScope st)) (hNg : Ng[0]? = some a) (hva : Vis (defScope st) a)
    (hbi : ∀ (kV doc pm : Value) (an : Option Addr) (cdv ct : Value) (us : List Value), us.length = [a].length → bindArgs (PySem.W.fnOf x x (defArgs st) (defBody st) (defScope st) .none kV doc pm an cdv ct) ⟨us, []⟩ = pure ([a].zip us))
    (hG : ∀ (g : Addr) (cdg : Value), OutG X Ng x (defScope st) g cdg (defBody st) a (lamQ X) (k + 1) TT)
    (tab : TabB X.base X.mg c P) (code : X.env.code = .ref c) (inT : (P, lamQ X) ∈ T) (only : ∀ p ∈ T, p.1 = P → p.2 = lamQ X) (room : Room (k + 2) X.A) (quiet : Quiet X.A) (L : LamN X.N X.env.scope scope) (lp : LamP X.env params body scope)
    (hbody : ∀ (A : Around) (outer : List Env) (s : Shared) (H : Hp) (E : XK) (f c' : Addr), Room k (A.deeper (lamEnv X scope s.heap.objs.size f c')) → Quiet (A.deeper (lamEnv X scope s.heap.objs.size f c')) → PE (lamCx X A outer s H E scope f c') body (t E))
    (hdb : (x == ("__debug__" : Str)) = false := by decide) (hd : (a == ("__debug__" : Str)) = false := by decide) (hcd : (a == ("__classdict__" : Str)) = false := by decide)
    (hst : starEach [.Lambda params body scope lpos] X.env = (false, eval (.Lambda params body scope lpos) X.env) :: starEach [] X.env := by rfl) (hpl : (backTo pos (starEach [] X.env)).any (·.1) = false := by rfl) :
    PE X (.Call (.Name x p) [.Lambda params body scope lpos] [] pos) (tLamQ P T TT t) := by
  obtain ⟨g, fd, F, hm⟩ := D
  have kp := F.kp
  have bnd := F.bindsN hbi
  obtain ⟨oc, od, dV, kV, doc, pm, an, cdv, ct, osl, rfl, lk, hcg, -, -⟩ := F.ex
  refine ⟨fun pins s σ H Q I ⟨tabs, h⟩ => wpAny_Call_Name_kw (ld_glob I hg hm (PySem.W.callWith_K (h₀ := X.base) I.ok.mod.kin kp ?_ hst hpl) hdb)⟩
  show wpAny _ _ (spliced ((false, eval (.Lambda params body scope lpos) X.env) :: backTo pos (starEach [] X.env))) _ _ s
  refine Calls.spliced_cons (lamEval I lp tab code inT only tabs (L.has I.ok) fun f c' dV' doc' pm' ctv binds H1 s' J tg get hn hfr hc locs bind => Calls.spliced_nil ⟨J.kIn, ?_⟩)
  have rc : codeAny (model X.prog X.w) X.A (.call (.ref g) ⟨[.ref f], []⟩) (CR CX0 X.stack X.prog X.w H1 s' Q E0) s' := by
    refine run_ofS (N := Ng) (ps := [a]) (us := [.ref f]) (vs := [.ref f]) lk hcg Sg room J.env0 (bnd s' [.ref f] J.kIn rfl) (.cons rfl .nil) rfl fun room' => ?_
    refine hG g cdv f c' s' H1 Q (fun E H' Q' => t E σ H' Q') room' (quiet_deeper quiet _) (fun W pn xe p1 p2 tk => ?_) hc (h H1 tg)
    refine lamAct (i := 0) J L get hn hfr locs bind tk room' (fun A outer s H E f c' hr ⟨e, hA⟩ => hbody A outer s H E f c' hr ?_) hNg hva hd hcd
    subst hA
    exact quiet_deeper (quiet_deeper quiet _) _
  refine wpAny_call (codeAny_mono rc fun r s2 hq => ?_)
  match r, hq with
  | .error e, hq => exact (show False from hq).elim
  | .ok (.ret u), hq => exact J.after hq
  | .ok .next, hq => exact False.elim hq
  | .ok .brk, hq => exact False.elim hq
  | .ok .cont, hq => exact False.elim hq
end
/-! ### outcome -/
def TTo (g : Gx) (cs : List Addr) (mw : Fn) : (XK → Hp → VK → Prop) → Hp → VK → Prop := fun tl H Q => ∀ p0, H p0 = none → ∀ Q' : VK, (∀ v H', (∀ p, H' p = none → Q (.ref p) (upd H' p (.lst [v]))) → Q' v H') →
  tl (fun cls da H' => PySem.W.exmAny g.K cls (cs.map Value.ref) = some true ∧ ∃ dd, da = some dd ∧ ∀ a, H' a = none → spF g mw [.ref a] (upd H' a (ExV a cls dd)) Q E0) (upd H p0 (.tup [.non, .non])) Q'
/-- what the statements of outcome come to -/
def tRest (g : Gx) (mw : Fn) : TS := tRet (tIf (tTest (tOp (fun x y H Q => y = .non ∧ Q (.bl (decide (x = .non))) H) (tVar 2) (tC .non))) (tLst (tCons (tVar 1) tNil)) (tCall (spF g mw) [] E0 (tCons (tVar 2) tNil)))
theorem out_read {g : Gx} {cs : List Addr} {mw : Fn} {f c' : Addr} {q : Str} {tl : XK → Hp → VK → Prop} {H : Hp} {Q : VK} {Ng : List Str} (hN : Ng.length = 4) (hc : H c' = some (CodeO c' q)) (h : TTo g cs mw tl H Q) :
    tSeq (tAsg (tTup (tCons (tC .non) (tCons (tC .non) tNil))) (gTup g.K 2 (gCons (gName 1) (gCons (gName 2) gNil))))
      (fun D σ H => (fun W : WX => tAsg (tAct f c' q 0 W tl) (gName 1)) (wKeep g.K cs 3 (fun _ _ _ => tAsg (tVar 3) (gName 2)) (tRest g mw) D) { D with nx := tRest g mw D } σ H)
      { nx := fun _ H' => Q .non H', rt := Q } (L2.start Ng [.ref f]) H := by
  have st : L2.start Ng [.ref f] = [some (.ref f), none, none, none] := by
    unfold L2.start
    rw [hN]
    rfl
  rw [st]
  refine ⟨by decide, fun p0 hp0 => ⟨p0, [.non, .non], rfl, .inl (.inl upd_same), rfl, .non, [.non], rfl, .non, [], rfl, rfl, ?_⟩⟩
  refine ⟨(fun cls da H' => PySem.W.exmAny g.K cls (cs.map Value.ref) = some true ∧ ∃ dd, da = some dd ∧ ∀ a, H' a = none → spF g mw [.ref a] (upd H' a (ExV a cls dd)) Q E0), rfl, ?_, fun cls d H' he => ?_, ?_⟩
  · rw [upd_ne (ne_of_none hc hp0)]
    exact hc
  · obtain ⟨h1, dd, rfl, h2⟩ := he
    refine ⟨h1, dd, rfl, fun a ha => ⟨.ref a, rfl, ?_⟩⟩
    refine ⟨.ref a, rfl, rfl, decide (V.ref a = V.non), rfl, ?_⟩
    show if decide (V.ref a = V.non) = true then _ else _
    rw [if_neg (by rw [decide_eq_false (fun z => nomatch z)]; exact fun z => nomatch z)]
    exact ⟨.ref a, rfl, h2 a ha⟩
  · refine h p0 hp0 _ fun v H' hv => ?_
    refine ⟨.non, rfl, rfl, decide (V.non = V.non), rfl, ?_⟩
    show if decide (V.non = V.non) = true then _ else _
    rw [if_pos (decide_eq_true rfl)]
    exact ⟨v, rfl, (by show 1 ≤ sizeLine; decide), hv⟩
/-! ### data -/
/-- what a lambda may see: nothing that the def still changes -/
def hid (ρ : Rho) : Rho := ρ.map fun o => match o with
  | some (.fr d) => some (.fr d)
  | _ => none
theorem hid_get {ρ : Rho} {i : Nat} {s : Sl} (h : (hid ρ)[i]? = some (some s)) : ρ[i]? = some (some s) ∧ ∃ d, s = .fr d := by
  unfold hid at h
  rw [List.getElem?_map] at h
  obtain ⟨o, h1, h2⟩ := Option.map_eq_some_iff.mp h
  match o, h2 with
  | some (.fr d), h2 =>
    cases h2
    exact ⟨h1, d, rfl⟩
def outF (mt : Str → Bool) (mw : Fn) (fb : Rho → R Dt) : Rho → R Dt := fun ρ => match fb (hid ρ) with
  | .ok d _ => .ok (.lst [d]) ρ
  | .ex e _ => if mt e.cls = true then match mw [.xo e.cls e.fld e.val] with
    | .ok (.fr d) => .ok d ρ
    | _ => .bad
    else .bad
  | .bad => .bad
/-- the classes that are caught -/
def CtOk (g : Gx) (mt : Str → Bool) (cs : List Addr) : Prop := ∀ c, mt c = true → g.mg c = some (.ref (He.ga g.K c)) ∧ PySem.W.exmAny g.K (.ref (He.ga g.K c)) (cs.map Value.ref) = some true
section
variable {K : PySem.W.Frag} {F : Fm} {H0 H H0' H' H1 : Hp} {σ : L2.St} {ρ ρ' : Rho} {P : Addr}
theorem En.hid (E : En K F H0 H σ ρ) : En K ⟨H0, H, none⟩ H0 H σ (hid ρ) where
  gr := Gw.refl _ _ _
  tb := E.tb
  ex := E.ex
  len := by rw [E.len, DW.hid, List.length_map]
  sl := fun i s h => by
    obtain ⟨h1, d, rfl⟩ := hid_get h
    exact E.sl i _ h1
  sep := fun i j s t a _ h _ hs => by
    obtain ⟨_, d, rfl⟩ := hid_get h
    cases hs
  io := fun a h => nomatch h
  io1 := fun i kvs h => by
    obtain ⟨_, d, z⟩ := hid_get h
    cases z
/-- a table has grown -/
theorem En.tg (E : En K F H0 H σ ρ) {q : Str} (inT : (P, q) ∈ tT K) (tg : Tg P (tT K) H H1) : Gw ⟨H0, H, none⟩ H0 H1 ∧ TbOk K H0 H1 ∧ Same H0 H1 := by
  obtain ⟨hP, ps, hat, _⟩ := E.tb _ inT
  have away : ∀ b o, H b = some o → NT o → H1 b = some o := fun b o hb n => tg.kp b o (fun z => by
    rw [z, hat] at hb
    exact n ps (Option.some.inj hb).symm) hb
  refine ⟨⟨Same.refl _, fun a o h n _ => away a o h n, fun _ _ h => h, fun a h => ?_⟩, fun p hp => ⟨(E.tb p hp).1, tg.tb p hp⟩, fun a o h => ?_⟩
  · by_cases z : a = P
    · rw [z]
      exact tg.st
    · have h : H a ≠ none := h
      cases e : H a with
      | none => exact absurd e h
      | some o =>
        rw [tg.kp a o z e]
        exact fun z => nomatch z
  · refine tg.kp a o (fun z => ?_) (E.ex a o h)
    rw [z] at h
    rw [show H0 P = none from hP] at h
    cases h
/-- an error is laid down -/
theorem gw_xo {c dd : Addr} {a : Addr} {cls : Value} {f : Str} {v : V} (g : Gw ⟨H0, H, none⟩ H0' H') (t : TbOk K H0' H') (e : Same H0' H') (hn : H dd = none) (hd : H' dd = some (.xd [(f, v)])) (ha : H' a = none) :
    Gw ⟨H0, H, none⟩ (upd (upd H0' dd (.xd [(f, v)])) a (ExV a cls dd)) (upd H' a (ExV a cls dd)) ∧ TbOk K (upd (upd H0' dd (.xd [(f, v)])) a (ExV a cls dd)) (upd H' a (ExV a cls dd)) ∧ Same (upd (upd H0' dd (.xd [(f, v)])) a (ExV a cls dd)) (upd H' a (ExV a cls dd)) ∧ Same H0' (upd (upd H0' dd (.xd [(f, v)])) a (ExV a cls dd)) := by
  have na : a ≠ dd := fun z => by rw [z, hd] at ha; cases ha
  have s1 : Same (upd H0' dd (.xd [(f, v)])) H' := fun b o h => by
    by_cases z : b = dd
    · subst z
      rw [upd_same] at h
      rw [hd]
      exact h
    · rw [upd_ne z] at h
      exact e b o h
  have s0 : Same H0' (upd H0' dd (.xd [(f, v)])) := fun b o h => by
    by_cases z : b = dd
    · subst z
      rw [upd_same, ← hd]
      exact e _ _ h
    · rw [upd_ne z]
      exact h
  have s2 : Same H0' (upd (upd H0' dd (.xd [(f, v)])) a (ExV a cls dd)) := s0.trans (gr_new ha s1).b0
  have ne : ∀ b, H b ≠ none → b ≠ dd ∧ b ≠ a := fun b h => ⟨fun z => h (z ▸ hn), fun z => g.st b h (z ▸ ha)⟩
  refine ⟨⟨g.b0.trans s2, fun b o h n i => ?_, fun b h h0 => ?_, fun b h => ?_⟩, fun p hp => ?_, same_new ha s1, s2⟩
  · have h' : H' b = some o := g.keep b o h n i
    rw [upd_ne (ne_of_none h' ha)]
    exact h'
  · obtain ⟨n1, n2⟩ := ne b h
    rw [upd_ne n2, upd_ne n1]
    exact g.off b h h0
  · obtain ⟨n1, n2⟩ := ne b h
    rw [upd_ne n2]
    exact g.st b h
  · obtain ⟨t0, ps, t1, t2, t3⟩ := t p hp
    have n1 : p.1 ≠ dd := fun z => by rw [z, hd] at t1; cases t1
    have n2 : p.1 ≠ a := ne_of_none t1 ha
    refine ⟨by rw [upd_ne n2, upd_ne n1]; exact t0, ps, by rw [upd_ne n2]; exact t1, t2, fun pos cv hc => ?_⟩
    obtain ⟨c1, e1, e2⟩ := t3 pos cv hc
    exact ⟨c1, e1, by rw [upd_ne (ne_of_none e2 ha)]; exact e2⟩
end
theorem out_of {g : Gx} {F : Fm} {W : WX} {σ : L2.St} {H : Hp} {Q : VK} {mt : Str → Bool} {mw : Fn} {fb : Rho → R Dt} {P : Addr} {q : Str} {cs : List Addr} (C : CtOk g mt cs) (inT : (P, q) ∈ tT g.K) (h : tD g F W (outF mt mw fb) σ H Q) :
    tLamQ P (tT g.K) (TTo g cs mw) (fun E σ H Q => ∃ F', tD g F' (wE E) fb σ H Q) σ H Q := by
  obtain ⟨H0, ρ, E, qq⟩ := h
  refine ⟨fun p hp => (E.tb p hp).2, fun H1 tg p0 hp0 Q' hQ' => ?_⟩
  obtain ⟨g1, t1, s1⟩ := E.tg inT tg
  have E1 := E.growW g1 t1 s1
  have E2 : En g.K F H0 (upd H1 p0 (.tup [.non, .non])) σ ρ := E1.grow (gr_newO hp0) (same_newO hp0 s1)
  have m2 : Mv σ ρ ρ H0 H H0 (upd H1 p0 (.tup [.non, .non])) := Mw.trans g1.mv (gr_newO hp0).mv
  refine ⟨⟨H0, upd H1 p0 (.tup [.non, .non]), none⟩, H0, hid ρ, E2.hid, ?_⟩
  unfold outF at qq
  cases e : fb (hid ρ) with
  | bad => rw [e] at qq; exact qq.elim
  | ok d ρ1 =>
    rw [e] at qq
    intro v H0' H' E3 m3 hv
    refine hQ' v H' fun p hp => ?_
    obtain ⟨E4, m4⟩ := E2.postW m2 E3.gr E3.tb E3.ex
    have gp : Gr ⟨H0', H', none⟩ (upd H0' p (.lst [v])) (upd H' p (.lst [v])) := gr_new hp E3.ex
    obtain ⟨E5, m5⟩ := E4.postW m4 gp.w (gp.tb E4.tb) (same_new hp E4.ex)
    exact qq (.ref p) _ _ E5 m5 (.lst upd_same (.cons (hv.mono gp.b0) .nil))
  | ex x ρ1 =>
    rw [e] at qq
    dsimp only at qq
    by_cases hm : mt x.cls = true
    rotate_left
    · rw [if_neg hm] at qq
      exact qq.elim
    rw [if_pos hm] at qq
    obtain ⟨C1, C2⟩ := C _ hm
    intro c da H0' H' xr E3
    obtain ⟨nz, dd, v, x1, x2, x3, x4, x5⟩ := xr
    rw [C1] at x1
    cases x1
    refine ⟨C2, dd, x2, fun a ha => ?_⟩
    obtain ⟨gw, tb, sm, s0⟩ := gw_xo (c := dd) (cls := .ref (He.ga g.K x.cls)) E3.gr E3.tb E3.ex x3 x4 ha
    have nda : dd ≠ a := ne_of_none x4 ha
    refine ⟨_, [.xo x.cls x.fld x.val], sm, tb, .cons (.xo nz upd_same (by rw [upd_ne nda, upd_same]) (x5.mono s0)) .nil, ?_⟩
    obtain ⟨E4, m4⟩ := E2.postW m2 gw tb sm
    cases e2 : mw [.xo x.cls x.fld x.val] with
    | ok s =>
      rw [e2] at qq
      cases s with
      | fr d =>
        intro u C0 C gr tt s2 hv
        obtain ⟨E5, m5⟩ := E4.postW m4 gr tt s2
        exact qq u C0 C E5 m5 hv
      | _ => exact qq.elim
    | ex x => rw [e2] at qq; exact qq.elim
    | bad => rw [e2] at qq; exact qq.elim
section
variable {X : Cx} {W : WX}
/-- outcome(lambda ..: body) -/
theorem de_out {mt : Str → Bool} {mw : Fn} {cs : List Addr} {x a : Str} {st : Stmt} {c P : Addr} {k : Nat} {Ng : List Str} {params : Arguments} {body : Expr} {scope : Scope} {fb : Rho → R Dt} {p lpos pos : Pos} (C : CtOk (gx X) mt cs) (D : IsDef X.K X.mg x st) (hg : Gl X x) (Sg : FnScope Ng [a] (defScope st)) (hNg : Ng[0]? = some a) (hva : Vis (defScope st) a)
    (hbi : ∀ (kV doc pm : Value) (an : Option Addr) (cdv ct : Value) (us : List Value), us.length = [a].length → bindArgs (PySem.W.fnOf x x (defArgs st) (defBody st) (defScope st) .none kV doc pm an cdv ct) ⟨us, []⟩ = pure ([a].zip us))
    (hG : ∀ (g : Addr) (cdg : Value), OutG X Ng x (defScope st) g cdg (defBody st) a (lamQ X) (k + 1) (TTo (gx X) cs mw))
    (tab : TabB X.base X.mg c P) (code : X.env.code = .ref c) (inT : (P, lamQ X) ∈ tT X.K) (only : ∀ p ∈ tT X.K, p.1 = P → p.2 = lamQ X) (room : Room (k + 2) X.A) (quiet : Quiet X.A) (L : LamN X.N X.env.scope scope) (lp : LamP X.env params body scope)
    (hbody : ∀ (A : Around) (outer : List Env) (s : Shared) (H : Hp) (E : XK) (f c' : Addr), Room k (A.deeper (lamEnv X scope s.heap.objs.size f c')) → Quiet (A.deeper (lamEnv X scope s.heap.objs.size f c')) → DE (lamCx X A outer s H E scope f c') (wE E) body fb)
    (hdb : (x == ("__debug__" : Str)) = false := by decide) (hd : (a == ("__debug__" : Str)) = false := by decide) (hcd : (a == ("__classdict__" : Str)) = false := by decide)
    (hst : starEach [.Lambda params body scope lpos] X.env = (false, eval (.Lambda params body scope lpos) X.env) :: starEach [] X.env := by rfl) (hpl : (backTo pos (starEach [] X.env)).any (·.1) = false := by rfl) :
    DE X W (.Call (.Name x p) [.Lambda params body scope lpos] [] pos) (outF mt mw fb) := fun F =>
  PE.wk (pe_lamQ (t := fun E σ H Q => ∃ F', tD (gx X) F' (wE E) fb σ H Q) D hg Sg hNg hva hbi hG tab code inT only room quiet L lp
    (fun A outer s H E f c' hr hq => ⟨fun pins s1 σ H1 Q I ⟨F', h⟩ => ((hbody A outer s H E f c' hr hq) F').run pins s1 σ H1 Q I h⟩) hdb hd hcd hst hpl) fun σ H Q h => out_of C inT h
end
/-! ### the code of a def that makes lambdas -/
theorem code_of {K : PySem.W.Frag} {mg : Str → Option Value} {x : Str} {f : Addr} {cdv : Value} (h : mg x = some (.ref f) ∧ CdOk K f cdv) (hg : mg x = some (.ref (He.fAd K (x, none)))) : cdv = .ref (He.cT K (x, none)).1 := by
  obtain ⟨hm, oc, od, fd, osl, lk, e, c, e2⟩ := h
  rw [hg] at hm
  cases hm
  rw [e2]
  exact congrArg Value.ref (He.codeOf_eq lk (e.trans e2)).symm
theorem only_of {K : PySem.W.Frag} {P : Addr} {q : Str} (hn : ((tT K).map (·.1)).Nodup) (inT : (P, q) ∈ tT K) : ∀ p ∈ tT K, p.1 = P → p.2 = q := fun p hp e => by
  have key : ∀ (l : List (Addr × Str)), (l.map (·.1)).Nodup → (P, q) ∈ l → p ∈ l → p.2 = q := fun l => by
    induction l with
    | nil => exact fun _ h => nomatch h
    | cons a l ih =>
      intro hn h1 h2
      rw [List.map_cons, List.nodup_cons] at hn
      rcases List.mem_cons.mp h1 with z | z <;> rcases List.mem_cons.mp h2 with y | y
      · rw [y, ← z]
      · exact absurd (List.mem_map.mpr ⟨p, y, by rw [e, ← z]⟩) hn.1
      · exact absurd (List.mem_map.mpr ⟨(P, q), z, by rw [← y, e]⟩) hn.1
      · exact ih hn.2 z y
  exact key _ hn inT hp
/-! ### class facts, one by one -/
def ctL (l : List Str) (s : Str) : Bool := l.contains s
theorem ct_nil {g : Gx} {cs : List Addr} : CtOk g (ctL []) cs := fun c h => nomatch h
theorem ct_cons {g : Gx} {cs : List Addr} {l : List Str} {c : Str} (h1 : g.mg c = some (.ref (He.ga g.K c))) (h2 : PySem.W.exmAny g.K (.ref (He.ga g.K c)) (cs.map Value.ref) = some true) (h : CtOk g (ctL l) cs) : CtOk g (ctL (c :: l)) cs := fun y hy => by
  unfold ctL at hy
  rw [List.contains_cons, Bool.or_eq_true] at hy
  rcases hy with z | z
  · have e : y = c := by simpa using z
    subst e
    exact ⟨h1, h2⟩
  · exact h y z
theorem kt_nil {K : PySem.W.Frag} {E : Addr} : KtOk K (mtL []) E := fun c b h => by
  unfold mtL at h
  cases h
theorem kt_cons {K : PySem.W.Frag} {E : Addr} {l : List (Str × Bool)} {c : Str} {b : Bool} (h1 : xcB K (He.ga K c) = true) (h2 : PySem.W.kitOne K (.ref (He.ga K c)) (.ref E) = some b) (h : KtOk K (mtL l) E) : KtOk K (mtL ((c, b) :: l)) E := fun y b' hy => by
  unfold mtL at hy
  rw [List.lookup_cons] at hy
  split at hy
  · rename_i e
    have e2 : y = c := by simpa using e
    subst e2
    cases hy
    exact ⟨xcB_ok h1, h2⟩
  · exact h y b' hy
theorem fd_nil {K : PySem.W.Frag} {f : Str} (h : f ≠ "" := by decide) : FdOk K f [] := ⟨h, fun c h => nomatch h⟩
theorem fd_cons {K : PySem.W.Frag} {f c : Str} {l : List Str} (h1 : XfC K (He.ga K c)) (h2 : PySem.W.findIn K (.ref (He.ga K c)) f = some none) (h : FdOk K f l) : FdOk K f (c :: l) := ⟨h.1, fun y hy => by
  rcases List.mem_cons.mp hy with z | z
  · subst z
    exact ⟨h1, h2⟩
  · exact h.2 y z⟩
/-- what the head asks beside: the errors' classes xs, the classes cn that are asked for, those that are caught -/
def exB (xs cn ct : List Str) (kit : List (Str × Str × Bool)) (K : PySem.W.Frag) : Bool :=
  (K.lookup sysModules).isSome && (decide ((tT K).map (·.1)).Nodup && (xs.all (fun c => xcB K (He.ga K c)) && (cn.all (fun c => He.eqO (PySem.W.nsIn K mainGlobals c) (some (some (.ref (He.ga K c))))) && (kit.all (fun p => decide (PySem.W.kitOne K (.ref (He.ga K p.1)) (.ref (He.ga K p.2.1)) = some p.2.2)) && xs.all (fun c => decide (PySem.W.exmAny K (.ref (He.ga K c)) ((ct.map (He.ga K)).map Value.ref) = some true))))))
structure ExBS (xs cn ct : List Str) (kit : List (Str × Str × Bool)) (K : PySem.W.Frag) : Prop where
  sys : (K.lookup sysModules).isSome = true
  nd : ((tT K).map (·.1)).Nodup
  xc : ∀ c ∈ xs, xcB K (He.ga K c) = true
  cn : ∀ c ∈ cn, PySem.W.nsIn K mainGlobals c = some (some (.ref (He.ga K c)))
  kit : ∀ p ∈ kit, PySem.W.kitOne K (.ref (He.ga K p.1)) (.ref (He.ga K p.2.1)) = some p.2.2
  ct : ∀ c ∈ xs, PySem.W.exmAny K (.ref (He.ga K c)) ((ct.map (He.ga K)).map Value.ref) = some true
theorem exB_ok {xs cn ct : List Str} {kit : List (Str × Str × Bool)} {K : PySem.W.Frag} (h : exB xs cn ct kit K = true) : ExBS xs cn ct kit K := by
  unfold exB at h
  simp only [Bool.and_eq_true, List.all_eq_true, decide_eq_true_eq] at h
  obtain ⟨h0, h1, h2, h3, h4, h5⟩ := h
  exact ⟨h0, h1, h2, fun c hc => He.eqO_ok (h3 c hc), h4, h5⟩
end DW

set_option Elab.async false
set_option linter.all false
set_option maxRecDepth 100000
set_option maxHeartbeats 4000000
/-! DWP: a lambda handed to a def that hands it on to outcome -/
namespace DW
open PySem PySem.Spec PyProof.Rows L2 LamX
/-- a frame that was made in between -/
theorem un_push {fs : List Addr} {p : Addr} {H H1 H2 : Hp} {h h1 h2 : Heap} (a : Un fs [] H H1 h h1) (b : Un (p :: fs) [] H1 H2 h1 h2) (hp : h.get? p = none) : Un fs [] H H2 h h2 where
  keep := fun c ob q n hc hx => b.keep c ob (a.keep c ob q n hc hx) (a.free c ob q n hx) (fun z => by
    rcases List.mem_cons.mp z with e | e
    · rw [e, hp] at q; cases q
    · exact hc e) hx
  slot := fun c ob q n hc hx => by
    obtain ⟨sl, e1⟩ := a.slot c ob q n hc hx
    obtain ⟨sl', e2⟩ := b.slot c _ e1 (a.free c ob q n hx) (List.mem_cons_of_mem _ hc) hx
    exact ⟨sl', e2⟩
  free := fun c ob q n hx => by
    obtain ⟨o', e1⟩ := a.there c ob q hx
    exact b.free c o' e1 (a.free c ob q n hx) hx
  there := fun c ob q hx => by
    obtain ⟨o', e1⟩ := a.there c ob q hx
    exact b.there c o' e1 hx
  tups := fun c xs q => b.tups c xs (a.tups c xs q)
  frzs := fun c ob xs q => b.frzs c ob xs (a.frzs c ob xs q)
  tbls := fun c ps q => by
    obtain ⟨m1, e1⟩ := a.tbls c ps q
    obtain ⟨m2, e2⟩ := b.tbls c _ e1
    exact ⟨m1 ++ m2, by rw [e2, Array.append_assoc]⟩
section
variable {X : Cx} {pins : List (Addr × Obj)} {σ : L2.St} {H HZ : Hp} {s s1 : Shared}
/-- lamAct, the def that calls it being called by another one -/
theorem lamActG {CXg : CXT} {Eg : XK} {Ng : List Str} {qg : Str} {sg : Scope} {g f c' : Addr} {cdg dV doc pm ctv : Value} {params : Arguments} {body : Expr} {scope : Scope} {k i : Nat} {a : Str} {pn : List (Addr × Obj)} {xe : Value → Shared → Prop} {W : WX} {t : XK → TE} {p1 p2 : Pos} {binds : List (Str × Value)}
    {A2 : Around} {st2 : List Env} {sZ : Shared} {HZ0 : Hp}
    (I : Inv X pins σ H s) (L : LamN X.N X.env.scope scope) (hf : s.heap.get? f = some (lamO X params body scope dV doc pm c' ctv)) (hfn : H f = none) (hfr : f ∉ frs X.stack) (locs : ∀ y ∈ binds, scope.names.lookup y.1 = some .local)
    (bind : ∀ s1 : Shared, (∀ b o, s.heap.get? b = some o → H b = none → b ∉ frs X.stack → s1.heap.get? b = some o) → BindsTo s1 (PySem.W.kdv_fn "<lambda>" (lamQ X) params (.expr body) scope (cloFrom X.env.cells scope.names []) dV doc pm (.ref c') ctv) ⟨[], []⟩ binds)
    (lnk : ∀ (H1 : Hp) (s1 : Shared), Un (frs st2) [] HZ0 H1 sZ.heap s1.heap → Un (frs X.stack) [] H H1 s.heap s1.heap)
    (tk : Takes ((cxOf CXg X.prog X.w X.K X.mg X.base Ng qg sg g cdg A2 st2 sZ HZ0 Eg).tr pn xe) W) (room : Room (k + 1) (A2.deeper (envOfC qg sg sZ.heap.objs.size g cdg)))
    (hbody : ∀ (A : Around) (outer : List Env) (s : Shared) (H : Hp) (E : XK) (f c' : Addr), Room k (A.deeper (lamEnv X scope s.heap.objs.size f c')) → (∃ e, A = A2.deeper e) → PE (lamCx X A outer s H E scope f c') body (t E))
    (hN : Ng[i]? = some a) (hv : Vis sg a) (hd : (a == ("__debug__" : Str)) = false := by decide) (hcd : (a == ("__classdict__" : Str)) = false := by decide) :
    PE ((cxOf CXg X.prog X.w X.K X.mg X.base Ng qg sg g cdg A2 st2 sZ HZ0 Eg).tr pn xe) (.Call (.Name a p1) [] [] p2) (tAct f c' (lamQ X) i W fun E HZ Q => t E σ HZ Q) := by
  refine ⟨fun pinsZ sZ1 σZ HZ Q IZ ⟨E, at_, hc, hW, ht⟩ => wpAny_Call_Name_kw (thn ((pe_var (pos := p1) (i := i) hN hv hd hcd).run pinsZ sZ1 σZ HZ (fun v H1 => v = .ref f ∧ H1 = HZ) IZ ⟨.ref f, at_, rfl, rfl⟩) fun u s1 ⟨v, H1, J, rv, q1⟩ => ?_)⟩
  obtain ⟨ev, eH⟩ := q1
  subst ev eH
  obtain rfl : u = Value.ref f := rv
  have un : Un (frs X.stack) [] H H1 s.heap s1.heap := lnk H1 s1 J.base
  have old : ∀ b o, s.heap.get? b = some o → H b = none → b ∉ frs X.stack → s1.heap.get? b = some o := fun b o e n m => un.keep b o e n m (fun z => nomatch z)
  have of1 := old f _ hf hfn hfr
  refine PySem.W.callWith_F0 ⟨_, _, _, _, of1⟩ ?_
  obtain ⟨⟨oc, vs, t', hoc, hdc, hvc⟩, _, _⟩ := J.hok c' _ hc
  have rc : codeAny (model X.prog X.w) (A2.deeper (envOfC qg sg sZ.heap.objs.size g cdg)) (.call (.ref f) ⟨[], []⟩) (CR (L2.CX X.prog X.w) (envOfC qg sg sZ.heap.objs.size g cdg :: st2) X.prog X.w H1 s1 Q E) s1 := by
    refine PySem.W.kla_callFunE room.depth of1 rfl L.co L.gen rfl ⟨c', oc, vs, t', rfl, hoc, hdc, hvc⟩ (bind s1 old _ _ _ _ (wpAny_newFunctionEnv L.cell locs (fun h₁ hns hsb => ⟨J.nolimit.fresh _ hsb, ?_⟩) L.kind))
    show codeAny _ _ (.expr body (lamEnv X scope s1.heap.objs.size f c')) _ _
    have kp : ∀ b o, s1.heap.get? b = some o → h₁.get? b = some o := fun b o e => hsb.extBut b o (Nat.ne_of_lt (Heap.lt_size e)) (Heap.get?_push_of_some _ e)
    have JL : Inv (lamCx X (A2.deeper (envOfC qg sg sZ.heap.objs.size g cdg)) (envOfC qg sg sZ.heap.objs.size g cdg :: st2) s1 H1 E scope f c') [] σ H1 { s1 with heap := h₁, toks := s1.toks + binds.length } := lamStart I L J.env0 room.hd un hns kp
    refine PySem.W.kla_codeExpr (wpAny_mono ((hbody _ _ s1 H1 E f c' (room.deeper _) ⟨_, rfl⟩).run [] _ _ H1 Q JL ht) (fun v s' hq => ?_) fun e s' hq => hq)
    obtain ⟨w', H', J', rv, q⟩ := hq
    exact ⟨w', H', J'.os, J'.bare, J'.base, J'.hok, rv, q⟩
  refine wpAny_call (codeAny_mono rc fun r s' hq => ?_)
  match r, hq with
  | .error e, hq => exact tk e s' (XE.of_call J (fun cls d H' h => hW cls d H' h) hq)
  | .ok (.ret u), hq => exact J.after hq
  | .ok .next, hq => exact False.elim hq
  | .ok .brk, hq => exact False.elim hq
  | .ok .cont, hq => exact False.elim hq
/-! ### the pins -/
theorem pin_new (I : Inv X pins σ H s) {f : Addr} {o : Obj} (get : s.heap.get? f = some o) (hn : H f = none) (hfr : f ∉ frs X.stack) (hd : ∀ v, o.data ≠ .cell v) (hns : ∃ fd, o.data = .func fd) : Inv X ((f, o) :: pins) σ H s := by
  refine ⟨I.ok, I.os, I.bare, I.base, I.loc, I.cell, I.free, I.freeC, fun p hp => ?_, I.hok, I.len⟩
  rcases List.mem_append.mp hp with z | z
  · exact I.pin p (List.mem_append_left _ z)
  · rcases List.mem_cons.mp z with z | z
    · subst z
      refine ⟨get, hn, fun e => ?_, fun e => ?_, hd⟩
      · obtain ⟨m, ⟨o', es, ep, ho', hd', _⟩, _⟩ := I.loc
        have e : f = X.env.locals := e
        obtain ⟨fd, hfd⟩ := hns
        rw [← e, get] at ho'
        cases ho'
        rw [hfd] at hd'
        cases hd'
      · rcases I.ok.stk with z | ⟨z, _⟩
        · exact hfr (by rw [z]; exact e)
        · refine hfr ?_
          rw [z]
          unfold frs
          rw [List.filterMap_cons]
          have e : f ∈ X.outer.filterMap (·.frame) := e
          split
          · exact e
          · exact List.mem_cons_of_mem _ e
    · exact I.pin p (List.mem_append_right _ z)
theorem pin_gone {p : Addr × Obj} (I : Inv X (p :: pins) σ H s) : Inv X pins σ H s :=
  ⟨I.ok, I.os, I.bare, I.base, I.loc, I.cell, I.free, I.freeC, fun q hq => I.pin q (by
    rcases List.mem_append.mp hq with z | z
    · exact List.mem_append_left _ z
    · exact List.mem_append_right _ (List.mem_cons_of_mem _ z)), I.hok, I.len⟩
end
/-- outcome(call) where call is a parameter that holds the lambda -/
theorem pe_outC {Z : Cx} {TT : (XK → Hp → VK → Prop) → Hp → VK → Prop} {x a y q : Str} {st : Stmt} {k j : Nat} {Ng : List Str} {p p2 pos : Pos} {f c' : Addr} {tl : XK → Hp → VK → Prop} (D : IsDef Z.K Z.mg x st) (hg : Gl Z x) (Sg : FnScope Ng [a] (defScope st))
    (hbi : ∀ (kV doc pm : Value) (an : Option Addr) (cdv ct : Value) (us : List Value), us.length = [a].length → bindArgs (PySem.W.fnOf x x (defArgs st) (defBody st) (defScope st) .none kV doc pm an cdv ct) ⟨us, []⟩ = pure ([a].zip us))
    (hG : ∀ (g : Addr) (cdg : Value), OutG Z Ng x (defScope st) g cdg (defBody st) a q (k + 1) TT) (room : Room (k + 2) Z.A) (quiet : Quiet Z.A) (hN : Z.N[j]? = some y) (hv : Vis Z.env.scope y)
    (act : ∀ (pins : List (Addr × Obj)) (s : Shared) (σ : L2.St) (H : Hp), Inv Z pins σ H s → ∀ (g : Addr) (cdg : Value), Room (k + 1) (Z.A.deeper (envOfC x (defScope st) s.heap.objs.size g cdg)) → ∀ (W : WX) (pn : List (Addr × Obj)) (xe : Value → Shared → Prop) (p1 p2 : Pos), Takes ((cxOf CX0 Z.prog Z.w Z.K Z.mg Z.base Ng x (defScope st) g cdg Z.A Z.stack s H E0).tr pn xe) W →
      PE ((cxOf CX0 Z.prog Z.w Z.K Z.mg Z.base Ng x (defScope st) g cdg Z.A Z.stack s H E0).tr pn xe) (.Call (.Name a p1) [] [] p2) (tAct f c' q 0 W tl))
    (hdb : (x == ("__debug__" : Str)) = false := by decide) (hd : (y == ("__debug__" : Str)) = false := by decide) (hcd : (y == ("__classdict__" : Str)) = false := by decide)
    (he : starEach [.Name y p2] Z.env = (false, eval (.Name y p2) Z.env) :: starEach [] Z.env := by rfl) (hpl : (backTo pos (starEach [] Z.env)).any (·.1) = false := by rfl) :
    PE Z (.Call (.Name x p) [.Name y p2] [] pos) (fun σ H Q => σ[j]? = some (some (.ref f)) ∧ H c' = some (CodeO c' q) ∧ TT tl H Q) := by
  obtain ⟨g, fd, F, hm⟩ := D
  have kp := F.kp
  have bnd := F.bindsN hbi
  obtain ⟨oc, od, dV, kV, doc, pm, an, cdv, ct, osl, rfl, lk, hcg, -, -⟩ := F.ex
  refine ⟨fun pins s σ H Q I ⟨h1, h2, h3⟩ => wpAny_Call_Name_kw (ld_glob I hg hm (PySem.W.callWith_K (h₀ := Z.base) I.ok.mod.kin kp ?_ he hpl) hdb)⟩
  refine thn ((pa_cons (pe_var (i := j) (pos := p2) hN hv hd hcd) pa_nil he).run pos pins s σ H (fun vs H1 => vs = [.ref f] ∧ H1 = H) I ⟨.ref f, h1, rfl, rfl⟩) fun us s1 ⟨vs, H1, J, rv, q1⟩ => ?_
  obtain ⟨ev, eH⟩ := q1
  subst ev eH
  obtain rfl : us = [Value.ref f] := by
    cases rv with
    | cons r1 r2 =>
      cases r2
      cases r1
      rfl
  refine ⟨J.kIn, ?_⟩
  have rc : codeAny (model Z.prog Z.w) Z.A (.call (.ref g) ⟨[.ref f], []⟩) (CR CX0 Z.stack Z.prog Z.w H1 s1 Q E0) s1 := by
    refine run_ofS (N := Ng) (ps := [a]) (us := [.ref f]) (vs := [.ref f]) lk hcg Sg room J.env0 (bnd s1 [.ref f] J.kIn rfl) (.cons rfl .nil) rfl fun room' => ?_
    exact hG g cdv f c' s1 H1 Q tl room' (quiet_deeper quiet _) (fun W pn xe p1 p2 tk => act pins s1 σ H1 J g cdv room' W pn xe p1 p2 tk) h2 h3
  refine wpAny_call (codeAny_mono rc fun r s2 hq => ?_)
  match r, hq with
  | .error e, hq => exact (show False from hq).elim
  | .ok (.ret u), hq => exact J.after hq
  | .ok .next, hq => exact False.elim hq
  | .ok .brk, hq => exact False.elim hq
  | .ok .cont, hq => exact False.elim hq
/-! ### data -/
theorem hid_hid (ρ : Rho) : hid (hid ρ) = hid ρ := by
  unfold hid
  rw [List.map_map]
  refine List.map_congr_left fun o _ => ?_
  match o with
  | none => rfl
  | some (.fr d) => rfl
  | some (.ol d) => rfl
  | some (.od d) => rfl
  | some (.io d) => rfl
  | some (.raw v F) => rfl
/-- what outcome returns -/
def outV (mt : Str → Bool) (mw : Fn) : R Dt → Option Dt
  | .ok d _ => some (.lst [d])
  | .ex e _ => if mt e.cls = true then match mw [.xo e.cls e.fld e.val] with
    | .ok (.fr d) => some d
    | _ => none
    else none
  | .bad => none
theorem tto_of {g : Gx} {F FV : Fm} {H0 H1 : Hp} {σ σV : L2.St} {ρ ρV : Rho} {Q : VK} {mt : Str → Bool} {mw : Fn} {fb : Rho → R Dt} {cs : List Addr} {o : Dt} (C : CtOk g mt cs) (EV : En g.K FV H0 H1 σV ρV) (EX : En g.K F H0 H1 σ ρ) (ho : outV mt mw (fb (hid ρ)) = some o)
    (k : ∀ v H0' H', En g.K FV H0' H' σV ρV → Mv σV ρV ρV H0 H1 H0' H' → Da g.K H0' v o → Q v H') : TTo g cs mw (fun E H' Q' => ∃ F', tD g F' (wE E) fb σ H' Q') H1 Q := by
  intro p0 hp0 Q' hQ'
  have E2 : En g.K FV H0 (upd H1 p0 (.tup [.non, .non])) σV ρV := EV.grow (gr_newO hp0) (same_newO hp0 EV.ex)
  have X2 : En g.K F H0 (upd H1 p0 (.tup [.non, .non])) σ ρ := EX.grow (gr_newO hp0) (same_newO hp0 EX.ex)
  have m2 : Mv σV ρV ρV H0 H1 H0 (upd H1 p0 (.tup [.non, .non])) := (gr_newO hp0).mv
  refine ⟨⟨H0, upd H1 p0 (.tup [.non, .non]), none⟩, H0, hid ρ, X2.hid, ?_⟩
  cases e : fb (hid ρ) with
  | bad => rw [e] at ho; cases ho
  | ok d ρ1 =>
    rw [e] at ho
    cases ho
    intro v H0' H' E3 m3 hv
    refine hQ' v H' fun p hp => ?_
    obtain ⟨E4, m4⟩ := E2.postW m2 E3.gr E3.tb E3.ex
    have gp : Gr ⟨H0', H', none⟩ (upd H0' p (.lst [v])) (upd H' p (.lst [v])) := gr_new hp E3.ex
    obtain ⟨E5, m5⟩ := E4.postW m4 gp.w (gp.tb E4.tb) (same_new hp E4.ex)
    exact k (.ref p) _ _ E5 m5 (.lst upd_same (.cons (hv.mono gp.b0) .nil))
  | ex x ρ1 =>
    rw [e] at ho
    unfold outV at ho
    dsimp only at ho
    by_cases hm : mt x.cls = true
    rotate_left
    · rw [if_neg hm] at ho
      cases ho
    rw [if_pos hm] at ho
    obtain ⟨C1, C2⟩ := C _ hm
    intro c da H0' H' xr E3
    obtain ⟨nz, dd, v, x1, x2, x3, x4, x5⟩ := xr
    rw [C1] at x1
    cases x1
    refine ⟨C2, dd, x2, fun a ha => ?_⟩
    obtain ⟨gw, tb, sm, s0⟩ := gw_xo (c := dd) (cls := .ref (He.ga g.K x.cls)) E3.gr E3.tb E3.ex x3 x4 ha
    have nda : dd ≠ a := ne_of_none x4 ha
    refine ⟨_, [.xo x.cls x.fld x.val], sm, tb, .cons (.xo nz upd_same (by rw [upd_ne nda, upd_same]) (x5.mono s0)) .nil, ?_⟩
    obtain ⟨E4, m4⟩ := E2.postW m2 gw tb sm
    cases e2 : mw [.xo x.cls x.fld x.val] with
    | ok s =>
      rw [e2] at ho
      cases s with
      | fr d =>
        cases ho
        intro u C0 C gr tt s2 hv
        obtain ⟨E5, m5⟩ := E4.postW m4 gr tt s2
        exact k u C0 C E5 m5 hv
      | _ => cases ho
    | ex x => rw [e2] at ho; cases ho
    | bad => rw [e2] at ho; cases ho
open Classical in
/-- outcome(call), the slot i holds call -/
noncomputable def outS (i : Nat) (f : Addr) (F : Fm) (o : Dt) : Rho → R Dt := fun ρ => if ρ[i]? = some (some (.raw (.ref f) F)) then .ok o ρ else .bad
theorem x_outS {i : Nat} {f : Addr} {F : Fm} {o : Dt} {ρ : Rho} (h : ρ[i]? = some (some (.raw (.ref f) F))) : outS i f F o ρ = .ok o ρ := by
  unfold outS
  rw [if_pos h]
/-- the environment at the start -/
def envR (n : Nat) (f : Addr) (F : Fm) (ds : List Dt) : Rho := some (.raw (.ref f) F) :: (ds.map (fun d => some (.fr d)) ++ List.replicate (n - (ds.length + 1)) none)
theorem envR_get {n : Nat} {f : Addr} {F : Fm} {ds : List Dt} {i : Nat} {s : Sl} (h : (envR n f F ds)[i]? = some (some s)) : (i = 0 ∧ s = .raw (.ref f) F) ∨ ∃ j d, i = j + 1 ∧ s = .fr d ∧ ds[j]? = some d := by
  cases i with
  | zero =>
    simp [envR] at h
    exact .inl ⟨rfl, h.symm⟩
  | succ i =>
    have h : (ds.map (fun d => some (Sl.fr d)) ++ List.replicate (n - (ds.length + 1)) none)[i]? = some (some s) := by simpa [envR] using h
    rw [List.getElem?_append] at h
    split at h
    · rw [List.getElem?_map] at h
      obtain ⟨d, h1, h2⟩ := Option.map_eq_some_iff.mp h
      cases h2
      exact .inr ⟨i, d, rfl, rfl, h1⟩
    · rw [List.getElem?_replicate] at h
      split at h <;> cases h
theorem en_startR {K : PySem.W.Frag} {H0 H : Hp} {N : List Str} {f : Addr} {vs : List V} {ds : List Dt} (s : Same H0 H) (t : TbOk K H0 H) (h : DaAll K H0 vs ds) (hl : ds.length + 1 ≤ N.length) : En K ⟨H0, H, none⟩ H0 H (L2.start N (.ref f :: vs)) (envR N.length f ⟨H0, H, none⟩ ds) where
  gr := Gw.refl H0 H none
  tb := t
  ex := s
  len := by
    unfold L2.start envR
    simp only [List.length_append, List.length_map, List.length_replicate, List.length_cons, h.length]
    omega
  sl := fun i s hs => by
    rcases envR_get hs with ⟨rfl, rfl⟩ | ⟨j, d, rfl, rfl, hd⟩
    · exact ⟨.ref f, start_get rfl, rfl, rfl⟩
    · obtain ⟨v, h1, h2⟩ := h.get hd
      exact ⟨v, start_get (by simpa using h1), h2⟩
  sep := fun i j s t b hij h1 _ o1 _ _ => by
    rcases envR_get h1 with ⟨_, rfl⟩ | ⟨_, d, _, rfl, _⟩ <;> cases o1
  io := fun b z => nomatch z
  io1 := fun i kvs' h => by
    rcases envR_get h with ⟨_, z⟩ | ⟨_, d, _, z, _⟩ <;> cases z
/-- a body's end -/
def endD : SR → Option Dt
  | .rt (.fr d) _ => some d
  | _ => none
open Classical in
/-- what the def that hands on returns, whatever the function object -/
noncomputable def runL (nn : Nat) (body : Addr → Fm → Dt → Rho → SR) (o : Dt) (ds : List Dt) : Option Dt := if h : ∃ d, ∀ f F, endD (body f F o (envR nn f F ds)) = some d then some h.choose else none
theorem runL_of {nn : Nat} {body : Addr → Fm → Dt → Rho → SR} {o d : Dt} {ds : List Dt} (h : ∀ f F, endD (body f F o (envR nn f F ds)) = some d) : runL nn body o ds = some d := by
  unfold runL
  have hh : ∃ d, ∀ f F, endD (body f F o (envR nn f F ds)) = some d := ⟨d, h⟩
  rw [dif_pos hh]
  have e := hh.choose_spec 0 ⟨fun _ => none, fun _ => none, none⟩
  rw [h] at e
  exact e.symm
theorem runL_get {nn : Nat} {body : Addr → Fm → Dt → Rho → SR} {o d : Dt} {ds : List Dt} (h : runL nn body o ds = some d) (f : Addr) (F : Fm) : endD (body f F o (envR nn f F ds)) = some d := by
  unfold runL at h
  split at h
  · rename_i hh
    cases h
    exact hh.choose_spec f F
  · cases h
noncomputable def hndF (mt : Str → Bool) (mw : Fn) (np nn : Nat) (body : Addr → Fm → Dt → Rho → SR) (fb : Rho → R Dt) (fa : Rho → R (List Dt)) : Rho → R Dt := fun ρ => match fa ρ with
  | .ok ds ρ1 => match outV mt mw (fb (hid ρ1)) with
    | some o => match (if ds.length = np then runL nn body o ds else none) with
      | some d => .ok d ρ1
      | none => .bad
    | none => .bad
  | _ => .bad
section
variable {X : Cx} {W : WX}
/-- lamEval, with no default -/
theorem lamEval0 {T : List (Addr × Str)} {c P : Addr} {params : Arguments} {body : Expr} {scope : Scope} {pos : Pos} {E : Value → Shared → Prop} {Q : Value → Shared → Prop} {pins : List (Addr × Obj)} {σ : L2.St} {H : Hp} {s : Shared} (I : Inv X pins σ H s) (d : defaultsOf params X.env = ([], []))
    (b : ∀ (q : Str) (cl : List (Str × Addr)) (doc pm cv ctv : Value), bindArgs (PySem.W.kdv_fn "<lambda>" q params (.expr body) scope cl .none doc pm cv ctv) ⟨[], []⟩ = pure []) (tab : TabB X.base X.mg c P) (code : X.env.code = .ref c)
    (inT : (P, lamQ X) ∈ T) (only : ∀ p ∈ T, p.1 = P → p.2 = lamQ X) (tabs : Tabs T H) (caught : ∀ y ∈ scope.names, y.2 = .free → ∃ c, X.env.cells.lookup y.1 = some c)
    (h : ∀ (f c' : Addr) (doc pm ctv : Value) (H1 : Hp) (s' : Shared), Inv X pins σ H1 s' → Tg P T H H1 → s'.heap.get? f = some (lamO X params body scope .none doc pm c' ctv) → H1 f = none → f ∉ frs X.stack → H1 c' = some (CodeO c' (lamQ X)) →
      (∀ s1 : Shared, BindsTo s1 (PySem.W.kdv_fn "<lambda>" (lamQ X) params (.expr body) scope (cloFrom X.env.cells scope.names []) .none doc pm (.ref c') ctv) ⟨[], []⟩ []) → Q (.ref f) s') :
    wpAny (model X.prog X.w) X.A (eval (.Lambda params body scope pos) X.env) Q E s :=
  lamEv0 d (lamTail I tab code inT only tabs caught fun f c' doc pm ctv H1 s' J tg kp fr get hn hfr hc ne un => h f c' doc pm ctv H1 s' J tg get hn hfr hc fun s1 => BindsTo.of_eq (b _ _ _ _ _ _))
/-- outcome(call) in a def that got the lambda -/
theorem de_outZ {Z : Cx} {W1 : WX} {mt : Str → Bool} {mw : Fn} {cs : List Addr} {xo a y q : Str} {sto : Stmt} {k : Nat} {No : List Str} {fb : Rho → R Dt} {p p2 pos : Pos} {f c' : Addr} {B0 B : Hp} {σ : L2.St} {ρ : Rho} {o : Dt}
    (C : CtOk (gx Z) mt cs) (Do : IsDef Z.K Z.mg xo sto) (hlo : Gl Z xo) (So : FnScope No [a] (defScope sto))
    (hbo : ∀ (kV doc pm : Value) (an : Option Addr) (cdv ct : Value) (us : List Value), us.length = [a].length → bindArgs (PySem.W.fnOf xo xo (defArgs sto) (defBody sto) (defScope sto) .none kV doc pm an cdv ct) ⟨us, []⟩ = pure ([a].zip us))
    (hG : ∀ (g : Addr) (cdg : Value), OutG Z No xo (defScope sto) g cdg (defBody sto) a q (k + 1) (TTo (gx Z) cs mw)) (room : Room (k + 2) Z.A) (quiet : Quiet Z.A) (hN : Z.N[0]? = some y) (hv : Vis Z.env.scope y)
    (act : ∀ (pins : List (Addr × Obj)) (s : Shared) (σZ : L2.St) (H : Hp), Inv Z pins σZ H s → ∀ (g : Addr) (cdg : Value), Room (k + 1) (Z.A.deeper (envOfC xo (defScope sto) s.heap.objs.size g cdg)) → ∀ (W : WX) (pn : List (Addr × Obj)) (xe : Value → Shared → Prop) (p1 p2 : Pos), Takes ((cxOf CX0 Z.prog Z.w Z.K Z.mg Z.base No xo (defScope sto) g cdg Z.A Z.stack s H E0).tr pn xe) W →
      PE ((cxOf CX0 Z.prog Z.w Z.K Z.mg Z.base No xo (defScope sto) g cdg Z.A Z.stack s H E0).tr pn xe) (.Call (.Name a p1) [] [] p2) (tAct f c' q 0 W fun E H' Q' => ∃ F', tD (gx Z) F' (wE E) fb σ H' Q'))
    (EX : En Z.K ⟨B0, B, none⟩ B0 B σ ρ) (hc : B c' = some (CodeO c' q)) (eo : outV mt mw (fb (hid ρ)) = some o)
    (hdo : (xo == ("__debug__" : Str)) = false := by decide) (hdy : (y == ("__debug__" : Str)) = false := by decide) (hcy : (y == ("__classdict__" : Str)) = false := by decide)
    (he : starEach [.Name y p2] Z.env = (false, eval (.Name y p2) Z.env) :: starEach [] Z.env := by rfl) (hpl : (backTo pos (starEach [] Z.env)).any (·.1) = false := by rfl) :
    DE Z W1 (.Call (.Name xo p) [.Name y p2] [] pos) (outS 0 f ⟨B0, B, none⟩ o) := fun FZ =>
  PE.wk (pe_outC (j := 0) Do hlo So hbo hG room quiet hN hv act hdo hdy hcy he hpl) fun σZ HZ QZ ⟨H0Z, ρZ, EZ, qz⟩ => by
    by_cases hz : ρZ[0]? = some (some (.raw (.ref f) ⟨B0, B, none⟩))
    rotate_left
    · unfold outS at qz
      rw [if_neg hz] at qz
      exact qz.elim
    · rw [x_outS hz] at qz
      obtain ⟨w, w1, w2, w3⟩ := EZ.sl 0 _ hz
      subst w2 w3
      have g3 : Gw ⟨B0, B, none⟩ H0Z HZ := EZ.gr
      refine ⟨w1, g3.keep c' _ hc (fun ps z => by cases z) (fun z => nomatch z), ?_⟩
      exact tto_of (F := ⟨B0, B, none⟩) (ρ := ρ) C EZ (EX.growW g3 EZ.tb EZ.ex) eo qz
/-- x(lambda: body, e2, ..), x handing the lambda on to xo -/
theorem de_hnd {mt : Str → Bool} {mw : Fn} {cs : List Addr} {x xo a y : Str} {st sto : Stmt} {c P : Addr} {k : Nat} {N No ps : List Str} {params : Arguments} {body : Expr} {scope : Scope} {fb : Rho → R Dt} {fa : Rho → R (List Dt)} {bd : Addr → Fm → Dt → Rho → SR} {es : List Expr} {p lpos pos : Pos}
    (C : CtOk (gx X) mt cs) (D : IsDef X.K X.mg x st) (Do : IsDef X.K X.mg xo sto) (hg : Gl X x) (S : FnScope N (y :: ps) (defScope st)) (hN0 : N[0]? = some y) (hvy : Vis (defScope st) y) (hlo : (defScope st).names.lookup xo = some .globalImplicit) (So : FnScope No [a] (defScope sto))
    (hbi : ∀ (kV doc pm : Value) (an : Option Addr) (cdv ct : Value) (us : List Value), us.length = (y :: ps).length → bindArgs (PySem.W.fnOf x x (defArgs st) (defBody st) (defScope st) .none kV doc pm an cdv ct) ⟨us, []⟩ = pure ((y :: ps).zip us))
    (hbo : ∀ (kV doc pm : Value) (an : Option Addr) (cdv ct : Value) (us : List Value), us.length = [a].length → bindArgs (PySem.W.fnOf xo xo (defArgs sto) (defBody sto) (defScope sto) .none kV doc pm an cdv ct) ⟨us, []⟩ = pure ([a].zip us))
    (hNo : No[0]? = some a) (hva : Vis (defScope sto) a)
    (hG : ∀ (g : Addr) (cdv : Value) (s : Shared) (H : Hp) (go : Addr) (cdo : Value), OutG (cxOf CX0 X.prog X.w X.K X.mg X.base N x (defScope st) g cdv X.A X.stack s H E0).nox No xo (defScope sto) go cdo (defBody sto) a (lamQ X) (k + 1) (TTo (gx X) cs mw))
    (hbd : ∀ (g : Addr) (cdg : Value) (s : Shared) (H : Hp) (f : Addr) (F : Fm) (o : Dt), Room (k + 2) (X.A.deeper (envOfC x (defScope st) s.heap.objs.size g cdg)) → Quiet (X.A.deeper (envOfC x (defScope st) s.heap.objs.size g cdg)) →
      (∀ (W : WX) (p p2 pos : Pos), DE (cxOf CX0 X.prog X.w X.K X.mg X.base N x (defScope st) g cdg X.A X.stack s H E0).nox W (.Call (.Name xo p) [.Name y p2] [] pos) (outS 0 f F o)) →
      DSs (cxOf CX0 X.prog X.w X.K X.mg X.base N x (defScope st) g cdg X.A X.stack s H E0).nox WF (defBody st) (bd f F o))
    (tab : TabB X.base X.mg c P) (code : X.env.code = .ref c) (inT : (P, lamQ X) ∈ tT X.K) (only : ∀ p ∈ tT X.K, p.1 = P → p.2 = lamQ X) (room : Room (k + 3) X.A) (quiet : Quiet X.A) (L : LamN X.N X.env.scope scope) (dfl : defaultsOf params X.env = ([], []))
    (bnd0 : ∀ (q : Str) (cl : List (Str × Addr)) (doc pm cv ctv : Value), bindArgs (PySem.W.kdv_fn "<lambda>" q params (.expr body) scope cl .none doc pm cv ctv) ⟨[], []⟩ = pure [])
    (hbody : ∀ (A : Around) (outer : List Env) (s : Shared) (H : Hp) (E : XK) (f c' : Addr), Room k (A.deeper (lamEnv X scope s.heap.objs.size f c')) → Quiet (A.deeper (lamEnv X scope s.heap.objs.size f c')) → DE (lamCx X A outer s H E scope f c') (wE E) body fb)
    (ha : DA X W es fa)
    (hNl : ps.length + 1 ≤ N.length)
    (hdb : (x == ("__debug__" : Str)) = false := by decide) (hdo : (xo == ("__debug__" : Str)) = false := by decide) (hd : (a == ("__debug__" : Str)) = false := by decide) (hcd : (a == ("__classdict__" : Str)) = false := by decide) (hdy : (y == ("__debug__" : Str)) = false := by decide) (hcy : (y == ("__classdict__" : Str)) = false := by decide)
    (hst : starEach (.Lambda params body scope lpos :: es) X.env = (false, eval (.Lambda params body scope lpos) X.env) :: starEach es X.env := by rfl) (hpl : (backTo pos (starEach es X.env)).any (·.1) = false := by rfl) :
    DE X W (.Call (.Name x p) (.Lambda params body scope lpos :: es) [] pos) (hndF mt mw ps.length N.length bd fb fa) := by
  obtain ⟨g, fd, F, hm⟩ := D
  have kp := F.kp
  have bnd := F.bindsN hbi
  obtain ⟨oc, od, dV, kV, doc, pm, an, cdv, ct, osl, rfl, lk, hcg, -, -⟩ := F.ex
  refine fun FX => ⟨fun pins s σ H Q I ⟨H0, ρ, EX, qq⟩ => wpAny_Call_Name_kw (ld_glob I hg hm (PySem.W.callWith_K (h₀ := X.base) I.ok.mod.kin kp ?_ hst hpl) hdb)⟩
  rw [hst]
  show wpAny _ _ (spliced ((false, eval (.Lambda params body scope lpos) X.env) :: backTo pos (starEach es X.env))) _ _ s
  refine Calls.spliced_cons (lamEval0 I dfl bnd0 tab code inT only (fun p hp => (EX.tb p hp).2) (L.has I.ok) fun f c' doc' pm' ctv H1 s' J tg get hn hfr hc bind => ?_)
  obtain ⟨g1, t1, s1⟩ := EX.tg inT tg
  have E1 := EX.growW g1 t1 s1
  have m1 : Mv σ ρ ρ H0 H H0 H1 := g1.mv
  have J1 := pin_new J get hn hfr (fun v z => nomatch z) ⟨_, rfl⟩
  -- the other arguments
  unfold hndF at qq
  cases ef : fa ρ with
  | bad => rw [ef] at qq; exact qq.elim
  | ex _ _ => rw [ef] at qq; exact qq.elim
  | ok ds ρ1 =>
  rw [ef] at qq
  dsimp only at qq
  cases eo : outV mt mw (fb (hid ρ1)) with
  | none => rw [eo] at qq; exact qq.elim
  | some o =>
  rw [eo] at qq
  dsimp only at qq
  by_cases hal : ds.length = ps.length
  rotate_left
  · rw [if_neg hal] at qq
    exact qq.elim
  rw [if_pos hal] at qq
  cases el : runL N.length bd o ds with
  | none => rw [el] at qq; exact qq.elim
  | some d =>
  rw [el] at qq
  dsimp only at qq
  refine thn ((ha FX).run pos _ s' σ H1 (fun vs H2 => ∃ H0', En X.K FX H0' H2 σ ρ1 ∧ Mv σ ρ ρ1 H0 H1 H0' H2 ∧ DaAll X.K H0' vs ds) J1 ⟨H0, ρ, E1, by rw [ef]; exact fun vs H0' H' e m da => ⟨H0', e, m, da⟩⟩) fun us s2 ⟨vs, H2, J2, rv, H0', E2, m2, da⟩ => ?_
  obtain ⟨get2, hn2, -, -, -⟩ := J2.pin (f, _) (List.mem_append_right _ List.mem_cons_self)
  have I2 := pin_gone J2
  refine ⟨I2.kIn, ?_⟩
  have ownC : ¬ OwnAt σ ρ c' := fun ⟨i, t, h1, h2, h3⟩ => by
    obtain ⟨w, h4, h5⟩ := E1.sl i t h1
    rw [h3] at h4
    cases h4
    cases t with
    | fr _ => cases h2
    | raw _ _ => cases h2
    | ol _ => obtain ⟨b, _, e', _, _, q3, _⟩ := h5; cases e'; rw [hc] at q3; cases q3
    | od _ => obtain ⟨b, _, e', _, _, q3, _⟩ := h5; cases e'; rw [hc] at q3; cases q3
    | io _ => obtain ⟨b, _, e', _, _, q3, _⟩ := h5; cases e'; rw [hc] at q3; cases q3
  have hc2 : H2 c' = some (CodeO c' (lamQ X)) := m2.keep c' _ hc (fun ps z => by cases z) ownC
  have hfr2 : f ∉ frs X.stack := hfr
  have bz : BindsTo s2 (PySem.W.fnOf x x (defArgs st) (defBody st) (defScope st) dV kV doc pm an cdv ct) ⟨.ref f :: us, []⟩ ((y :: ps).zip (.ref f :: us)) := by
    have := bnd s2 (.ref f :: us) I2.kIn (by rw [List.append_nil, List.length_cons, List.length_cons, ← rv.length, da.length, hal])
    rwa [List.append_nil] at this
  have EH := E2.hid
  have eo' : outV mt mw (fb (hid (hid ρ1))) = some o := by rw [hid_hid]; exact eo
  have rc : codeAny (model X.prog X.w) X.A (.call (.ref g) ⟨.ref f :: us, []⟩) (CR CX0 X.stack X.prog X.w H2 s2 (fun v H' => Q v H') E0) s2 := by
    refine run_ofS (N := N) (ps := y :: ps) (us := .ref f :: us) (vs := .ref f :: vs) lk hcg S room I2.env0 bz (.cons rfl rv) (by rw [List.length_cons, List.length_cons, da.length, hal]) fun room' => ?_
    refine ⟨_, PSs.nox (hbd g cdv s2 H2 f ⟨H0', H2, none⟩ o room' (quiet_deeper quiet _) (fun W1 p1 p2 po FZ => ?_) ⟨H0', H2, none⟩), H0', envR N.length f ⟨H0', H2, none⟩ ds, en_startR E2.ex E2.tb da (by omega), ?_⟩
    · -- outcome(call)
      have hG1 := fun go cdo => hG g cdv s2 H2 go cdo
      have he1 : starEach [.Name y p2] (envOfC x (defScope st) s2.heap.objs.size g cdv) = (false, eval (.Name y p2) (envOfC x (defScope st) s2.heap.objs.size g cdv)) :: starEach [] (envOfC x (defScope st) s2.heap.objs.size g cdv) := rfl
      have act : ∀ (pins : List (Addr × Obj)) (s : Shared) (σZ : L2.St) (H : Hp), Inv (cxOf CX0 X.prog X.w X.K X.mg X.base N x (defScope st) g cdv X.A X.stack s2 H2 E0).nox pins σZ H s → ∀ (go : Addr) (cdo : Value), Room (k + 1) ((X.A.deeper (envOfC x (defScope st) s2.heap.objs.size g cdv)).deeper (envOfC xo (defScope sto) s.heap.objs.size go cdo)) → ∀ (W : WX) (pn : List (Addr × Obj)) (xe : Value → Shared → Prop) (p1 p2 : Pos), Takes ((cxOf CX0 X.prog X.w X.K X.mg X.base No xo (defScope sto) go cdo (X.A.deeper (envOfC x (defScope st) s2.heap.objs.size g cdv)) (envOfC x (defScope st) s2.heap.objs.size g cdv :: X.stack) s H E0).tr pn xe) W →
          PE ((cxOf CX0 X.prog X.w X.K X.mg X.base No xo (defScope sto) go cdo (X.A.deeper (envOfC x (defScope st) s2.heap.objs.size g cdv)) (envOfC x (defScope st) s2.heap.objs.size g cdv :: X.stack) s H E0).tr pn xe) (.Call (.Name a p1) [] [] p2) (tAct f c' (lamQ X) 0 W fun E H' Q' => ∃ F', tD (gx X) F' (wE E) fb σ H' Q') := by
        intro pinsZ sZ σZ HZ JZ go cdo roomo W2 pn xe q1 q2 tk
        refine lamActG (i := 0) (t := fun E σ H Q => ∃ F', tD (gx X) F' (wE E) fb σ H Q) (binds := []) I2 L get2 hn2 hfr2 (fun _ z => nomatch z) (fun s1 _ => bind s1) (fun H3 s3 un => ?_) tk roomo (fun A outer s H E f c' hr ⟨e, hA⟩ => ⟨fun pins s1 σ H1 Q I ⟨F', h⟩ => ((hbody A outer s H E f c' hr ?_) F').run pins s1 σ H1 Q I h⟩) hNo hva hd hcd
        · exact un_push (p := s2.heap.objs.size) JZ.base un (by
            cases z : s2.heap.get? s2.heap.objs.size with
            | none => rfl
            | some o => exact absurd (Heap.lt_size z) (Nat.lt_irrefl _))
        · subst hA
          exact quiet_deeper (quiet_deeper (quiet_deeper quiet _) _) _
      exact (de_outZ (Z := (cxOf CX0 X.prog X.w X.K X.mg X.base N x (defScope st) g cdv X.A X.stack s2 H2 E0).nox) (q := lamQ X) (σ := σ) (ρ := hid ρ1) C Do hlo So hbo hG1 room' (quiet_deeper quiet _) hN0 hvy act EH hc2 eo' hdo hdy hcy he1 rfl) FZ
    · have ee := runL_get el f ⟨H0', H2, none⟩
      cases er : bd f ⟨H0', H2, none⟩ o (envR N.length f ⟨H0', H2, none⟩ ds) with
      | rt s ρ' =>
        rw [er] at ee
        cases s with
        | fr d' =>
          cases ee
          intro v σ' C0 C' E' hs
          obtain ⟨E3, m3⟩ := E2.postW m2 E'.gr E'.tb E'.ex
          exact qq v C0 C' E3 (Mw.trans m1 m3) hs
        | _ => cases ee
      | _ => rw [er] at ee; cases ee
  refine wpAny_call (codeAny_mono rc fun r s3 hq => ?_)
  match r, hq with
  | .error e, hq => exact (show False from hq).elim
  | .ok (.ret u), hq =>
    obtain ⟨v, H', J', r', q'⟩ := I2.after hq
    exact ⟨v, H', J', r', q'⟩
  | .ok .next, hq => exact False.elim hq
  | .ok .brk, hq => exact False.elim hq
  | .ok .cont, hq => exact False.elim hq
end
end DW

set_option Elab.async false
set_option linter.all false
set_option maxRecDepth 100000
set_option maxHeartbeats 4000000
/-! DWQ: repr of data with dicts within -/
namespace DW
open PySem PySem.Spec PyProof.Rows L2
mutual
/-- data that can be told, dicts too (no script, no error) -/
def plainX : Dt → Bool
  | .lst xs => plainXs xs
  | .tup xs => plainXs xs
  | .dct kvs => plainXk kvs
  | .non => true
  | .bl _ => true
  | .int _ => true
  | .str _ => true
  | .scr _ => false
  | .xo _ _ _ => false
def plainXs : List Dt → Bool
  | [] => true
  | d :: ds => plainX d && plainXs ds
def plainXk : List (Key × Dt) → Bool
  | [] => true
  | (_, d) :: r => plainX d && plainXk r
end
/-- a bound of a key's text -/
def wtK : Key → Nat
  | .inl _ => 600
  | .inr x => (reprText x).length
mutual
def wtX : Dt → Nat
  | .lst xs => wtXs xs + 2
  | .tup xs => wtXs xs + 3
  | .dct kvs => wtXk kvs + 2
  | .non => 4
  | .bl _ => 5
  | .int _ => 600
  | .str x => (reprText x).length
  | .scr _ => 0
  | .xo _ _ _ => 0
def wtXs : List Dt → Nat
  | [] => 0
  | d :: ds => wtX d + 2 + wtXs ds
def wtXk : List (Key × Dt) → Nat
  | [] => 0
  | (k, d) :: r => wtK k + 2 + wtX d + 2 + wtXk r
end
def pyK : Key → PyData
  | .inl i => .int i
  | .inr x => .str x
theorem toPyKv_keys : ∀ kvs : List (Key × Dt), (toPyKv kvs).map (·.1) = kvs.map fun p => pyK p.1
  | [] => rfl
  | (.inl i, d) :: r => by
    simp only [toPyKv, List.map_cons, toPyKv_keys r]
    rfl
  | (.inr x, d) :: r => by
    simp only [toPyKv, List.map_cons, toPyKv_keys r]
    rfl
theorem toPyKv_vals : ∀ kvs : List (Key × Dt), (toPyKv kvs).map (·.2) = toPyAll (kvs.map (·.2))
  | [] => rfl
  | (k, d) :: r => by simp only [toPyKv, List.map_cons, toPyAll, toPyKv_vals r]
theorem dictText_len_le (ts : List Str) : (dictText ts).length ≤ piled ts + 2 := by
  unfold dictText
  rw [strLen_append, strLen_append]
  have e1 : ((("{" : String) : Str)).length = 1 := rfl
  have e2 : ((("}" : String) : Str)).length = 1 := rfl
  rw [e1, e2]
  by_cases h : ts = []
  · subst h
    have : (Str.join ", " ([] : List Str)).length = 0 := rfl
    omega
  · have := join_length_add ts h
    omega
theorem key_len (k : Key) (h : (pyK k).showable = true) : (pyK k).shown.length ≤ wtK k := by
  cases k with
  | inl i =>
    simp only [pyK, PyData.showable, decide_eq_true_eq] at h
    exact int_len h
  | inr x => exact Nat.le_refl _
mutual
theorem shown_lenX : ∀ d : Dt, (toPy d).showable = true → plainX d = true → (toPy d).shown.length ≤ wtX d
  | .lst xs, h, p => by
    have := listText_len_le (PyData.shownAll (toPyAll xs))
    have := shown_lenXs xs (by simpa [toPy, PyData.showable] using h) (by simpa [plainX] using p)
    simp only [toPy, PyData.shown, wtX]
    omega
  | .tup xs, h, p => by
    have := DW.tupleText_len_le (PyData.shownAll (toPyAll xs))
    have := shown_lenXs xs (by simpa [toPy, PyData.showable] using h) (by simpa [plainX] using p)
    simp only [toPy, PyData.shown, wtX]
    omega
  | .dct kvs, h, p => by
    have := dictText_len_le (PyData.shownKv (toPyKv kvs))
    have := shown_lenXk kvs (by simpa [toPy, PyData.showable] using h) (by simpa [plainX] using p)
    simp only [toPy, PyData.shown, wtX]
    omega
  | .xo _ _ _, _, p => by simp [plainX] at p
  | .scr _, _, p => by simp [plainX] at p
  | .non, _, _ => by decide
  | .bl b, _, _ => by cases b <;> decide
  | .int i, h, _ => by
    simp only [toPy, PyData.showable, decide_eq_true_eq] at h
    exact int_len h
  | .str _, _, _ => Nat.le_refl _
theorem shown_lenXs : ∀ ds : List Dt, PyData.showableAll (toPyAll ds) = true → plainXs ds = true → piled (PyData.shownAll (toPyAll ds)) ≤ wtXs ds
  | [], _, _ => Nat.le_refl _
  | d :: ds, h, p => by
    simp only [toPyAll, PyData.showableAll, Bool.and_eq_true] at h
    simp only [plainXs, Bool.and_eq_true] at p
    have h1 := shown_lenXs ds h.2 p.2
    have h2 := shown_lenX d h.1 p.1
    simp only [toPyAll, PyData.shownAll, piled_cons, wtXs]
    omega
theorem shown_lenXk : ∀ kvs : List (Key × Dt), PyData.showableKv (toPyKv kvs) = true → plainXk kvs = true → piled (PyData.shownKv (toPyKv kvs)) ≤ wtXk kvs
  | [], _, _ => Nat.le_refl _
  | (k, d) :: r, h, p => by
    have e : toPyKv ((k, d) :: r) = (pyK k, toPy d) :: toPyKv r := by cases k <;> simp only [toPyKv, pyK]
    rw [e] at h ⊢
    simp only [PyData.showableKv, Bool.and_eq_true] at h
    simp only [plainXk, Bool.and_eq_true] at p
    have h1 := shown_lenXk r h.2 p.2
    have h2 := shown_lenX d h.1.2 p.1
    have h3 := key_len k h.1.1
    simp only [PyData.shownKv, piled_cons, wtXk, strLen_append]
    have e2 : (((": " : String) : Str)).length = 2 := rfl
    rw [e2]
    omega
end
/-! ### what is read of it -/
/-- sys.modules is known (so no list stands there) -/
def SysK (K : PySem.W.Frag) : Prop := ∃ o, K.lookup sysModules = some o
def sysB (K : PySem.W.Frag) : Bool := (K.lookup sysModules).isSome
theorem sysB_ok {K : PySem.W.Frag} (h : sysB K = true) : SysK K := by
  unfold sysB at h
  exact Option.isSome_iff_exists.mp h
section
variable {X : Cx} {pins : List (Addr × Obj)} {σ : L2.St} {H : Hp} {s : Shared}
theorem sys_free (I : Inv X pins σ H s) (hk : SysK X.K) : H sysModules = none := by
  obtain ⟨o, e⟩ := hk
  exact (I.bs _ _ (I.mod.kin _ _ e)).2
theorem kv_reads : ∀ {ks : List (Key × V)} {vs : List (Key × Value)} {es : List DictEntry}, KV ks vs → Pairs (mixKind X.prog X.w) es vs → ReadsAll s.heap (es.map (·.key)) (ks.map fun p => pyK p.1) [] ∧ Vals (ks.map (·.2)) (es.map (·.val))
  | _, _, _, .nil, h => by
    cases h
    exact ⟨.nil, .nil⟩
  | _, _, _, @Paired.cons _ _ _ p q _ _ r t, h => by
    cases h with
    | @cons en es _ vs h1 h2 h3 =>
      obtain ⟨a1, a2⟩ := kv_reads t h3
      refine ⟨?_, .cons (by show RelV p.2 en.val; rw [h2]; exact r.2) a2⟩
      rw [List.map_cons, List.map_cons]
      have h1 : keyIs p.1 en.key = true := by rw [r.1]; exact h1
      rcases keyIs_shape h1 with ⟨i, t, e1, e2⟩ | ⟨z, t, e1, e2⟩
      · rw [e1, e2]
        exact ReadsAll.cons (Reads.int i t) a1
      · rw [e1, e2]
        exact ReadsAll.cons (Reads.str z t) a1
theorem DaKv.vals {K : PySem.W.Frag} {H : Hp} : ∀ {ks : List (Key × V)} {kvs : List (Key × Dt)}, DaKv K H ks kvs → DaAll K H (ks.map (·.2)) (kvs.map (·.2)) ∧ ks.map (·.1) = kvs.map (·.1)
  | _, _, .nil => ⟨.nil, rfl⟩
  | _, _, .cons h1 h2 => by
    obtain ⟨a, b⟩ := DaKv.vals h2
    exact ⟨.cons h1 a, by rw [List.map_cons, List.map_cons, b]⟩
theorem plainXk_s : ∀ kvs : List (Key × Dt), plainXk kvs = plainXs (kvs.map (·.2))
  | [] => rfl
  | (_, d) :: r => by simp only [plainXk, plainXs, List.map_cons, plainXk_s r]
mutual
theorem Da.rdx (I : Inv X pins σ H s) (hk : SysK X.K) : ∀ {d : Dt} {v : V} {u : Value}, Da X.K H v d → plainX d = true → RelV v u → ∃ as, Reads s.heap u (toPy d) as ∧ sysModules ∉ as
  | .non, _, _, h, _, r => by
    cases h
    cases r
    exact ⟨[], by simp only [toPy]; exact Reads.none, List.not_mem_nil⟩
  | .bl b, _, _, h, _, r => by
    cases h
    cases r
    exact ⟨[], by simp only [toPy]; exact Reads.bool b, List.not_mem_nil⟩
  | .int i, _, _, h, _, r => by
    cases h
    obtain ⟨t, rfl⟩ := r
    exact ⟨[], by simp only [toPy]; exact Reads.int i t, List.not_mem_nil⟩
  | .str x, _, _, h, _, r => by
    cases h
    obtain ⟨t, rfl⟩ := r
    exact ⟨[], by simp only [toPy]; exact Reads.str x t, List.not_mem_nil⟩
  | .scr _, _, _, _, p, _ => by simp [plainX] at p
  | .xo _ _ _, _, _, _, p, _ => by simp [plainX] at p
  | .lst ds, _, _, h, p, r => by
    cases h with
    | @lst a xs _ h1 h2 =>
      cases r
      obtain ⟨its, rv, ⟨o, n, ho, hc, _, hd⟩, _⟩ := I.list (SqL.of h1)
      obtain ⟨as, hr, hn⟩ := DaAll.rdx I hk h2 (by simpa [plainX] using p) rv
      refine ⟨a :: as, by simp only [toPy]; exact Reads.list ho hc hd hr, fun hm => ?_⟩
      rcases List.mem_cons.mp hm with e | e
      · rw [← e, sys_free I hk] at h1
        cases h1
      · exact hn e
  | .tup ds, _, _, h, p, r => by
    cases h with
    | tup h1 h2 =>
      cases r
      obtain ⟨its, rv, ⟨o, ho, hc, n, hd⟩, _⟩ := I.tuple h1
      obtain ⟨as, hr, hn⟩ := DaAll.rdx I hk h2 (by simpa [plainX] using p) rv
      exact ⟨as, by simp only [toPy]; exact Reads.tuple ho hc hd hr, hn⟩
  | .dct kvs, _, _, h, p, r => by
    cases h with
    | @dct a ks _ h1 h2 =>
      cases r
      obtain ⟨hz, hs0, vs, kv, hdo⟩ := I.hok a _ h1
      have ht := hdo.typeIs
      obtain ⟨o, es, ep, ho, hx, hdat, hks, hpr, hnd⟩ := hdo
      obtain ⟨o2, ho2, hc⟩ := ht
      rw [ho] at ho2
      cases ho2
      obtain ⟨a1, a2⟩ := kv_reads (X := X) (s := s) kv hpr
      obtain ⟨b1, b2⟩ := DaKv.vals h2
      obtain ⟨bs, hr, hn⟩ := DaAll.rdxL I hk kvs b1 (by rw [← plainXk_s]; simpa [plainX] using p) a2
      have e1 : ks.map (fun p => pyK p.1) = kvs.map fun p => pyK p.1 := by
        have := congrArg (List.map pyK) b2
        rwa [List.map_map, List.map_map] at this
      refine ⟨a :: ([] : List Addr) ++ bs, ?_, fun hm => ?_⟩
      · simp only [toPy]
        exact Reads.dict ho hc hdat (by rw [toPyKv_keys, ← e1]; exact a1) (by rw [toPyKv_vals]; exact hr)
      · rcases List.mem_cons.mp hm with e | e
        · rw [← e] at hs0
          simp at hs0
        · exact hn e
theorem DaAll.rdx (I : Inv X pins σ H s) (hk : SysK X.K) : ∀ {ds : List Dt} {vs : List V} {us : List Value}, DaAll X.K H vs ds → plainXs ds = true → Vals vs us → ∃ as, ReadsAll s.heap us (toPyAll ds) as ∧ sysModules ∉ as
  | [], _, _, h, _, r => by
    cases h
    cases r
    exact ⟨[], by simp only [toPyAll]; exact ReadsAll.nil, List.not_mem_nil⟩
  | d :: ds, _, _, h, p, r => by
    cases h with
    | cons h1 h2 =>
      cases r with
      | cons r1 r2 =>
        simp only [plainXs, Bool.and_eq_true] at p
        obtain ⟨as, q1, n1⟩ := Da.rdx I hk h1 p.1 r1
        obtain ⟨bs, q2, n2⟩ := DaAll.rdx I hk h2 p.2 r2
        exact ⟨as ++ bs, by simp only [toPyAll]; exact ReadsAll.cons q1 q2, fun hm => (List.mem_append.mp hm).elim n1 n2⟩
theorem DaAll.rdxL (I : Inv X pins σ H s) (hk : SysK X.K) : ∀ (kvs : List (Key × Dt)) {vs : List V} {us : List Value}, DaAll X.K H vs (kvs.map (·.2)) → plainXs (kvs.map (·.2)) = true → Vals vs us → ∃ as, ReadsAll s.heap us (toPyAll (kvs.map (·.2))) as ∧ sysModules ∉ as
  | [], _, _, h, _, r => by
    cases h
    cases r
    exact ⟨[], by simp only [List.map_nil, toPyAll]; exact ReadsAll.nil, List.not_mem_nil⟩
  | (k, d) :: ds, _, _, h, p, r => by
    cases h with
    | cons h1 h2 =>
      cases r with
      | cons r1 r2 =>
        simp only [List.map_cons, plainXs, Bool.and_eq_true] at p
        obtain ⟨as, q1, n1⟩ := Da.rdx I hk h1 p.1 r1
        obtain ⟨bs, q2, n2⟩ := DaAll.rdxL I hk ds h2 p.2 r2
        exact ⟨as ++ bs, by simp only [List.map_cons, toPyAll]; exact ReadsAll.cons q1 q2, fun hm => (List.mem_append.mp hm).elim n1 n2⟩
end
end
/-! ### repr -/
def reprOkX (d : Dt) : Bool := plainX d && (toPy d).showable && decide ((toPy d).depth ≤ 50) && decide (wtX d ≤ 16000000)
def reprX (d : Dt) : Option Dt := if reprOkX d = true then some (.str (toPy d).shown) else none
section
variable {X : Cx} {W : WX} {e : Expr} {pos p : Pos} {f1 : Rho → R Dt}
def rReprX (K : PySem.W.Frag) : V → Hp → VK → Prop := fun x H Q => ∃ d, Da K H x d ∧ plainX d = true ∧ (toPy d).showable = true ∧ (toPy d).depth ≤ 50 ∧ (toPy d).shown.length ≤ sizeLine ∧ Q (.str (toPy d).shown) H
theorem cr_reprX (hk : SysK X.K) (hu : X.A.units + 64 < cLine) (hq : Quiet X.A) : CallR X (.builtin "repr") (fun xs H Q => ∃ x, xs = [x] ∧ rReprX X.K x H Q) := by
  intro pins s σ H xs us Q I r h
  obtain ⟨x, rfl, d, hd, hp, hs, hdp, hl, q⟩ := h
  obtain ⟨u, rfl, ru⟩ := vals1 r
  have key : ∀ a : Addr, x = .ref a → wpAny (model X.prog X.w) X.A (call (.builtin "repr") [u]) (EP X pins σ Q) X.xe s := fun a e => by
    subst e
    obtain ⟨as, rd, hn⟩ := Da.rdx I hk hd hp ru
    cases ru
    exact repr_of_reads' rd hs (fun _ => hn) hq (by omega) (fun _ _ e => e) (fun h' u tk hk => ⟨.str _, H, I.kept hk, ⟨_, rfl⟩, q⟩) hl
  cases hd with
  | non => cases ru; exact PySem.P.repr_of_none ⟨.str _, H, I.tok _, ⟨_, rfl⟩, by simpa only [toPy, PyData.shown] using q⟩
  | bl b => cases ru; exact PySem.P.repr_of_bool ⟨.str _, H, I.tok _, ⟨_, rfl⟩, by simpa only [toPy, PyData.shown] using q⟩
  | int i =>
    obtain ⟨t, rfl⟩ := ru
    exact PySem.P.repr_of_int (by simpa [toPy, PyData.showable] using hs) ⟨.str _, H, I.tok _, ⟨_, rfl⟩, by simpa only [toPy, PyData.shown] using q⟩
  | str i =>
    obtain ⟨t, rfl⟩ := ru
    exact PySem.P.repr_of_str ⟨.str _, H, I.tok _, ⟨_, rfl⟩, by simpa only [toPy, PyData.shown] using q⟩ (by simpa only [toPy, PyData.shown] using hl)
  | lst _ _ => exact key _ rfl
  | tup _ _ => exact key _ rfl
  | dct _ _ => exact key _ rfl
  | scr _ => simp [plainX] at hp
  | xo _ _ _ _ => simp [plainX] at hp
  | xb _ _ => simp [plainX] at hp
theorem und_reprX (K : PySem.W.Frag) : UnD K (fun x H Q => ∃ y, [x] = [y] ∧ rReprX K y H Q) reprX := by
  intro x d z H0 H s hx hg Q k
  unfold reprX at hg
  split at hg
  · rename_i h
    cases hg
    simp only [reprOkX, Bool.and_eq_true, decide_eq_true_eq] at h
    obtain ⟨⟨⟨h1, h2⟩, h3⟩, h4⟩ := h
    exact ⟨x, rfl, d, Pk.up s hx, h1, h2, h3, Nat.le_trans (Nat.le_trans (shown_lenX d h2 h1) h4) (by decide), sc s (.str _) k⟩
  · cases hg
theorem de_reprX (hk : SysK X.K) (hu : X.A.units + 64 < cLine) (hq : Quiet X.A) (hg : Gl X "repr") (hm : X.mg "repr" = none) (ha : DK X W e f1) (he : starEach (e :: []) X.env = (false, eval e X.env) :: starEach [] X.env := by rfl) : DE X W (.Call (.Name "repr" p) [e] [] pos) (un reprX f1) :=
  de_b1 (cr_reprX hk hu hq) (und_reprX _) hg hm (by decide +kernel) ha (he := he)
end
/-! ### in, of nested data -/
def rInX (neg : Bool) (K : PySem.W.Frag) : R2 := fun x y H Q => ∃ d xs, Dp K H x d ∧ (Dp K H y (.list xs) ∨ Dp K H y (.tuple xs)) ∧ d.plain = true ∧ PyData.plainAll xs = true ∧ d.depth ≤ 50 ∧ Q (.bl (if neg then !(xs.any fun y => PyData.eqv y d) else xs.any fun y => PyData.eqv y d)) H
section
variable {X : Cx}
theorem opr_inX (hu : X.A.units + 64 < cLine) : OpR X (compareOp .In) (rInX false X.K) := by
  intro pins s σ H x y v u Q I rx ry h
  obtain ⟨d, xs, hd, he, p1, p2, hdp, q⟩ := h
  obtain ⟨as, r1⟩ := Dp.reads I d x v hd rx
  rcases he with he | he
  · obtain ⟨bs, r2⟩ := Dp.reads I _ y u he ry
    exact SeqAt.in_list_data r2 r1 p2 p1 (by omega) ⟨.bl _, H, I, rfl, q⟩
  · obtain ⟨bs, r2⟩ := Dp.reads I _ y u he ry
    exact SeqAt.in_tuple_data r2 r1 p2 p1 (by omega) ⟨.bl _, H, I, rfl, q⟩
theorem opr_ninX (hu : X.A.units + 64 < cLine) : OpR X (compareOp .NotIn) (rInX true X.K) := by
  intro pins s σ H x y v u Q I rx ry h
  obtain ⟨d, xs, hd, he, p1, p2, hdp, q⟩ := h
  obtain ⟨as, r1⟩ := Dp.reads I d x v hd rx
  rcases he with he | he
  · obtain ⟨bs, r2⟩ := Dp.reads I _ y u he ry
    exact SeqAt.notIn_list_data r2 r1 p2 p1 (by omega) ⟨.bl _, H, I, rfl, q⟩
  · obtain ⟨bs, r2⟩ := Dp.reads I _ y u he ry
    exact SeqAt.notIn_tuple_data r2 r1 p2 p1 (by omega) ⟨.bl _, H, I, rfl, q⟩
end
theorem ints_plain : ∀ ns : List Int, PyData.plainAll (ns.map PyData.int) = true
  | [] => rfl
  | n :: ns => by simp only [List.map_cons, PyData.plainAll, PyData.plain, ints_plain ns, Bool.and_self]
mutual
theorem plain_py : ∀ d : Dt, plainD d = true → (toPy d).plain = true
  | .lst xs, h => by simp only [toPy, PyData.plain]; exact plain_pys xs (by simpa [plainD] using h)
  | .tup xs, h => by simp only [toPy, PyData.plain]; exact plain_pys xs (by simpa [plainD] using h)
  | .dct _, h => by simp [plainD] at h
  | .non, _ => by simp [toPy, PyData.plain]
  | .bl _, _ => by simp [toPy, PyData.plain]
  | .int _, _ => by simp [toPy, PyData.plain]
  | .str _, _ => by simp [toPy, PyData.plain]
  | .scr ns, _ => by simp only [toPy, PyData.plain]; exact ints_plain ns
  | .xo _ _ _, h => by simp [plainD] at h
theorem plain_pys : ∀ ds : List Dt, plainAll ds = true → PyData.plainAll (toPyAll ds) = true
  | [], _ => rfl
  | d :: ds, h => by
    simp only [DW.plainAll, Bool.and_eq_true] at h
    simp only [toPyAll, PyData.plainAll, plain_py d h.1, plain_pys ds h.2, Bool.and_self]
end
def inXB (d e : Dt) : Option Bool := match e with
  | .lst xs => if plainD d = true ∧ plainAll xs = true ∧ (toPy d).depth ≤ 50 then some (xs.any fun y => eqt y d) else none
  | .tup xs => if plainD d = true ∧ plainAll xs = true ∧ (toPy d).depth ≤ 50 then some (xs.any fun y => eqt y d) else none
  | _ => none
def inX (d e : Dt) : Option Dt := (inXB d e).map fun b => .bl b
def ninX (d e : Dt) : Option Dt := (inXB d e).map fun b => .bl (!b)
theorem any_py (d : Dt) (xs : List Dt) : (toPyAll xs).any (fun y => PyData.eqv y (toPy d)) = xs.any fun y => eqt y d := by
  rw [toPyAll_map, List.any_map]
  rfl
theorem inX_of {neg : Bool} {K : PySem.W.Frag} {H0 H : Hp} {x y : V} {d e : Dt} {b : Bool} {Q : VK} (s : Same H0 H) (hx : Pk K H0 H x d) (hy : Pk K H0 H y e) (hb : inXB d e = some b) (q : Q (.bl (if neg then !b else b)) H) : rInX neg K x y H Q := by
  unfold inXB at hb
  split at hb
  · split at hb
    · rename_i xs hm
      cases hb
      have h2 := (Pk.up s hy).dp (show plainD (.lst xs) = true by simpa [plainD] using hm.2.1)
      simp only [toPy] at h2
      exact ⟨_, _, (Pk.up s hx).dp hm.1, .inl h2, plain_py d hm.1, plain_pys xs hm.2.1, hm.2.2, by rw [any_py]; exact q⟩
    · cases hb
  · split at hb
    · rename_i xs hm
      cases hb
      have h2 := (Pk.up s hy).dp (show plainD (.tup xs) = true by simpa [plainD] using hm.2.1)
      simp only [toPy] at h2
      exact ⟨_, _, (Pk.up s hx).dp hm.1, .inr h2, plain_py d hm.1, plain_pys xs hm.2.1, hm.2.2, by rw [any_py]; exact q⟩
    · cases hb
  · cases hb
theorem opd_inX (K : PySem.W.Frag) : OpD K (rInX false K) inX := by
  intro x y d e z H0 H s hx hy hg Q k
  obtain ⟨b, hb, rfl⟩ := Option.map_eq_some_iff.mp hg
  exact inX_of s hx hy hb (sc s (.bl _) k)
theorem opd_ninX (K : PySem.W.Frag) : OpD K (rInX true K) ninX := by
  intro x y d e z H0 H s hx hy hg Q k
  obtain ⟨b, hb, rfl⟩ := Option.map_eq_some_iff.mp hg
  exact inX_of s hx hy hb (sc s (.bl _) k)
/-! ### == () -/
def rEqE (K : PySem.W.Frag) : R2 := fun x y H Q => ∃ l xs m, x = .ref l ∧ SqT K H l xs ∧ y = .ref m ∧ SqT K H m [] ∧ Q (.bl xs.isEmpty) H
section
variable {X : Cx}
theorem op_eqE (hu : X.A.units + 1 < cLine) : OpR X (compareOp .Eq) (rEqE X.K) := by
  intro pins s σ H x y v u Q I rx ry h
  obtain ⟨l, xs, m, rfl, h1, rfl, h2, q⟩ := h
  cases rx
  cases ry
  obtain ⟨its, rv, p1, _⟩ := I.tuple h1
  obtain ⟨its2, rv2, p2, _⟩ := I.tuple h2
  cases rv2
  refine SeqAt.eq_tupleAt (e := fun _ => true) p1 p2 (by omega) (fun j _ h2 => absurd h2 (Nat.not_lt_zero _)) ⟨.bl _, H, I, rfl, ?_⟩
  have e : ((List.range (min its.toArray.size ([] : List Value).toArray.size)).all (fun _ => true) && its.toArray.size == ([] : List Value).toArray.size) = xs.isEmpty := by
    cases rv with
    | nil => rfl
    | cons _ _ => simp
  rw [e]
  exact q
end
def eqY (d e : Dt) : Option Dt := match d, e with
  | .tup xs, .tup [] => some (.bl xs.isEmpty)
  | d, e => eqD d e
def rEqY (K : PySem.W.Frag) : R2 := fun x y H Q => rEqE K x y H Q ∨ rEqA K x y H Q
theorem opr_eqY {X : Cx} (hu : X.A.units + 64 < cLine) : OpR X (compareOp .Eq) (rEqY X.K) := opr_or (op_eqE (by omega)) (opr_eq hu)
theorem opd_eqY (K : PySem.W.Frag) : OpD K (rEqY K) eqY := by
  intro x y d e z H0 H s hx hy hg Q k
  unfold eqY at hg
  split at hg
  · rename_i ds
    cases hg
    cases hx with
    | @tup _ vs _ h1 h2 =>
      cases hy with
      | tup h3 h4 =>
        cases h4
        refine .inl ⟨_, _, _, rfl, seqT_mono s h1, rfl, seqT_mono s h3, ?_⟩
        have e : vs.isEmpty = ds.isEmpty := by
          cases h2 <;> rfl
        rw [e]
        exact sc s (.bl _) k
  · exact .inr (opd_eq K _ _ _ _ _ _ _ s hx hy hg _ k)
/-! ### sum of a tuple -/
def rSumT (K : PySem.W.Frag) : List V → Hp → VK → Prop := fun vs H Q => ∃ (a : Addr) (ns : List Int), vs = [V.ref a] ∧ SqT K H a (ns.map V.int) ∧ Q (.int ns.sum) H
theorem cr_sumT {X : Cx} (hc : X.calm = true) : CallR X (.builtin "sum") (rSumT X.K) := by
  intro pins s σ H vs us Q I r h
  obtain ⟨a, ns, rfl, hs, q⟩ := h
  obtain ⟨its, rv, hl, _⟩ := I.tuple hs
  rw [Vals.ref1 r]
  have hi := rv.ints
  obtain ⟨xs, hx⟩ := hi.allInts.items
  have hn : numsOf its.toArray.toList = ns := by rw [show its.toArray.toList = its from rfl, hi.numsOf]
  rw [hx] at hl hn
  rw [nums_intItems] at hn
  refine PySem.W.ktm_sumG (I.ok.hd hc) hl fun h' tk t' hk => ?_
  refine ⟨.int ns.sum, H, I.kept hk, ⟨t', ?_⟩, q⟩
  rw [preSum_eq, List.take_of_length_le (by simp), hn]
def sumX : Dt → Option Dt
  | .tup ds => (intsOf ds).map fun ns => .int ns.sum
  | _ => none
theorem und_sumX (K : PySem.W.Frag) : UnD K (fun x H Q => rSumT K [x] H Q) sumX := by
  intro x d z H0 H s hx hg Q k
  unfold sumX at hg
  split at hg
  · obtain ⟨ns, h, rfl⟩ := Option.map_eq_some_iff.mp hg
    cases hx with
    | tup h1 h2 =>
      rw [intsOf_eq h] at h2
      rw [h2.ints] at h1
      exact ⟨_, ns, rfl, seqT_mono s h1, sc s (.int _) k⟩
  · cases hg
theorem de_sumX {X : Cx} {W : WX} {e : Expr} {pos p : Pos} {f1 : Rho → R Dt} (hc : X.calm = true) (hg : Gl X "sum") (hm : X.mg "sum" = none) (ha : DK X W e f1) (he : starEach (e :: []) X.env = (false, eval e X.env) :: starEach [] X.env := by rfl) : DE X W (.Call (.Name "sum" p) [e] [] pos) (un sumX f1) :=
  de_b1 (cr_sumT hc) (und_sumX _) hg hm (by decide +kernel) ha (he := he)
end DW

set_option Elab.async false
set_option linter.all false
set_option maxRecDepth 100000
set_option maxHeartbeats 4000000
/-! DWY: for a, b in zip(xs, ys): two tuples, or two lists, of one size -/
namespace DW
open PySem PySem.Spec PyProof.Rows L2 RZ
def pr2 (a b : Dt) : Dt := .tup [a, b]
def zipD : List Dt → Option (List Dt)
  | [.tup xs, .tup ys] => if xs.length = ys.length then some (List.zipWith pr2 xs ys) else none
  | [.lst xs, .lst ys] => if xs.length = ys.length then some (List.zipWith pr2 xs ys) else none
  | _ => none
section
variable {K : PySem.W.Frag} {a b : Addr} {xs ys : List V}
theorem walk_zipT {n : Nat} (hn : n = min xs.length ys.length) : Walk (ItzT K a b) n (fun H => SqT K H a xs ∧ SqT K H b ys) (YPair (fun i => xs[i]?) (fun i => ys[i]?)) := by
  subst hn
  refine ⟨fun i _ hi q => ?_, fun _ q => ⟨xs, ys, q.1, q.2, by omega⟩, fun i H v H' _ q y => ?_⟩
  · have h1 : i < xs.length := by omega
    have h2 : i < ys.length := by omega
    exact ⟨xs, ys, xs[i], ys[i], q.1, q.2, by simp [h1], by simp [h2]⟩
  · obtain ⟨T, x, z, h1, h2, h3, h4, h5⟩ := y
    exact ⟨T, x, z, h1, h2, h3, h4 xs q.1, h5 ys q.2⟩
theorem pair_item {H0 H H' : Hp} {ds es : List Dt} {i : Nat} {x : V} (hx : DaAll K H0 xs ds) (hy : DaAll K H0 ys es) (y : YPair (fun i => xs[i]?) (fun i => ys[i]?) i H x H') : ∃ d, (List.zipWith pr2 ds es)[i]? = some d ∧
    ((H' = H ∧ Da K H0 x d) ∨ ∃ T vs fs, x = .ref T ∧ H T = none ∧ H' = upd H T (.tup vs) ∧ DaAll K H0 vs fs ∧ d = .tup fs) := by
  obtain ⟨T, u, v, h1, h2, h3, h4, h5⟩ := y
  obtain ⟨d, e1, f1⟩ := hx.getV h4
  obtain ⟨e, e2, f2⟩ := hy.getV h5
  refine ⟨.tup [d, e], ?_, .inr ⟨T, [u, v], [d, e], h1, h2, h3, .cons f1 (.cons f2 .nil), rfl⟩⟩
  rw [List.getElem?_zipWith, e1, e2]
  rfl
end
section
variable {g : Gx} {F : Fm} {W : WX} {σ : L2.St} {H : Hp}
theorem iZip_of {f : Rho → R (List Dt)} {Rk : It → Hp → Prop} (h : tI g F W (rngF zipD f) σ H Rk) : iZipA g.K (tDA g F W f) σ H Rk := by
  obtain ⟨H0, ρ, E, q⟩ := h
  refine ⟨H0, ρ, E, ?_⟩
  unfold rngF at q
  cases e : f ρ with
  | ok ds ρ1 =>
    rw [e] at q
    dsimp only [R.bind] at q
    intro vs H0' H' E' m hd
    cases e2 : zipD ds with
    | none => rw [e2] at q; exact q.elim
    | some zs =>
      rw [e2] at q
      unfold zipD at e2
      split at e2
      · split at e2
        · rename_i xs ys hl
          cases e2
          cases hd with
          | cons h1 h2 =>
            cases h2 with
            | cons h2 h3 =>
              cases h3
              cases h1 with
              | tup s1 d1 =>
                cases h2 with
                | tup s2 d2 =>
                  refine ⟨_, _, _, _, rfl, .inr ⟨seqT_mono E'.ex s1, seqT_mono E'.ex s2, q _ H0' H' E' m ?_⟩⟩
                  refine ⟨_, _, walk_zipT (n := (List.zipWith pr2 xs ys).length) (by rw [List.length_zipWith, d1.length, d2.length]), fun H s => ⟨seqT_mono s s1, seqT_mono s s2⟩, fun i H x H' _ _ y => pair_item d1 d2 y⟩
        · cases e2
      · split at e2
        · rename_i xs ys hl
          cases e2
          cases hd with
          | cons h1 h2 =>
            cases h2 with
            | cons h2 h3 =>
              cases h3
              cases h1 with
              | lst s1 d1 =>
                cases h2 with
                | lst s2 d2 =>
                  have t1 : ∀ H, Same H0' H → _ := fun H s => SqL.of (K := g.K) (s _ _ s1)
                  have t2 : ∀ H, Same H0' H → _ := fun H s => SqL.of (K := g.K) (s _ _ s2)
                  refine ⟨_, _, _, _, rfl, .inl ⟨t1 _ E'.ex, t2 _ E'.ex, q _ H0' H' E' m ?_⟩⟩
                  refine ⟨_, _, walk_zip (n := (List.zipWith pr2 xs ys).length) (by rw [List.length_zipWith, d1.length, d2.length]), fun H s => ⟨t1 H s, t2 H s⟩, fun i H x H' _ _ y => pair_item d1 d2 y⟩
        · cases e2
      · cases e2
  | ex x ρ1 =>
    rw [e] at q
    exact q
  | bad =>
    rw [e] at q
    exact q
end
section
variable {X : Cx} {W : WX} {a b : Expr} {pos p tpos : Pos} {fa : Rho → R (List Dt)} {elts : List Expr} {kk : Nat}
theorem di_zip (hg : Gl X "zip") (hm : X.mg "zip" = none) (h : DA X W [a, b] fa) (hs : starEach [a, b] X.env = (false, eval a X.env) :: starEach [b] X.env := by rfl) (hpl : (backTo pos (starEach [b] X.env)).any (·.1) = false := by rfl) :
    DI X W (.Tuple elts kk tpos) (.Call (.Name "zip" p) [a, b] [] pos) (rngF zipD fa) := fun F => PI.wk (pi_zipA hg hm (h F) hs hpl) fun _ _ _ q => iZip_of q
end
end DW

set_option Elab.async false
set_option linter.all false
set_option maxRecDepth 100000
set_option maxHeartbeats 4000000
/-! DWY2: for a, b in zip(a list, a tuple) of one size -/
namespace DW
open PySem PySem.Spec PyProof.Rows L2 RZ
def ItzM (K : PySem.W.Frag) (a b : Addr) : It :=
  ⟨fun i H => ∃ (xs ys : List V) (x y : V), SqL K H a xs ∧ SqT K H b ys ∧ xs[i]? = some x ∧ ys[i]? = some y,
    fun i H v H' => ∃ T x y, v = .ref T ∧ H T = none ∧ H' = upd H T (.tup [x, y]) ∧ (∀ xs, SqL K H a xs → xs[i]? = some x) ∧ ∀ ys, SqT K H b ys → ys[i]? = some y,
    fun i H => ∃ xs ys : List V, SqL K H a xs ∧ SqT K H b ys ∧ xs.length = i ∧ ys.length = i⟩
theorem turn_zipM {P : Program} {w : World} {K : PySem.W.Frag} {elts : List Expr} {kk : Nat} {tpos : Pos} {a b z TI TO i1 i2 : Addr} (D : ZipSep2 z TI TO i1 i2 [i1, a] [i2, b]) (ha : a ≠ i1) (hb : b ≠ i2) :
    Turn P w K (.Tuple elts kk tpos) (ItzM K a b) [z, TI, TO, i1, i2] z (fun i h => IsZip h z TI TO .none ∧ IsTupOf2 h TI (.ref i1) (.ref i2) ∧ (∃ x y, IsTupOf2 h TO x y) ∧ h.IsListIter i1 a i ∧ h.IsTupleIter i2 b i) where
  mem := by simp
  obj := fun i h st c hc => by
    obtain ⟨hz, hTI, ⟨x, y, hTO⟩, ⟨o1, e1, _, d1⟩, ⟨o2, e2, _, d2⟩⟩ := st
    have e' : c = z ∨ c = TI ∨ c = TO ∨ c = i1 ∨ c = i2 := by simpa using hc
    rcases e' with q | q | q | q | q
    · rw [q]; exact ⟨_, hz, fun v q => nomatch q⟩
    · rw [q]; exact ⟨_, hTI, fun v q => nomatch q⟩
    · rw [q]; exact ⟨_, hTO, fun v q => nomatch q⟩
    · rw [q]; exact ⟨o1, e1, fun v q => by rw [d1] at q; cases q⟩
    · rw [q]; exact ⟨o2, e2, fun v q => by rw [d2] at q; cases q⟩
  keep := fun i h h' st k => by
    obtain ⟨hz, hTI, ⟨x, y, hTO⟩, h1, h2⟩ := st
    exact ⟨k z (by simp) _ hz, k TI (by simp) _ hTI, ⟨x, y, k TO (by simp) _ hTO⟩, h1.at fun o q => k i1 (by simp) o q, h2.at fun o q => k i2 (by simp) o q⟩
  item := by
    intro X hP hw hK hc i pins s σ H E I hf st hg
    subst hP hw hK
    obtain ⟨hz, hTI, ⟨x0, y0, hTO⟩, h1, h2⟩ := st
    obtain ⟨xs, ys, x, y, hqx, hqy, hx, hy⟩ := hg
    obtain ⟨its, rv, p, _⟩ := I.list hqx
    obtain ⟨its2, rv2, p2, _⟩ := I.tuple hqy
    obtain ⟨u, hu, ru⟩ := rv.get hx
    obtain ⟨u2, hu2, ru2⟩ := rv2.get hy
    have hzl : z < s.heap.objs.size := Heap.lt_size hz
    have hd : X.A.in1.handled = none := I.ok.hd hc
    have D1 := Draws.list (prog := X.prog) (w := X.w) hd i1 a ha its.toArray
    have D2 := Draws.tuple (prog := X.prog) (w := X.w) hd i2 b hb its2.toArray
    have l1 : i < its.toArray.size := by
      have := (List.getElem?_eq_some_iff.mp hu).1
      simpa using this
    have l2 : i < its2.toArray.size := by
      have := (List.getElem?_eq_some_iff.mp hu2).1
      simpa using this
    refine wpAny_pyNext_zipD2_item D D1 D2 hz hTI hTO ⟨h1, p.isList⟩ ⟨h2, p2⟩ l1 l2 fun x1 x2 h' tk y1 y2 z' TO' st1 st2 hT hsz hk => ?_
    have e1 : x1 = u := by
      have : its[i]? = some x1 := by simpa using y1
      rw [hu] at this
      exact (Option.some.inj this).symm
    have e2 : x2 = u2 := by
      have : its2[i]? = some x2 := by simpa using y2
      rw [hu2] at this
      exact (Option.some.inj this).symm
    subst e1 e2
    have h1' := st1.1
    have h2' := st2.1
    refine ⟨_, rfl, wpAny_letOwnedTupleGo_zip (s := { s with heap := h', toks := tk }) z' fun h'' z'' sb => ?_⟩
    have hT2 : h''.get? s.heap.objs.size = some { cls := .type "tuple", data := .seq #[x1, x2] } := (sb.2 _ (Nat.ne_of_gt hzl)).trans hT
    have new : ObjOk X.prog X.w (upd H s.heap.objs.size (.tup [x, y])) h'' s.heap.objs.size (.tup [x, y]) :=
      ⟨by show 2 ≤ sizeLine; decide, [x1, x2], .cons ru (.cons ru2 .nil), ⟨_, hT2, rfl, _, rfl⟩⟩
    have I1 : Inv X pins σ (upd H s.heap.objs.size (.tup [x, y])) { s with heap := h'', toks := tk } :=
      I.turnedNew (t' := tk) (ch := [z, TI, TO, i1, i2]) (fun c o hb q => (sb.2 c (fun q' => hb (by simp [q']))).trans (hk c o (fun q' => hb (by simp [q'])) (fun q' => hb (by simp [q'])) (fun q' => hb (by simp [q'])) (fun q' => hb (by simp [q'])) q)) hf (Nat.le_refl _) new
    refine ⟨.ref s.heap.objs.size, _, I1, rfl, ⟨_, x, y, rfl, I.hok.fresh (Nat.le_refl _), rfl, fun l hl => by rw [I.list_inj hl hqx]; exact hx, fun l hl => by rw [I.tuple_inj hl hqy]; exact hy⟩, ⟨z'', ?_, ⟨x1, x2, ?_⟩, ?_, ?_⟩, fun c hcm => ?_⟩
    · exact (sb.2 _ D.TIz).trans (hk _ _ D.TIz D.TITO D.TIi1 D.TIi2 hTI)
    · exact (sb.2 _ D.TOz).trans TO'
    · exact h1'.at fun o q => (sb.2 _ (Ne.symm D.zi1)).trans q
    · exact h2'.at fun o q => (sb.2 _ (Ne.symm D.zi2)).trans q
    · have hlt : c < s.heap.objs.size := by
        have e' : c = z ∨ c = TI ∨ c = TO ∨ c = i1 ∨ c = i2 := by simpa using hcm
        rcases e' with q | q | q | q | q
        · rw [q]; exact hzl
        · rw [q]; exact Heap.lt_size hTI
        · rw [q]; exact Heap.lt_size hTO
        · rw [q]; obtain ⟨_, e1, _⟩ := h1; exact Heap.lt_size e1
        · rw [q]; obtain ⟨_, e2, _⟩ := h2; exact Heap.lt_size e2
      rw [upd_ne (Nat.ne_of_lt hlt)]
      exact (hf c hcm).1
  done := by
    intro X hP hw hK hc i pins s σ H E I hf st hg
    subst hP hw hK
    obtain ⟨hz, hTI, ⟨x0, y0, hTO⟩, h1, h2⟩ := st
    obtain ⟨xs, ys, hqx, hqy, hl1, hl2⟩ := hg
    obtain ⟨its, rv, p, _⟩ := I.list hqx
    obtain ⟨its2, rv2, p2, _⟩ := I.tuple hqy
    have l1 := rv.length
    have l2 := rv2.length
    have hd : X.A.in1.handled = none := I.ok.hd hc
    have D1 := Draws.list (prog := X.prog) (w := X.w) hd i1 a ha its.toArray
    have D2 := Draws.tuple (prog := X.prog) (w := X.w) hd i2 b hb its2.toArray
    have e1 : i = its.toArray.size := by simp; omega
    have e2 : i = its2.toArray.size := by simp; omega
    exact wpAny_pyNext_zipD2_end D D1 D2 hz hTI hTO ⟨h1, p.isList⟩ ⟨h2, p2⟩ (Nat.le_of_eq e1) (Nat.le_of_eq e2) (.inl e1) fun h' tk hk => ⟨rfl, I.turnedL (t' := tk) (ch := [z, TI, TO, i1, i2]) (fun c o hb q =>
      hk c o (fun q' => hb (by simp [q'])) (fun q' => hb (by simp [q'])) (fun q' => hb (by simp [q'])) (fun q' => hb (by simp [q'])) q) hf⟩
  self := fun A i s Q E st h => wpAny_pyIter_zip st.1 h
def iZipM (K : PySem.W.Frag) (ta : TA) : TI := fun σ H R => ta σ H fun vs H1 => ∃ a b xs ys, vs = [.ref a, .ref b] ∧ SqL K H1 a xs ∧ SqT K H1 b ys ∧ R (ItzM K a b) H1
theorem pi_zipM {X : Cx} {e e2 : Expr} {ta : TA} {p pos tpos : Pos} {elts : List Expr} {kk : Nat} (hg : Gl X "zip") (hm : X.mg "zip" = none) (ha : PA X [e, e2] ta)
    (hs : starEach [e, e2] X.env = (false, eval e X.env) :: starEach [e2] X.env := by rfl) (hpl : (backTo pos (starEach [e2] X.env)).any (·.1) = false := by rfl) :
    PI X (.Tuple elts kk tpos) (.Call (.Name "zip" p) [e, e2] [] pos) (iZipM X.K ta) := by
  refine ⟨fun pins s σ H R I h => ?_⟩
  refine Call_ (ld_blt I hg hm PyProof.Rows.boot_zip (PyProof.Rows.callWith_type1 (thn (ha.run pos pins s σ H _ I h) fun us s1 ⟨vs, H1, I1, r1, q1⟩ => ?_) hs hpl))
  obtain ⟨a, b, xs, ys, rfl, hqx, hqy, q⟩ := q1
  cases r1 with
  | cons r rr =>
    cases rr with
    | cons r' rr =>
      cases rr
      cases r
      cases r'
      have fresh5 : ∀ c, c ∈ [s1.heap.objs.size + 4, s1.heap.objs.size + 2, s1.heap.objs.size + 3, s1.heap.objs.size, s1.heap.objs.size + 1] → FpOk X pins H1 c := fun c hcm => by
        have hle : s1.heap.objs.size ≤ c := by
          simp only [List.mem_cons, List.not_mem_nil, or_false] at hcm
          rcases hcm with z | z | z | z | z <;> (rw [z]; first | exact Nat.le_refl _ | exact Nat.le_add_right _ _)
        exact I1.fpOk hle (I1.hok.fresh hle)
      obtain ⟨its, rv, p1, _⟩ := I1.list hqx
      obtain ⟨its2, rv2, p2, _⟩ := I1.tuple hqy
      have la : a < s1.heap.objs.size := p1.lt
      have lb : b < s1.heap.objs.size := by
        obtain ⟨o2, ho2, _⟩ := id p2
        exact Heap.lt_size ho2
      refine zip_begins2 (begins_list a its.toArray) (begins_tuple b its2.toArray) p1.isList p2 fun h' hz hTI hTO h1 h2 hsz hk => wpAny_pyIter_zip hz ?_
      have I2 : Inv X pins σ H1 { s1 with heap := h' } := I1.kept (t' := s1.toks) hk
      exact ⟨s1.heap.objs.size + 4, [s1.heap.objs.size + 4, s1.heap.objs.size + 2, s1.heap.objs.size + 3, s1.heap.objs.size, s1.heap.objs.size + 1], _, _, H1, rfl, I2, turn_zipM (zip_sep2 (fp1 := [a]) (fp2 := [b]) (fun c hc => by rw [List.mem_singleton.mp hc]; exact la) (fun c hc => by rw [List.mem_singleton.mp hc]; exact lb)) (Nat.ne_of_lt la) (Nat.ne_of_lt (Nat.lt_succ_of_lt lb)), ⟨hz, hTI, ⟨_, _, hTO⟩, ⟨_, h1, rfl, rfl⟩, ⟨_, h2, rfl, rfl⟩⟩, fresh5, q⟩
/-! ### data -/
def zipX : List Dt → Option (List Dt)
  | [.lst xs, .tup ys] => if xs.length = ys.length then some (List.zipWith pr2 xs ys) else none
  | ds => zipD ds
theorem walk_zipM {K : PySem.W.Frag} {a b : Addr} {xs ys : List V} {n : Nat} (h1 : xs.length = n) (h2 : ys.length = n) : Walk (ItzM K a b) n (fun H => SqL K H a xs ∧ SqT K H b ys) (YPair (fun i => xs[i]?) (fun i => ys[i]?)) := by
  refine ⟨fun i _ hi q => ?_, fun _ q => ⟨xs, ys, q.1, q.2, h1, h2⟩, fun i H v H' _ q y => ?_⟩
  · have h1 : i < xs.length := by omega
    have h2 : i < ys.length := by omega
    exact ⟨xs, ys, xs[i], ys[i], q.1, q.2, by simp [h1], by simp [h2]⟩
  · obtain ⟨T, x, z, h1, h2, h3, h4, h5⟩ := y
    exact ⟨T, x, z, h1, h2, h3, h4 xs q.1, h5 ys q.2⟩
section
variable {g : Gx} {F : Fm} {W : WX} {σ : L2.St} {H : Hp}
theorem iZipX_of {f : Rho → R (List Dt)} {Rk : It → Hp → Prop} (h : tI g F W (rngF zipX f) σ H Rk) : iZipA g.K (tDA g F W f) σ H Rk ∨ iZipM g.K (tDA g F W f) σ H Rk := by
  obtain ⟨H0, ρ, E, q⟩ := h
  unfold rngF at q
  cases e : f ρ with
  | ok ds ρ1 =>
    rw [e] at q
    dsimp only [R.bind] at q
    by_cases hs : ∃ xs ys, ds = [.lst xs, .tup ys]
    · obtain ⟨xs, ys, rfl⟩ := hs
      refine .inr ⟨H0, ρ, E, ?_⟩
      rw [e]
      intro vs H0' H' E' m hd
      by_cases hl : xs.length = ys.length
      rotate_left
      · rw [show zipX [.lst xs, .tup ys] = none from if_neg hl] at q
        exact q.elim
      rw [show zipX [.lst xs, .tup ys] = some (List.zipWith pr2 xs ys) from if_pos hl] at q
      cases hd with
      | cons h1 h2 =>
        cases h2 with
        | cons h2 h3 =>
          cases h3
          cases h1 with
          | lst s1 d1 =>
            cases h2 with
            | tup s2 d2 =>
              have t1 : ∀ H, Same H0' H → _ := fun H s => SqL.of (K := g.K) (s _ _ s1)
              refine ⟨_, _, _, _, rfl, t1 _ E'.ex, seqT_mono E'.ex s2, q _ H0' H' E' m ?_⟩
              refine ⟨_, _, walk_zipM (n := (List.zipWith pr2 xs ys).length) (by rw [List.length_zipWith, d1.length]; omega) (by rw [List.length_zipWith, d2.length]; omega), fun H s => ⟨t1 H s, seqT_mono s s2⟩, fun i H x H' _ _ y => pair_item d1 d2 y⟩
    · have hz : zipX ds = zipD ds := by
        unfold zipX
        split
        · exact absurd ⟨_, _, rfl⟩ hs
        · rfl
      rw [hz] at q
      refine .inl (iZip_of ⟨H0, ρ, E, ?_⟩)
      unfold rngF
      rw [e]
      exact q
  | ex x ρ1 =>
    rw [e] at q
    refine .inl (iZip_of ⟨H0, ρ, E, ?_⟩)
    unfold rngF
    rw [e]
    exact q
  | bad =>
    rw [e] at q
    exact q.elim
end
section
variable {X : Cx} {W : WX} {a b : Expr} {pos p tpos : Pos} {fa : Rho → R (List Dt)} {elts : List Expr} {kk : Nat}
theorem di_zipX (hg : Gl X "zip") (hm : X.mg "zip" = none) (h : DA X W [a, b] fa) (hs : starEach [a, b] X.env = (false, eval a X.env) :: starEach [b] X.env := by rfl) (hpl : (backTo pos (starEach [b] X.env)).any (·.1) = false := by rfl) :
    DI X W (.Tuple elts kk tpos) (.Call (.Name "zip" p) [a, b] [] pos) (rngF zipX fa) := fun F => PI.wk (PI.or (pi_zipA hg hm (h F) hs hpl) (pi_zipM hg hm (h F) hs hpl)) fun _ _ _ q => iZipX_of q
end
end DW

set_option Elab.async false
set_option linter.all false
set_option maxRecDepth 100000
set_option maxHeartbeats 4000000
/-! DWY3: for i, x in enumerate(a tuple, or a list) -/
namespace DW
open PySem PySem.Spec PyProof.Rows L2 RZ
theorem meets_enum1 {v : Value} {o : Obj} {H : Heap → Prop} (B : Begins v o H) (nt : ∀ b, v ≠ .bool b) :
    Meets (Builtin.«enumerate.__new__» ⟨[.type "enumerate", v], []⟩) (fun _ R s => H s.heap ∧
      R (.ok (.ret (.ref (s.heap.push o).objs.size))) { s with heap := (s.heap.push o).push { cls := .type "enumerate", data := .fields #[.none, .bool false, .ref s.heap.objs.size, rawInt 0, .none, .none] } }) :=
  .of_wp fun prog w A R s h => by
    obtain ⟨hp, g, d, tk, os⟩ := s; obtain ⟨h1, h⟩ := h
    have hsub := sub_enumerate
    have q1 : ∀ {A' : Around} {E : Value → Shared → Prop} {Q : Value → Shared → Prop}, Q (.ref hp.objs.size) ⟨hp.push o, g, d, tk, os⟩ → wpAny (model prog w) A' (pyIter v) Q E ⟨hp, g, d, tk, os⟩ :=
      fun q => B.iter prog w _ _ ⟨hp, g, d, tk, os⟩ _ h1 q
    wp_walk using q1
    refine wpAny_stack_any fun st => wpAny_pure ?_
    split
    · rename_i c _ _ _ _ _
      cases (c == Value.type "enumerate")
      · wp_walk using q1
        exact ⟨_, rfl, h⟩
      · wp_walk using q1
        exact ⟨_, rfl, h⟩
    · wp_walk using q1
      exact ⟨_, rfl, h⟩
theorem call_enum1 {prog : Program} {w : World} {A : Around} {E : Value → Shared → Prop} {s : Shared} {v : Value} {o : Obj} {H : Heap → Prop} {Q : Value → Shared → Prop} (B : Begins v o H) (nt : ∀ b, v ≠ .bool b) (h1 : H s.heap)
    (h : ∀ h', IsEnum h' (s.heap.objs.size + 1) s.heap.objs.size 0 .none → h'.get? s.heap.objs.size = some o → h'.objs.size = s.heap.objs.size + 2 →
      (∀ b o, s.heap.get? b = some o → h'.get? b = some o) → Q (.ref (s.heap.objs.size + 1)) { s with heap := h' }) :
    wpAny (model prog w) A (call (.type "enumerate") [v]) Q E s := by
  refine callType_new F.called_enumerate (by decide) (F.typeCall_enumerate_1 _) (F.newCall_enumerate_1 _) (fun obj => F.args_object_init_2 obj _) F.entry_enumerate_new
    (meets_enum1 B nt) ⟨h1, ?_⟩
  have hz : (s.heap.push o).objs.size = s.heap.objs.size + 1 := Heap.size_push ..
  show _ ∧ _
  rw [hz]
  have he : IsEnum ((s.heap.push o).push { cls := .type "enumerate", data := .fields #[.none, .bool false, .ref s.heap.objs.size, rawInt 0, .none, .none] }) (s.heap.objs.size + 1) s.heap.objs.size 0 .none := by
    have := Heap.get?_push_size (s.heap.push o) (o := { cls := .type "enumerate", data := .fields #[.none, .bool false, .ref s.heap.objs.size, rawInt 0, .none, .none] }) rfl
    rw [hz] at this; exact this
  refine ⟨⟨_, he, rfl⟩, h _ he (Heap.get?_push_of_some _ (Heap.get?_push_size _ B.free)) (by rw [Heap.size_push, hz]) fun b o x => Heap.get?_push_of_some _ (Heap.get?_push_of_some _ x)⟩
/-- the tuple at a, each item in a new pair -/
def IteT (K : PySem.W.Frag) (a : Addr) : It :=
  ⟨fun i H => ∃ (xs : List V) (x : V), SqT K H a xs ∧ xs[i]? = some x, fun i H v H' => ∃ T x, v = .ref T ∧ H T = none ∧ H' = upd H T (.tup [.int (i : Nat), x]) ∧ ∀ xs, SqT K H a xs → xs[i]? = some x, fun i H => ∃ xs : List V, SqT K H a xs ∧ xs.length = i⟩
theorem turn_enumT {P : Program} {w : World} {K : PySem.W.Frag} {elts : List Expr} {kk : Nat} {tpos : Pos} (a e it : Addr) (ha : a ≠ it) (hea : e ≠ a) (hne : e ≠ it) :
    Turn P w K (.Tuple elts kk tpos) (IteT K a) [e, it] e (fun i h => (∃ old, IsEnum h e it ((i : Nat) : Int) old) ∧ h.IsTupleIter it a i) where
  mem := by simp
  obj := fun i h st b hb => by
    obtain ⟨⟨old, he⟩, ⟨o, ho, hc, hd⟩⟩ := st
    have e' : b = e ∨ b = it := by simpa using hb
    rcases e' with z | z
    · rw [z]; exact ⟨_, he, fun v q => nomatch q⟩
    · rw [z]; exact ⟨o, ho, fun v q => by rw [hd] at q; cases q⟩
  keep := fun i h h' st k => let ⟨⟨old, he⟩, hi⟩ := st; ⟨⟨old, k e (by simp) _ he⟩, hi.at fun o q => k it (by simp) o q⟩
  item := by
    intro X hP hw hK hc i pins s σ H E I hf st hg
    subst hP hw hK
    obtain ⟨⟨old, he⟩, hit⟩ := st
    obtain ⟨xs, x, hq, hx⟩ := hg
    obtain ⟨its, rv, p, hz⟩ := I.tuple hq
    obtain ⟨u, hu, ru⟩ := rv.get hx
    have hel : e < s.heap.objs.size := Heap.lt_size he
    have hil : it < s.heap.objs.size := by obtain ⟨_, q, _⟩ := hit; exact Heap.lt_size q
    have hd : X.A.in1.handled = none := I.ok.hd hc
    have D1 := Draws.tuple (prog := X.prog) (w := X.w) hd it a ha its.toArray
    have l1 : i < its.toArray.size := by
      have := (List.getElem?_eq_some_iff.mp hu).1
      simpa using this
    refine wpAny_pyNext_enum_itemC D1 he ⟨hit, p⟩ l1 hne (by simp only [List.mem_cons, List.not_mem_nil, or_false, not_or]; exact ⟨hne, hea⟩) fun x1 h' tk y1 ho st1 hT hsz hk => ?_
    have e1 : x1 = u := by
      have : its[i]? = some x1 := by simpa using y1
      rw [hu] at this
      exact (Option.some.inj this).symm
    subst e1
    have hit' := st1.1
    refine ⟨_, rfl, wpAny_letOwnedTupleGo_enum (s := { s with heap := h', toks := tk + 1 }) ho fun h'' he' sb => ?_⟩
    have hT2 : h''.get? s.heap.objs.size = some { cls := .type "tuple", data := .seq #[.int i tk, x1] } := (sb.2 _ (Nat.ne_of_gt hel)).trans hT
    have new : ObjOk X.prog X.w (upd H s.heap.objs.size (.tup [.int (i : Nat), x])) h'' s.heap.objs.size (.tup [.int (i : Nat), x]) :=
      ⟨by show 2 ≤ sizeLine; decide, [.int i tk, x1], .cons ⟨_, rfl⟩ (.cons ru .nil), ⟨_, hT2, rfl, _, rfl⟩⟩
    have I1 : Inv X pins σ (upd H s.heap.objs.size (.tup [.int (i : Nat), x])) { s with heap := h'', toks := tk + 1 } :=
      I.turnedNew (t' := tk + 1) (ch := [e, it]) (fun b ob hb q => (sb.2 b (fun z => hb (by simp [z]))).trans (hk b ob (fun z => hb (by simp [z])) (fun z => hb (by simp [z])) q)) hf (Nat.le_refl _) new
    refine ⟨.ref s.heap.objs.size, _, I1, rfl, ⟨_, x, rfl, I.hok.fresh (Nat.le_refl _), rfl, fun ys hy => by rw [I.tuple_inj hy hq]; exact hx⟩, ⟨⟨x1, ?_⟩, hit'.at fun o q => (sb.2 it (Ne.symm hne)).trans q⟩, fun b hb => ?_⟩
    · have e1 : ((i + 1 : Nat) : Int) = (i : Int) + 1 := by omega
      rw [e1]; exact he'
    · have hb' : b < s.heap.objs.size := by
        have e' : b = e ∨ b = it := by simpa using hb
        rcases e' with z | z
        · rw [z]; exact hel
        · rw [z]; exact hil
      rw [upd_ne (Nat.ne_of_lt hb')]
      exact (hf b hb).1
  done := by
    intro X hP hw hK hc i pins s σ H E I hf st hg
    subst hP hw hK
    obtain ⟨⟨old, he⟩, hit⟩ := st
    obtain ⟨xs, hq, hx⟩ := hg
    obtain ⟨its, rv, p, hz⟩ := I.tuple hq
    obtain ⟨f0, f1, f2, f3, f4, f5⟩ := hf it (by simp)
    have hl := rv.length
    have hd : X.A.in1.handled = none := I.ok.hd hc
    have D1 := Draws.tuple (prog := X.prog) (w := X.w) hd it a ha its.toArray
    have e1 : i = its.toArray.size := by simp; omega
    subst e1
    exact wpAny_pyNext_enum_endD D1 he ⟨hit, p⟩ fun h' hx => ⟨rfl, I.turned (t' := s.toks) (fun b o hb q => hx b o hb q) f0 f1 f3 f4 f5⟩
  self := fun A i s Q E st h => let ⟨⟨_, he⟩, _⟩ := st; wpAny_pyIter_enum he h
def iEnumT (K : PySem.W.Frag) (ta : TA) : TI := fun σ H R => ta σ H fun vs H1 => ∃ a xs, vs = [.ref a] ∧ SqT K H1 a xs ∧ R (IteT K a) H1
theorem pi_enumT {X : Cx} {e : Expr} {ta : TA} {p pos tpos : Pos} {elts : List Expr} {kk : Nat} (hg : Gl X "enumerate") (hm : X.mg "enumerate" = none) (ha : PA X [e] ta) (hs : starEach [e] X.env = [(false, eval e X.env)] := by rfl) :
    PI X (.Tuple elts kk tpos) (.Call (.Name "enumerate" p) [e] [] pos) (iEnumT X.K ta) := by
  refine ⟨fun pins s σ H R I h => ?_⟩
  refine Call_ (ld_blt I hg hm boot_enumerate (PyProof.Rows.callWith_type1 (thn (ha.run pos pins s σ H _ I h) fun us s1 ⟨vs, H1, I1, r1, q1⟩ => ?_) hs rfl))
  obtain ⟨a, xs, rfl, hq, q⟩ := q1
  cases r1 with
  | cons r rr =>
    cases rr
    cases r
    obtain ⟨its, rv, p', hz⟩ := I1.tuple hq
    have la : a < s1.heap.objs.size := by
      obtain ⟨o2, ho2, _⟩ := id p'
      exact Heap.lt_size ho2
    refine call_enum1 (begins_tuple a its.toArray) (fun b z => nomatch z) p' fun h' he hit hsz hk => wpAny_pyIter_enum he ?_
    have I2 : Inv X pins σ H1 { s1 with heap := h' } := I1.kept (t' := s1.toks) hk
    refine ⟨s1.heap.objs.size + 1, [s1.heap.objs.size + 1, s1.heap.objs.size], _, _, H1, rfl, I2, turn_enumT a (s1.heap.objs.size + 1) s1.heap.objs.size (Nat.ne_of_lt la) (Nat.ne_of_gt (Nat.lt_succ_of_lt la)) (Nat.succ_ne_self _), ⟨⟨.none, he⟩, ⟨_, hit, rfl, rfl⟩⟩, fun b hb => ?_, q⟩
    have e' : b = s1.heap.objs.size + 1 ∨ b = s1.heap.objs.size := by simpa using hb
    have hle : s1.heap.objs.size ≤ b := by
      rcases e' with z | z
      · rw [z]; exact Nat.le_add_right _ _
      · rw [z]; exact Nat.le_refl _
    exact I1.fpOk hle (I1.hok.fresh hle)
/-! ### data -/
def numD (ds : List Dt) : List Dt := ds.mapIdx fun i d => .tup [.int (i : Nat), d]
def enumD : List Dt → Option (List Dt)
  | [.tup xs] => some (numD xs)
  | [.lst xs] => some (numD xs)
  | _ => none
section
variable {K : PySem.W.Frag} {a b : Addr} {xs ys : List V}
theorem walk_enumT {n : Nat} (hn : xs.length = n) : Walk (IteT K a) n (fun H => SqT K H a xs) (YPair (fun i => some (.int (i : Nat))) (fun i => xs[i]?)) := by
  refine ⟨fun i _ hi q => ?_, fun _ q => ⟨xs, q, hn⟩, fun i H v H' _ q y => ?_⟩
  · have h1 : i < xs.length := by omega
    exact ⟨xs, xs[i], q, by simp [h1]⟩
  · obtain ⟨T, x, h1, h2, h3, h4⟩ := y
    exact ⟨T, .int (i : Nat), x, h1, h2, h3, rfl, h4 xs q⟩
theorem enum_item {H0 H H' : Hp} {ds : List Dt} {i : Nat} {x : V} (hx : DaAll K H0 xs ds) (y : YPair (fun i => some (.int (i : Nat))) (fun i => xs[i]?) i H x H') : ∃ d, (numD ds)[i]? = some d ∧
    ((H' = H ∧ Da K H0 x d) ∨ ∃ T vs fs, x = .ref T ∧ H T = none ∧ H' = upd H T (.tup vs) ∧ DaAll K H0 vs fs ∧ d = .tup fs) := by
  obtain ⟨T, u, v, h1, h2, h3, h4, h5⟩ := y
  obtain ⟨d, e1, f1⟩ := hx.getV h5
  cases h4
  refine ⟨.tup [.int (i : Nat), d], ?_, .inr ⟨T, [_, v], [.int (i : Nat), d], h1, h2, h3, .cons (.int _) (.cons f1 .nil), rfl⟩⟩
  unfold numD
  rw [List.getElem?_mapIdx, e1]
  rfl
end
section
variable {g : Gx} {F : Fm} {W : WX} {σ : L2.St} {H : Hp}
theorem iEnum_of {f : Rho → R (List Dt)} {Rk : It → Hp → Prop} (h : tI g F W (rngF enumD f) σ H Rk) : iEnum g.K (tDA g F W f) σ H Rk ∨ iEnumT g.K (tDA g F W f) σ H Rk := by
  obtain ⟨H0, ρ, E, q⟩ := h
  unfold rngF at q
  cases e : f ρ with
  | ok ds ρ1 =>
    rw [e] at q
    dsimp only [R.bind] at q
    cases e2 : enumD ds with
    | none => rw [e2] at q; exact q.elim
    | some zs =>
      rw [e2] at q
      unfold enumD at e2
      split at e2
      · rename_i xs
        cases e2
        refine .inr ⟨H0, ρ, E, ?_⟩
        rw [e]
        intro vs H0' H' E' m hd
        cases hd with
        | cons h1 h2 =>
          cases h2
          cases h1 with
          | tup s1 d1 =>
            refine ⟨_, _, rfl, seqT_mono E'.ex s1, q _ H0' H' E' m ?_⟩
            exact ⟨_, _, walk_enumT (n := (numD xs).length) (by unfold numD; rw [List.length_mapIdx]; exact d1.length), fun H s => seqT_mono s s1, fun i H x H' _ _ y => enum_item d1 y⟩
      · rename_i xs
        cases e2
        refine .inl ⟨H0, ρ, E, ?_⟩
        rw [e]
        intro vs H0' H' E' m hd
        cases hd with
        | cons h1 h2 =>
          cases h2
          cases h1 with
          | @lst _ us _ s1 d1 =>
            have t1 : ∀ H, Same H0' H → _ := fun H s => SqL.of (K := g.K) (s _ _ s1)
            refine ⟨_, _, rfl, t1 _ E'.ex, q _ H0' H' E' m ?_⟩
            have hl : (numD xs).length = us.length := by unfold numD; rw [List.length_mapIdx]; exact d1.length.symm
            exact ⟨fun H => SqL g.K H _ us, YPair (fun i => some (.int (i : Nat))) (fun i => us[i]?), by rw [hl]; exact walk_enum, fun H s => t1 H s, fun i H x H' _ _ y => enum_item d1 y⟩
      · cases e2
  | ex x ρ1 =>
    rw [e] at q
    refine .inr ⟨H0, ρ, E, ?_⟩
    rw [e]
    exact q
  | bad =>
    rw [e] at q
    exact q.elim
end
section
variable {X : Cx} {W : WX} {a : Expr} {pos p tpos : Pos} {fa : Rho → R (List Dt)} {elts : List Expr} {kk : Nat}
theorem di_enum (hg : Gl X "enumerate") (hm : X.mg "enumerate" = none) (h : DA X W [a] fa) (hs : starEach [a] X.env = [(false, eval a X.env)] := by rfl) :
    DI X W (.Tuple elts kk tpos) (.Call (.Name "enumerate" p) [a] [] pos) (rngF enumD fa) := fun F => PI.wk (PI.or (pi_enum hg hm (h F) hs) (pi_enumT hg hm (h F) hs)) fun _ _ _ q => iEnum_of q
end
end DW

set_option Elab.async false
set_option linter.all false
set_option maxRecDepth 100000
set_option maxHeartbeats 4000000
/-! DWX4: errors made as data -/
namespace DW
open PySem PySem.Spec PyProof.Rows L2 LamX
section
variable {X : Cx} {pins : List (Addr × Obj)} {σ : L2.St} {H : Hp} {s : Shared}
/-- a new object, known to the object alone -/
theorem pin_obj (J : Inv X pins σ H s) {e : Addr} {o : Obj} (get : s.heap.get? e = some o) (hn : H e = none) (hl : e ≠ X.env.locals) (hf : e ∉ X.fs) (hd : ∀ v, o.data ≠ .cell v) : Inv X ((e, o) :: pins) σ H s :=
  ⟨J.ok, J.os, J.bare, J.base, J.loc, J.cell, J.free, J.freeC, fun p hp => by
    rcases List.mem_append.mp hp with z | z
    · exact J.pin p (List.mem_append_left _ z)
    · rcases List.mem_cons.mp z with z | z
      · subst z
        exact ⟨get, hn, hl, hf, hd⟩
      · exact J.pin p (List.mem_append_right _ z), J.hok, J.len⟩
end
section
variable {X : Cx} {cn f : Str} {B newId initId : String} {bmB : List Value} {C fI : Addr} {W : WX}
/-- X(e), the new error as a value -/
def tMkV (C : Addr) (f : Str) (ta : TA) : TE := fun σ H Q => ta σ H fun vs H1 => ∃ v, vs = [v] ∧ ∀ d e, H1 d = none → H1 e = none → d ≠ e → Q (.ref e) (upd (upd H1 d (.xd [(f, v)])) e (ExV e (.ref C) d))
/-- behind the making -/
theorem made_end {pins : List (Addr × Obj)} {σ : L2.St} {H1 : Hp} {Q : VK} {hp h' : Heap} {g : Array GenState} {dr : Drawn} {tk tk' : Nat} {os : OsState} {e d : Addr} {v : V} {v' : Value} (I1 : Inv X pins σ H1 ⟨hp, g, dr, tk, os⟩) (rv : RelV v v') (M : DWX.Made hp h' e C d f v')
    (q : ∀ d e, H1 d = none → H1 e = none → d ≠ e → Q (.ref e) (upd (upd H1 d (.xd [(f, v)])) e (ExV e (.ref C) d))) : EP X pins σ Q (.ref e) ⟨h', g, dr, tk', os⟩ := by
  obtain ⟨oe, fv, hoe, hc, hdd, hdat, h1⟩ := M.obj
  have fe : H1 e = none := I1.hok.fresh M.new
  have fd : H1 d = none := I1.hok.fresh M.dbig
  have ob : ObjOk X.prog X.w (upd H1 d (.xd [(f, v)])) h' d (.xd [(f, v)]) := ⟨_, M.ns, fun y => relO_fld rv f y⟩
  have J : Inv X pins σ (upd H1 d (.xd [(f, v)])) ⟨h', g, dr, tk', os⟩ := I1.laid (t' := tk') M.keep M.dbig ob
  have J2 := pin_obj J hoe (by rw [upd_ne (Ne.symm M.dne)]; exact fe) (fun z => Nat.lt_irrefl _ (Nat.lt_of_lt_of_le (z ▸ I1.lt) M.new)) (I1.nofs M.new) (fun w z => by rw [hdat] at z; cases z)
  have new : ∀ b o, hp.get? b = some o → b ≠ e := fun b o z y => Nat.lt_irrefl _ (Nat.lt_of_lt_of_le (y ▸ Heap.lt_size z) M.new)
  have J3 := track J2 (dd := d) (cls := .ref C) ⟨hc, hdd⟩ ⟨_, hdat⟩ (by
    cases z : X.s_0.heap.get? e with
    | none => rfl
    | some o => exact absurd (Nat.lt_of_lt_of_le (Heap.lt_size z) (Nat.le_trans I1.sz M.new)) (Nat.lt_irrefl _)) fun p hp => new _ _ (I1.pin p hp).1
  exact ⟨.ref e, _, J3, rfl, q d e fd fe M.dne⟩
theorem pe_mkX {a : Expr} {ta : TA} {p pos : Pos} {k : Nat} (T : DWX.OwnX X.prog X.K X.mg cn f B newId initId bmB C fI) (hr : Room k X.A) (ha : PA X [a] ta) (hg : Gl X cn)
    (hd : (cn == ("__debug__" : Str)) = false) (he : starEach (a :: []) X.env = (false, eval a X.env) :: starEach [] X.env := by rfl) (hpl : (backTo pos (starEach [] X.env)).any (·.1) = false := by rfl) :
    PE X (.Call (.Name cn p) [a] [] pos) (tMkV C f ta) := by
  refine ⟨fun pins s σ H Q I h => ?_⟩
  refine wpAny_Call_Name_kw (ld_glob I hg T.gC ?_ hd)
  refine PySem.W.callWith_K (h₀ := X.base) I.ok.mod.kin T.kC (thn (ha.run pos pins s σ H _ I h) fun us s1 hh => ?_) he hpl
  obtain ⟨vs, H1, I1, r1, v, ev, q1⟩ := hh
  subst ev
  refine ⟨I1.kIn, ?_⟩
  cases r1 with
  | cons rv rn =>
    rename_i v' us'
    cases rn
    show wpAny _ _ (call (.ref C) [v']) _ _ _
    have hlim := I1.nolimit
    have hG : s1.heap.Ns mainGlobals X.mg := I1.mod.glob.keeps I1.bk
    have hB : ∃ mb, s1.heap.Ns builtinsNs mb ∧ ∀ y : Str, y ≠ "__name__" → mb y = bootBuiltins y := by
      obtain ⟨mb, b1, b2⟩ := I1.mod.blt
      exact ⟨mb, b1.keeps I1.bk, b2⟩
    obtain ⟨hp, g, dr, tk, os⟩ := s1
    exact wpAny_call (DWX.own_made T I1.kIn hlim hG hB (by have := hr.dp; omega) fun h' tk' e d M => made_end I1 rv M q1)
/-- an error as data -/
def mkXF (c f : Str) (f1 : Rho → R Dt) : Rho → R Dt := fun ρ => (f1 ρ).bind fun d ρ1 => .ok (.xo c f d) ρ1
theorem mkX_of (nz : f ≠ "") {f1 : Rho → R Dt} {F : Fm} {σ : L2.St} {H : Hp} {Q : VK} (h : tD (gx X) F W (mkXF cn f f1) σ H Q) : tMkV (He.ga X.K cn) f (tCons (tD (gx X) F W f1) tNil) σ H Q := by
  obtain ⟨H0, ρ, E, q⟩ := h
  refine ⟨H0, ρ, E, ?_⟩
  unfold mkXF at q
  cases e1 : f1 ρ with
  | ok d ρ1 =>
    rw [e1] at q
    intro v H0' H' E' m hv
    refine ⟨v, rfl, fun dx e hdx he hne => ?_⟩
    have g1 : Gr ⟨H0', H', none⟩ (upd H0' dx (.xd [(f, v)])) (upd H' dx (.xd [(f, v)])) := gr_new hdx E'.ex
    obtain ⟨E2, m2⟩ := E'.postW m g1.w (g1.tb E'.tb) (same_new hdx E'.ex)
    have he2 : upd H' dx (.xd [(f, v)]) e = none := by rw [upd_ne (Ne.symm hne)]; exact he
    have g2 : Gr ⟨upd H0' dx (.xd [(f, v)]), upd H' dx (.xd [(f, v)]), none⟩ (upd (upd H0' dx (.xd [(f, v)])) e (ExV e (.ref (He.ga X.K cn)) dx)) (upd (upd H' dx (.xd [(f, v)])) e (ExV e (.ref (He.ga X.K cn)) dx)) := gr_new he2 E2.ex
    obtain ⟨E3, m3⟩ := E2.postW m2 g2.w (g2.tb E2.tb) (same_new he2 E2.ex)
    exact q (.ref e) _ _ E3 m3 (.xo nz upd_same (by rw [upd_ne hne, upd_same]) ((hv.mono g1.b0).mono g2.b0))
  | ex x ρ1 =>
    rw [e1] at q
    exact q
  | bad => rw [e1] at q; exact q.elim
theorem de_mkX {a : Expr} {f1 : Rho → R Dt} {p pos : Pos} {k : Nat} (T : DWX.OwnX X.prog X.K X.mg cn f B newId initId bmB (He.ga X.K cn) fI) (hr : Room k X.A) (hg : Gl X cn) (ha : DE X W a f1)
    (hd : (cn == ("__debug__" : Str)) = false := by decide) (he : starEach (a :: []) X.env = (false, eval a X.env) :: starEach [] X.env := by rfl) (hpl : (backTo pos (starEach [] X.env)).any (·.1) = false := by rfl) :
    DE X W (.Call (.Name cn p) [a] [] pos) (mkXF cn f f1) := fun F => PE.wk (pe_mkX T hr (pa_cons (ha F) pa_nil he) hg hd he hpl) fun σ H Q h => mkX_of T.fo.nz h
end
end DW

set_option Elab.async false
set_option linter.all false
set_option maxRecDepth 100000
set_option maxHeartbeats 4000000
/-! DWX5: an own error made by the name of its field -/
namespace DWX
open PySem PySem.W PySem.Calls PyProof.Rows PySem.HandSPX
section
variable {P : Program} {w : World} {A : Around} {E : Value → Shared → Prop} {R : Result → Shared → Prop} {h : Heap} {g : Array GenState} {d : Drawn} {t : Nat} {os : OsState}
variable {nm q f : Str} {C N : Addr} {v : Value} {bs bm bmB : List Value} {hdct : Bool} {sn : List Str} {sub : List Value} {ab : Bool} {col : Option Bool} {dd : Option Addr} {k0 k1 k2 k3 k5 : Option Value} {B newId initId : String}
theorem kwNewCheck (F : ExcBaseFacts B newId initId bmB) (hT : ∀ X : String, bm.contains (.type X) = bmB.contains (.type X)) {Q : Unit → Shared → Prop}
    (hC : h.get? C = some (excClassObj nm q C N bs bm hdct sn sub ab col dd k0 k1 k2 k3 k5 newId)) (hq : Q () ⟨h, g, d, t, os⟩) : wpAny (model P w) A (checkBuiltinCall newId ⟨[.ref C], [(f, v)]⟩) Q E ⟨h, g, d, t, os⟩ := by
  have own : (Value.ref C :: bm).contains (.type B) = true := by rw [List.contains_cons, hT, F.hasB, Bool.or_true]
  have star := F.noStar
  simp only [checkBuiltinCall, F.newKind, F.newSplit, F.newRow]
  repeat (first | refine wpAny_loadPart_at hC ?_ | (refine wpAny_isSubtype_exc hC ?_; rw [own]) | refine wpAny_staticBase_exc hC ?_ | refine wpAny_madeBy_exc hC ?_ | simp only [bne_self_eq_false, Bool.false_eq_true, if_false] | wp_step)
  exact hq
theorem kwNew (F : ExcBaseFacts B newId initId bmB) (hT : ∀ X : String, bm.contains (.type X) = bmB.contains (.type X))
    (hC : h.get? C = some (excClassObj nm q C N bs bm hdct sn sub ab col dd k0 k1 k2 k3 k5 newId)) (hq : R (.ok (.ret (.ref (h.objs.size + 1)))) ⟨(h.push (kdv_tup [])).push (excO C h.objs.size), g, d, t, os⟩) :
    codeAny (model P w) A (.builtin newId ⟨[.ref C], [(f, v)]⟩) R ⟨h, g, d, t, os⟩ := by
  have ends := F.ends
  have own : (Value.ref C :: bm).contains (.type B) = true := by rw [List.contains_cons, hT, F.hasB, Bool.or_true]
  have noA : (Value.ref C :: bm).contains (.type "AttributeError") = false := by rw [List.contains_cons, hT, F.noAttr]; rfl
  have noN : (Value.ref C :: bm).contains (.type "NameError") = false := by rw [List.contains_cons, hT, F.noName]; rfl
  refine codeAny_builtinAt F.entry ?_
  unfold Builtin.«BaseException.__new__»
  refine PyProof.Rows.wpAt_bind ?_
  show PyProof.Rows.wpAt _ _ _ (stack >>= _) _ _ _
  refine PyProof.Rows.wpAt_bind (PyProof.Rows.wpAt_stack fun p below => _root_.PySem.wpAt_of_wpAny ?_)
  wp_walk
  refine _root_.PySem.wpAt_of_wpAny ?_
  rw [F.owner]
  repeat (first | with_reducible refine wpAny_madeHere_exc F.canon hC ?_ | with_reducible refine wpAny_loadPart_at hC ?_ | (with_reducible refine wpAny_isSubtype_exc hC ?_; first | rw [own] | rw [noA] | rw [noN]) | wp_step)
  show R _ _
  rw [Heap.size_push]
  exact hq
theorem kwTypeCall (F : ExcBaseFacts B newId initId bmB) (hT : ∀ X : String, bm.contains (.type X) = bmB.contains (.type X)) {fI : Addr} {Q : Fin → Shared → Prop}
    (hC : h.get? C = some (excClassObj nm q C N bs bm hdct sn sub ab col dd k0 k1 k2 k3 k5 newId))
    (hi : W.Looks (model P w) h (typeLookup (.ref C) "__init__") (some (.ref fI))) (hb : ∀ self, W.Looks (model P w) h (bindSpecial (.ref fI) self) (.ref fI, [self]))
    (hq : codeAny (model P w) A (.call (.ref fI) ⟨[.ref (h.objs.size + 1)], [(f, v)]⟩)
      (fun r s' => match r with | .ok (.ret u) => u = .none ∧ Q (.done (.ret (.ref (h.objs.size + 1)))) s' | .ok _ => False | .error e => E e s')
      ⟨(h.push (kdv_tup [])).push (excO C h.objs.size), g, d, t, os⟩) :
    wpAny (model P w) A (Builtin.«type.__call__» ⟨[.ref C], [(f, v)]⟩) Q E ⟨h, g, d, t, os⟩ := by
  repeat (first | with_reducible refine wpAny_loadPart_at hC ?_ | with_reducible refine wpAny_madeBy_exc hC ?_ | wp_step)
  refine codeAny_call_builtin_code (Code.quiet_builtin _ F.quiet) (kwNewCheck F hT hC ?_)
  refine kwNew F hT hC ?_
  show wpAny _ _ _ _ _ _
  have k : ∀ b o, h.get? b = some o → ((h.push (kdv_tup [])).push (excO C h.objs.size)).get? b = some o := fun b o e => Heap.get?_push_of_some _ (Heap.get?_push_of_some _ e)
  have atC := k _ _ hC
  have atE : ((h.push (kdv_tup [])).push (excO C h.objs.size)).get? (h.objs.size + 1) = some (excO C h.objs.size) := by heap_get
  have isC : (Value.ref C :: bm).contains (.ref C) = true := by simp
  have i1 := hi.keeps k
  have b1 := (hb (.ref (h.objs.size + 1))).keeps k
  unfold isInstance
  repeat (first | with_reducible refine wpAny_loadPart_at atE ?_ | (with_reducible refine wpAny_isSubtype_exc atC ?_; rw [isC]) | wp_step)
  show wpAny _ _ (typeLookup (.ref C) _) _ _ _
  refine i1.at ?_
  refine wpAny_holding (wpAny_bind (b1.at ?_))
  refine wpAny_bind (wpAny_call (codeAny_mono hq fun r s' z => ?_))
  rcases r with e | (u | _ | _ | _) <;> first | exact z | exact z.elim | skip
  obtain ⟨rfl, z⟩ := z
  first
    | exact wpAny_pure (wpAny_pure z)
    | (wp_walk; exact z)
theorem kwCall (F : ExcBaseFacts B newId initId bmB) (hT : ∀ X : String, bm.contains (.type X) = bmB.contains (.type X)) {fI : Addr}
    (hC : h.get? C = some (excClassObj nm q C N bs bm hdct sn sub ab col dd k0 k1 k2 k3 k5 newId))
    (hi : W.Looks (model P w) h (typeLookup (.ref C) "__init__") (some (.ref fI))) (hb : ∀ self, W.Looks (model P w) h (bindSpecial (.ref fI) self) (.ref fI, [self]))
    (hq : codeAny (model P w) (A.under (.builtin "type.__call__" ⟨[.ref C], [(f, v)]⟩)) (.call (.ref fI) ⟨[.ref (h.objs.size + 1)], [(f, v)]⟩) (W.InitBack (h.objs.size + 1) R)
      ⟨(h.push (kdv_tup [])).push (excO C h.objs.size), g, d, t, os⟩) :
    codeAny (model P w) A (.call (.ref C) ⟨[], [(f, v)]⟩) R ⟨h, g, d, t, os⟩ := by
  have f1 := tc_lookup
  have f2 := tc_bind (.ref C)
  have ty : (⟨h, g, d, t, os⟩ : Shared).TypeIs (.ref C) "type" := ⟨_, hC, rfl⟩
  refine codeAny_of_tree ?_
  show wpAny _ _ (callAny (.ref C) _) _ _ _
  repeat (any_goals (first | assumption | with_reducible refine wpAny_loadPart_at hC ?_ | wp_step))
  refine ⟨rfl, ?_⟩
  refine codeAny_call_builtin_at (Code.quiet_builtin _ (by decide +kernel)) entry_typeCall (wpAny_check_type_call_sub hC (kwTypeCall F hT hC hi hb hq))
end
section
variable {P : Program} {w : World} {A : Around} {R : Result → Shared → Prop} {K : Frag} {mg : Str → Option Value} {cn f : Str} {B newId initId : String} {bmB : List Value} {C fI : Addr}
theorem own_madeK (T : OwnX P K mg cn f B newId initId bmB C fI) {s : Shared} {v : Value} (X : K.In s.heap) (hlim : s.heap.NoLimit) (G : s.heap.Ns mainGlobals mg) (Bt : ∃ mb, s.heap.Ns builtinsNs mb ∧ ∀ y : Str, y ≠ "__name__" → mb y = bootBuiltins y) (hroom : A.depth + 1 < recursionLimit)
    (hq : ∀ h' tk e d, Made s.heap h' e C d f v → R (.ok (.ret (.ref e))) { s with heap := h', toks := tk }) :
    codeAny (model P w) A (.call (.ref C) ⟨[], [(f, v)]⟩) R s := by
  obtain ⟨nm, N', qn, bs, bm, hdct, sn, sub, ab, col, dd, k0, k1, k2, k3, k5, hC, hT⟩ := excInit_of X T.ex
  obtain ⟨hp, g, dr, tk, os⟩ := s
  have k : ∀ b o, hp.get? b = some o → ((hp.push (kdv_tup [])).push (excO C hp.objs.size)).get? b = some o := fun b o e => Heap.get?_push_of_some _ (Heap.get?_push_of_some _ e)
  have hget : ((hp.push (kdv_tup [])).push (excO C hp.objs.size)).get? (hp.objs.size + 1) = some (excO C hp.objs.size) := by heap_get
  have hnx : K.lookup (hp.objs.size + 1) = none := by
    cases e : K.lookup (hp.objs.size + 1) with
    | none => rfl
    | some o =>
      have z : hp.get? (hp.objs.size + 1) = some o := X _ _ e
      exact absurd (Nat.lt_of_succ_lt (Heap.lt_size z)) (Nat.lt_irrefl _)
  obtain ⟨mb, b1, b2⟩ := Bt
  refine kwCall T.fb hT hC (looks_findIn X T.iC) (fun self => bind_fn X self T.tI) ?_
  refine own_init (s := ⟨(hp.push (kdv_tup [])).push (excO C hp.objs.size), g, dr, tk, os⟩) T (X.keeps k) (hlim.keeps k) (G.keeps k) ⟨mb, b1.keeps k, b2⟩ hget hnx hroom (.inr rfl) fun h' tk' dx t1 J => ?_
  have old : ∀ b o, hp.get? b = some o → h'.get? b = some o := fun b o e => J.keep b o (Nat.ne_of_lt (Nat.lt_succ_of_lt (Heap.lt_size e))) (k b o e)
  have z : hp.objs.size + 1 + 1 ≤ dx := by
    have q := J.dbig
    first
      | exact q
      | (simpa only [Heap.size_push] using q)
  exact ⟨rfl, hq h' tk' (hp.objs.size + 1) dx ⟨old, Nat.le_succ _, ⟨_, _, J.obj, rfl, rfl, rfl, rfl⟩, Nat.le_trans (by omega : hp.objs.size ≤ hp.objs.size + 1 + 1) z, J.dne, J.ns⟩⟩
end
end DWX
namespace DW
open PySem PySem.Spec PyProof.Rows L2 LamX
section
variable {X : Cx} {cn f : Str} {B newId initId : String} {bmB : List Value} {C fI : Addr} {W : WX}
theorem pe_mkK {a : Expr} {ta : TA} {p pos kp : Pos} {k : Nat} (T : DWX.OwnX X.prog X.K X.mg cn f B newId initId bmB C fI) (hr : Room k X.A) (ha : PK X [⟨some f, a, kp⟩] ta) (hg : Gl X cn)
    (hd : (cn == ("__debug__" : Str)) = false) (hall : (backToKw pos (keywordEach [⟨some f, a, kp⟩] X.env)).all (·.1.isSome) = true := by rfl) (hks : (backToKw pos (keywordEach [⟨some f, a, kp⟩] X.env)).filterMap (·.1) = [f] := by rfl)
    (hpl : ((backTo pos (starEach [] X.env)).any (·.1) || (backToKw pos (keywordEach [⟨some f, a, kp⟩] X.env)).any (·.1.isNone)) = false := by rfl) :
    PE X (.Call (.Name cn p) [] [⟨some f, a, kp⟩] pos) (tMkV C f ta) := by
  refine ⟨fun pins s σ H Q I h => ?_⟩
  refine wpAny_Call_Name_kw (ld_glob I hg T.gC ?_ hd)
  refine PySem.W.callWith_KW0 (h₀ := X.base) I.ok.mod.kin T.kC hall (thn (ha.run pos pins s σ H _ I h) fun us s1 hh => ?_) hpl
  obtain ⟨vs, H1, I1, r1, v, ev, q1⟩ := hh
  subst ev
  refine ⟨I1.kIn, ?_⟩
  rw [hks]
  cases r1 with
  | cons rv rn =>
    rename_i v' us'
    cases rn
    show wpAny _ _ (call (.ref C) [] [(f, v')]) _ _ _
    have hlim := I1.nolimit
    have hG : s1.heap.Ns mainGlobals X.mg := I1.mod.glob.keeps I1.bk
    have hB : ∃ mb, s1.heap.Ns builtinsNs mb ∧ ∀ y : Str, y ≠ "__name__" → mb y = bootBuiltins y := by
      obtain ⟨mb, b1, b2⟩ := I1.mod.blt
      exact ⟨mb, b1.keeps I1.bk, b2⟩
    obtain ⟨hp, g, dr, tk, os⟩ := s1
    exact wpAny_call (DWX.own_madeK T I1.kIn hlim hG hB (by have := hr.dp; omega) fun h' tk' e d M => made_end I1 rv M q1)
theorem de_mkK {a : Expr} {f1 : Rho → R Dt} {p pos kp : Pos} {k : Nat} (T : DWX.OwnX X.prog X.K X.mg cn f B newId initId bmB (He.ga X.K cn) fI) (hr : Room k X.A) (hg : Gl X cn) (ha : DE X W a f1) (hd : (cn == ("__debug__" : Str)) = false := by decide) (hall : (backToKw pos (keywordEach [⟨some f, a, kp⟩] X.env)).all (·.1.isSome) = true := by rfl)
    (hks : (backToKw pos (keywordEach [⟨some f, a, kp⟩] X.env)).filterMap (·.1) = [f] := by rfl) (hpl : ((backTo pos (starEach [] X.env)).any (·.1) || (backToKw pos (keywordEach [⟨some f, a, kp⟩] X.env)).any (·.1.isNone)) = false := by rfl) :
    DE X W (.Call (.Name cn p) [] [⟨some f, a, kp⟩] pos) (mkXF cn f f1) := fun F => PE.wk (pe_mkK T hr (pk_cons (ha F) pk_nil) hg hd hall hks hpl) fun σ H Q h => mkX_of T.fo.nz h
end
end DW

set_option Elab.async false
set_option linter.all false
set_option maxRecDepth 100000
set_option maxHeartbeats 4000000
/-! DWX6: an own error without an __init__ of its own made with a text; isinstance of errors with built-in classes; str of such an error -/
namespace DW
open PySem PySem.Spec PyProof.Rows L2 LamX
/-- what is asked of such a class -/
structure OwnB (K : PySem.W.Frag) (mg : Str → Option Value) (cn : Str) (B newId initId : String) (bmB : List Value) : Prop where
  fb : ExcBaseFacts B newId initId bmB
  gC : mg cn = some (.ref (He.ga K cn))
  kC : PySem.W.keepIn K (.ref (He.ga K cn)) = true
  iB : PySem.W.findIn K (.ref (He.ga K cn)) "__init__" = some (some (.builtin initId))
  ex : PySem.W.excInitIn K (He.ga K cn) bmB newId = true
  st : PySem.W.findIn K (.ref (He.ga K cn)) "__str__" = some (some (.builtin "BaseException.__str__"))
  sb : PySem.W.subIn K (.ref (He.ga K cn)) (.type "BaseException") = some true
def ownBB (K : PySem.W.Frag) (cn : Str) (newId initId : String) (bmB : List Value) : Bool :=
  He.eqO (PySem.W.nsIn K mainGlobals cn) (some (some (.ref (He.ga K cn)))) && (PySem.W.keepIn K (.ref (He.ga K cn)) && (He.eqO (PySem.W.findIn K (.ref (He.ga K cn)) "__init__") (some (some (.builtin initId))) && (PySem.W.excInitIn K (He.ga K cn) bmB newId && (He.eqO (PySem.W.findIn K (.ref (He.ga K cn)) "__str__") (some (some (.builtin "BaseException.__str__"))) && decide (PySem.W.subIn K (.ref (He.ga K cn)) (.type "BaseException") = some true)))))
theorem ownBB_ok {K : PySem.W.Frag} {h : Heap} {mg : Str → Option Value} {cn : Str} {B newId initId : String} {bmB : List Value} (X : K.In h) (G : h.Ns mainGlobals mg) (fb : ExcBaseFacts B newId initId bmB) (hok : ownBB K cn newId initId bmB = true) : OwnB K mg cn B newId initId bmB := by
  unfold ownBB at hok
  simp only [Bool.and_eq_true, decide_eq_true_eq] at hok
  obtain ⟨h1, h2, h3, h4, h5, h6⟩ := hok
  exact ⟨fb, PySem.W.mg_of X G (He.eqO_ok h1), h2, He.eqO_ok h3, h4, He.eqO_ok h5, h6⟩
/-- what was known to the object alone is tracked -/
theorem trackO {X : Cx} {pins : List (Addr × Obj)} {σ : L2.St} {H : Hp} {s : Shared} {a : Addr} {oe : Obj} {u : HO} (J : Inv X ((a, oe) :: pins) σ H s) (new : s.heap.get? a = some oe → ObjOk X.prog X.w (upd H a u) s.heap a u) (new0 : X.s_0.heap.get? a = none) (newP : ∀ p ∈ X.pn ++ pins, p.1 ≠ a) : Inv X pins σ (upd H a u) s := by
  obtain ⟨get, none_, nL, nF, noC⟩ := J.pin (a, oe) (List.mem_append_right _ List.mem_cons_self)
  have sub : ∀ p ∈ X.pn ++ pins, p ∈ X.pn ++ (a, oe) :: pins := fun p hp => by
    rcases List.mem_append.mp hp with q | q
    · exact List.mem_append_left _ q
    · exact List.mem_append_right _ (List.mem_cons_of_mem _ q)
  refine ⟨J.ok, J.os, J.bare, ⟨J.base.keep, J.base.slot, fun b o e n hx => ?_, J.base.there, fun b xs e => ?_, fun b o u e => ?_, fun b ps e => ?_⟩, J.loc, J.cell, ?_, fun x c e => ?_, fun p hp => ?_, J.hok.laidN (fun _ _ q => q) none_ (new get), J.len⟩
  · rw [upd_ne (fun q => by rw [q, new0] at e; cases e)]
    exact J.base.free b o e n hx
  · have q := J.base.tups b xs e
    rw [upd_ne (ne_of_none q none_)]
    exact q
  · have q := J.base.frzs b o u e
    rw [upd_ne (ne_of_none q none_)]
    exact q
  · obtain ⟨m, q⟩ := J.base.tbls b ps e
    exact ⟨m, by rw [upd_ne (ne_of_none q none_)]; exact q⟩
  · rw [upd_ne (Ne.symm nL)]
    exact J.free
  · have hc : c ≠ a := fun q => by
      obtain ⟨v, o, ho, hv⟩ := J.cell x c e
      rw [q, get] at ho
      cases ho
      exact noC v hv
    rw [upd_ne hc]
    exact J.freeC x c e
  · obtain ⟨p1, p2, p3, p4, p5⟩ := J.pin p (sub p hp)
    exact ⟨p1, by rw [upd_ne (newP p hp)]; exact p2, p3, p4, p5⟩
theorem exB_ob {P : Program} {w : World} {H : Hp} {h : Heap} {a t : Addr} {cls : Value} {oe : Obj} {vs : Array Value} (e : h.get? a = some oe) (z : Zc cls none oe) (d : oe.data = .fields vs) (h0 : vs[0]? = some (.ref t)) : ObjOk P w H h a (ExB a cls t) :=
  ⟨⟨oe, vs, e, z, d, h0⟩, ⟨oe, e⟩, fun _ _ ⟨o, v, q, r⟩ k => ⟨o, v, k o q, r⟩⟩
section
variable {X : Cx} {cn : Str} {B newId initId : String} {bmB : List Value} {C : Addr} {W : WX}
/-- X(e), the new error as a value -/
def tMkB (C : Addr) (ta : TA) : TE := fun σ H Q => ta σ H fun vs H1 => ∃ x : Str, vs = [.str x] ∧ ∀ t e, H1 t = none → H1 e = none → t ≠ e → Q (.ref e) (upd (upd H1 t (.tup vs)) e (ExB e (.ref C) t))
theorem pe_mkB {a : Expr} {ta : TA} {p pos : Pos} (T : OwnB X.K X.mg cn B newId initId bmB) (ha : PA X [a] ta) (hg : Gl X cn)
    (hd : (cn == ("__debug__" : Str)) = false) (he : starEach (a :: []) X.env = (false, eval a X.env) :: starEach [] X.env := by rfl) (hpl : (backTo pos (starEach [] X.env)).any (·.1) = false := by rfl) :
    PE X (.Call (.Name cn p) [a] [] pos) (tMkB (He.ga X.K cn) ta) := by
  refine ⟨fun pins s σ H Q I h => ?_⟩
  refine wpAny_Call_Name_kw (ld_glob I hg T.gC ?_ hd)
  refine PySem.W.callWith_K (h₀ := X.base) I.ok.mod.kin T.kC (thn (ha.run pos pins s σ H _ I h) fun us s1 hh => ?_) he hpl
  obtain ⟨vs, H1, I1, r1, x, ev, q1⟩ := hh
  subst ev
  refine ⟨I1.kIn, ?_⟩
  cases r1 with
  | cons rv rn =>
    rename_i v' us'
    cases rn
    show wpAny _ _ (call (.ref (He.ga X.K cn)) [v']) _ _ _
    obtain ⟨nm, N', qn, bs, bm, hdct, sn, sub, ab, col, dd, k0, k1, k2, k3, k5, hC, hT⟩ := PySem.W.excInit_of I1.kIn T.ex
    have hi : PySem.W.Looks (model X.prog X.w) s1.heap (typeLookup (.ref (He.ga X.K cn)) "__init__") (some (.builtin initId)) := PySem.W.looks_findIn I1.kIn T.iB
    obtain ⟨hp, g, dr, tk, os⟩ := s1
    refine PySem.W.call_B T.fb hT hC hi (by show 1 ≤ sizeLine; decide) fun h' k e1 t1 => ?_
    have ft : H1 (hp.objs.size + 2) = none := I1.hok.fresh (Nat.le_add_right _ 2)
    have fe : H1 (hp.objs.size + 1) = none := I1.hok.fresh (Nat.le_add_right _ 1)
    have ne : hp.objs.size + 2 ≠ hp.objs.size + 1 := Nat.succ_ne_self _
    have ob : ObjOk X.prog X.w (upd H1 (hp.objs.size + 2) (.tup [.str x])) h' (hp.objs.size + 2) (.tup [.str x]) := ⟨by show 1 ≤ sizeLine; decide, [v'], .cons rv .nil, ⟨_, t1, rfl, _, rfl⟩⟩
    have J : Inv X pins σ (upd H1 (hp.objs.size + 2) (.tup [.str x])) ⟨h', g, dr, tk, os⟩ := I1.laid (t' := tk) k (Nat.le_add_right _ 2) ob
    have J2 := pin_obj J e1 (by rw [upd_ne (Ne.symm ne)]; exact fe) (fun z => Nat.lt_irrefl _ (Nat.lt_of_lt_of_le (z ▸ I1.lt) (Nat.le_add_right _ 1))) (I1.nofs (Nat.le_add_right _ 1)) (fun w z => nomatch z)
    have new : ∀ b o, hp.get? b = some o → b ≠ hp.objs.size + 1 := fun b o z y => Nat.lt_irrefl _ (Nat.lt_of_lt_of_le (y ▸ Heap.lt_size z) (Nat.le_add_right _ 1))
    have J3 := trackO (u := ExB (hp.objs.size + 1) (.ref (He.ga X.K cn)) (hp.objs.size + 2)) J2 (fun get => exB_ob get ⟨rfl, rfl⟩ rfl rfl) (by
      cases z : X.s_0.heap.get? (hp.objs.size + 1) with
      | none => rfl
      | some o => exact absurd (Nat.lt_of_lt_of_le (Heap.lt_size z) (Nat.le_trans I1.sz (Nat.le_add_right _ 1))) (Nat.lt_irrefl _)) fun p hp => new _ _ (I1.pin p hp).1
    exact ⟨.ref (hp.objs.size + 1), _, J3, rfl, q1 _ _ ft fe ne⟩
def mkBF (c : Str) (f1 : Rho → R Dt) : Rho → R Dt := un (fun d => match d with | .str x => some (.xo c "" (.str x)) | _ => none) f1
theorem mkB_of {f1 : Rho → R Dt} {F : Fm} {σ : L2.St} {H : Hp} {Q : VK} (h : tD (gx X) F W (mkBF cn f1) σ H Q) : tMkB (He.ga X.K cn) (tCons (tD (gx X) F W f1) tNil) σ H Q := by
  obtain ⟨H0, ρ, E, q⟩ := h
  refine ⟨H0, ρ, E, ?_⟩
  unfold mkBF un at q
  cases e1 : f1 ρ with
  | ok d ρ1 =>
    rw [e1] at q
    dsimp only [R.bind] at q
    cases d with
    | str x =>
      intro v H0' H' E' m hv
      cases hv
      refine ⟨x, rfl, fun t e ht he hne => ?_⟩
      have g1 : Gr ⟨H0', H', none⟩ (upd H0' t (.tup [.str x])) (upd H' t (.tup [.str x])) := gr_new ht E'.ex
      obtain ⟨E2, m2⟩ := E'.postW m g1.w (g1.tb E'.tb) (same_new ht E'.ex)
      have he2 : upd H' t (.tup [.str x]) e = none := by rw [upd_ne (Ne.symm hne)]; exact he
      have g2 : Gr ⟨upd H0' t (.tup [.str x]), upd H' t (.tup [.str x]), none⟩ (upd (upd H0' t (.tup [.str x])) e (ExB e (.ref (He.ga X.K cn)) t)) (upd (upd H' t (.tup [.str x])) e (ExB e (.ref (He.ga X.K cn)) t)) := gr_new he2 E2.ex
      obtain ⟨E3, m3⟩ := E2.postW m2 g2.w (g2.tb E2.tb) (same_new he2 E2.ex)
      exact q (.ref e) _ _ E3 m3 (.xb upd_same (by rw [upd_ne hne, upd_same]))
    | _ => exact q.elim
  | ex x ρ1 =>
    rw [e1] at q
    exact q
  | bad => rw [e1] at q; exact q.elim
theorem de_mkB {a : Expr} {f1 : Rho → R Dt} {p pos : Pos} (T : OwnB X.K X.mg cn B newId initId bmB) (hg : Gl X cn) (ha : DE X W a f1)
    (hd : (cn == ("__debug__" : Str)) = false := by decide) (he : starEach (a :: []) X.env = (false, eval a X.env) :: starEach [] X.env := by rfl) (hpl : (backTo pos (starEach [] X.env)).any (·.1) = false := by rfl) :
    DE X W (.Call (.Name cn p) [a] [] pos) (mkBF cn f1) := fun F => PE.wk (pe_mkB T (pa_cons (ha F) pa_nil he) hg hd he hpl) fun σ H Q h => mkB_of h
end
/-! ### isinstance with built-in classes -/
section
variable {X : Cx} {W : WX} {e : Expr} {f1 : Rho → R Dt} {pos p p2 : Pos}
theorem isx_of {K : PySem.W.Frag} {H0 H : Hp} {v : V} {c f : Str} {d : Dt} (s : Same H0 H) (h : Da K H0 v (.xo c f d)) : ∃ a, v = .ref a ∧ IsXc H a (He.ga K c) := by
  cases h with
  | xo h0 h1 h2 h3 => exact ⟨_, rfl, .inl ⟨_, _, s _ _ h1, s _ _ h2⟩⟩
  | xb h1 h2 => exact ⟨_, rfl, .inr ⟨_, s _ _ h1⟩⟩
/-- which classes of errors are of the built-in class T -/
def KbOk (K : PySem.W.Frag) (mt : Str → Option Bool) (Ts : List String) : Prop := ∀ c b, mt c = some b → XcC K (He.ga K c) ∧ PySem.W.kitAny K (.ref (He.ga K c)) (Ts.map Value.type) = some b
def KbOne (K : PySem.W.Frag) (mt : Str → Option Bool) (T : String) : Prop := ∀ c b, mt c = some b → XcC K (He.ga K c) ∧ PySem.W.kitOne K (.ref (He.ga K c)) (.type T) = some b
def rIsB (K : PySem.W.Frag) : List V → Hp → VK → Prop := fun xs H Q => ∃ (a D : Addr) (T : String) (b : Bool), xs = [.ref a, .ty T] ∧ IsXc H a D ∧ XcC K D ∧ PySem.W.kitOne K (.ref D) (.type T) = some b ∧ Q (.bl b) H
def rIsBT (K : PySem.W.Frag) : List V → Hp → VK → Prop := fun xs H Q => ∃ (a D tp : Addr) (Ts : List String) (b : Bool), xs = [.ref a, .ref tp] ∧ H tp = some (.tup (Ts.map V.ty)) ∧ IsXc H a D ∧ XcC K D ∧ PySem.W.kitAny K (.ref D) (Ts.map Value.type) = some b ∧ Q (.bl b) H
theorem call_isB : CallR X (.builtin "isinstance") (rIsB X.K) := by
  intro pins s σ H xs us Q I r h
  obtain ⟨a, D, T, b, rfl, ha, C, e, q⟩ := h
  obtain ⟨u1, u2, rfl, r1, r2⟩ := vals2 r
  cases (show u1 = Value.ref a from r1)
  cases (show u2 = Value.type T from r2)
  obtain ⟨oe, od, J⟩ := inst_ofX I ha
  exact PySem.W.kia_one (PySem.W.kitx_exc C.cl C.ga C.gt C.sb C.cc C.gg C.tk C.ob) I.kIn J e (fun z => nomatch z) fun tk => ⟨.bl b, H, I.kept (t' := tk) fun _ _ z => z, rfl, q⟩
theorem tys_vals : ∀ {Ts : List String} {us : List Value}, Vals (Ts.map V.ty) us → us = Ts.map Value.type
  | [], _, .nil => rfl
  | T :: Ts, _, .cons r t => by
    have h1 : _ = Value.type T := r
    have h2 := tys_vals t
    rw [h1, h2]
    rfl
theorem call_isBT : CallR X (.builtin "isinstance") (rIsBT X.K) := by
  intro pins s σ H xs us Q I r h
  obtain ⟨a, D, tp, Ts, b, rfl, hT, ha, C, e, q⟩ := h
  obtain ⟨u1, u2, rfl, r1, r2⟩ := vals2 r
  cases (show u1 = Value.ref a from r1)
  cases (show u2 = Value.ref tp from r2)
  obtain ⟨oe, od, J⟩ := inst_ofX I ha
  obtain ⟨_, its, rv, o, h1, h2, n, h3⟩ := (show ObjOk X.prog X.w H s.heap tp (.tup (Ts.map V.ty)) from I.hok tp _ hT)
  have e3 := tys_vals rv
  subst e3
  obtain ⟨oc, od', dt, sl⟩ := o
  simp only at h2 h3
  subst h2 h3
  exact PySem.W.kia_tup (PySem.W.kitx_exc C.cl C.ga C.gt C.sb C.cc C.gg C.tk C.ob) I.kIn J h1 e (fun z => nomatch z) fun tk => ⟨.bl b, H, I.kept (t' := tk) fun _ _ z => z, rfl, q⟩
theorem de_isB {T : String} {x : Str} {mt : Str → Option Bool} (K1 : KbOne X.K mt T) (hg : Gl X "isinstance") (hm : X.mg "isinstance" = none) (hgT : Gl X x) (hmT : X.mg x = none) (hvT : bootBuiltins x = some (.type T)) (ha : DK X W e f1) (hnx : x ≠ "__name__" := by decide) (hdx : (x == ("__debug__" : Str)) = false := by decide)
    (he : starEach (e :: [.Name x p2]) X.env = (false, eval e X.env) :: starEach [.Name x p2] X.env := by rfl) (hpl : (backTo pos (starEach [.Name x p2] X.env)).any (·.1) = false := by rfl) (he2 : starEach (.Name x p2 :: []) X.env = (false, eval (.Name x p2) X.env) :: starEach [] X.env := by rfl) :
    DE X W (.Call (.Name "isinstance" p) [e, .Name x p2] [] pos) (un (isX mt) f1) := fun F =>
  PE.wk (pe_callB call_isB hg hm (by decide +kernel) (pa_cons (ha F) (pa_cons (pe_bltn (v := .ty T) hgT hmT hvT rfl hnx hdx) pa_nil he2) he) (he := he) (hpl := hpl)) fun σ H Q h =>
    tUn_un (r := fun x H Q => rIsB X.K [x, .ty T] H Q) (fun x d z H0 H s hx hg Q k => by
      unfold isX at hg
      split at hg
      · rename_i c f v
        obtain ⟨b, e, rfl⟩ := Option.map_eq_some_iff.mp hg
        obtain ⟨a, rfl, ia⟩ := isx_of s hx
        obtain ⟨t1, t2⟩ := K1 c b e
        exact ⟨a, _, T, b, rfl, ia, t1, t2, sc s (.bl b) k⟩
      · cases hg) h
/-- a tuple of built-in classes -/
def tTys (Ts : List String) : TA := fun _ H Q => Q (Ts.map V.ty) H
theorem pa_ty0 : PA X [] (tTys []) := pa_nil
theorem pa_ty1 {x : Str} {T : String} {es : List Expr} {Ts : List String} (hgT : Gl X x) (hmT : X.mg x = none) (hvT : bootBuiltins x = some (.type T)) (h : PA X es (tTys Ts)) (hnx : x ≠ "__name__" := by decide) (hdx : (x == ("__debug__" : Str)) = false := by decide) (he2 : starEach (.Name x p2 :: es) X.env = (false, eval (.Name x p2) X.env) :: starEach es X.env := by rfl) : PA X (.Name x p2 :: es) (tTys (T :: Ts)) :=
  PA.wk (pa_cons (pe_bltn (v := .ty T) hgT hmT hvT rfl hnx hdx) h he2) fun _ _ _ q => q
theorem de_isBT {Ts : List String} {es : List Expr} {k1 : Nat} {mt : Str → Option Bool} (K1 : KbOk X.K mt Ts) (hl : Ts.length ≤ sizeLine) (hg : Gl X "isinstance") (hm : X.mg "isinstance" = none) (ht : PA X es (tTys Ts)) (ha : DK X W e f1)
    (he : starEach (e :: [.Tuple es k1 p2]) X.env = (false, eval e X.env) :: starEach [.Tuple es k1 p2] X.env := by rfl) (hpl : (backTo pos (starEach [.Tuple es k1 p2] X.env)).any (·.1) = false := by rfl) (he2 : starEach (.Tuple es k1 p2 :: []) X.env = (false, eval (.Tuple es k1 p2) X.env) :: starEach [] X.env := by rfl) :
    DE X W (.Call (.Name "isinstance" p) [e, .Tuple es k1 p2] [] pos) (un (isX mt) f1) := fun F =>
  PE.wk (pe_callB call_isBT hg hm (by decide +kernel) (pa_cons (ha F) (pa_cons (pe_tup ht) pa_nil he2) he) (he := he) (hpl := hpl)) fun σ H Q h =>
    tUn_un (r := fun x H Q => (Ts.map V.ty).length ≤ sizeLine ∧ ∀ tp, H tp = none → rIsBT X.K [x, .ref tp] (upd H tp (.tup (Ts.map V.ty))) Q) (fun x d z H0 H s hx hg Q k => by
      unfold isX at hg
      split at hg
      · rename_i c f v
        obtain ⟨b, e, rfl⟩ := Option.map_eq_some_iff.mp hg
        obtain ⟨t1, t2⟩ := K1 c b e
        refine ⟨by rw [List.length_map]; exact hl, fun tp hp => ?_⟩
        have s' : Same H0 (upd H tp (.tup (Ts.map V.ty))) := same_newO hp s
        obtain ⟨a, rfl, ia⟩ := isx_of s' hx
        exact ⟨a, _, tp, Ts, b, rfl, upd_same, ia, t1, t2, k _ H0 _ (gr_newO hp) s' (.bl b)⟩
      · cases hg) h
end
/-! ### str of an error without a dict -/
def strX (cs : List Str) : Dt → Option Dt
  | .xo c f (.str x) => if c ∈ cs ∧ f = "" then some (.str x) else none
  | _ => none
/-- classes whose errors are told by their text -/
def StOk (K : PySem.W.Frag) (cs : List Str) : Prop := ∀ c ∈ cs, PySem.W.findIn K (.ref (He.ga K c)) "__str__" = some (some (.builtin "BaseException.__str__")) ∧ PySem.W.subIn K (.ref (He.ga K c)) (.type "BaseException") = some true
def rStrB (K : PySem.W.Frag) : List V → Hp → VK → Prop := fun xs H Q => ∃ (a D t : Addr) (x : Str), xs = [.ref a] ∧ H a = some (ExB a (.ref D) t) ∧ H t = some (.tup [.str x]) ∧ PySem.W.findIn K (.ref D) "__str__" = some (some (.builtin "BaseException.__str__")) ∧ PySem.W.subIn K (.ref D) (.type "BaseException") = some true ∧ Q (.str x) H
section
variable {X : Cx} {W : WX} {e : Expr} {f1 : Rho → R Dt} {pos p p2 : Pos}
theorem call_strB (hu : X.A.units + 64 < cLine) : CallR X (.type "str") (rStrB X.K) := by
  intro pins s σ H xs us Q I r h
  obtain ⟨a, D, t, x, rfl, ha, ht, hs, hb, q⟩ := h
  cases r with
  | cons r1 r2 =>
    cases r2
    cases r1
    obtain ⟨⟨oe, vs, get, z, data, h0⟩, _⟩ := I.hok a _ ha
    obtain ⟨_, its, rv, o, h1, h2, n, h3⟩ := (show ObjOk X.prog X.w H s.heap t (.tup [.str x]) from I.hok t _ ht)
    cases rv with
    | cons rv rn =>
      cases rn
      obtain ⟨tk, rfl⟩ := rv
      exact PySem.P.str_of_C_one (by omega) ⟨I.kIn, oe, vs, get, z.1, data, h0⟩ ⟨o, _, h1, h2, h3⟩ hs hb ⟨.str x, H, I, ⟨tk, rfl⟩, q⟩
theorem de_strX {cs : List Str} (T : StOk X.K cs) (hu : X.A.units + 64 < cLine) (hg : Gl X "str") (hm : X.mg "str" = none) (ha : DK X W e f1)
    (he : starEach (e :: []) X.env = (false, eval e X.env) :: starEach [] X.env := by rfl) (hpl : (backTo pos (starEach [] X.env)).any (·.1) = false := by rfl) :
    DE X W (.Call (.Name "str" p) [e] [] pos) (un (strX cs) f1) := fun F =>
  PE.wk (pe_callTy (call_strB hu) hg hm (by decide +kernel) (pa_cons (ha F) pa_nil he) (he := he) (hpl := hpl)) fun σ H Q h =>
    tUn_un (r := fun x H Q => rStrB X.K [x] H Q) (fun x d z H0 H s hx hg Q k => by
      unfold strX at hg
      split at hg
      · rename_i c f y
        split at hg
        · rename_i hc
          cases hg
          obtain ⟨t1, t2⟩ := T c hc.1
          have hx : Da X.K H0 x (.xo c f (.str y)) := hx
          cases hx with
          | xo h0 h1 h2 h3 => exact absurd hc.2 h0
          | xb h1 h2 => exact ⟨_, _, _, y, rfl, s _ _ h1, s _ _ h2, t1, t2, sc s (.str y) k⟩
        · cases hg
      · cases hg) h
end
/-! ### class facts, one by one -/
section
variable {K : PySem.W.Frag}
theorem kbo_nil {T : String} : KbOne K (mtL []) T := fun c b h => by
  unfold mtL at h
  cases h
theorem kbo_cons {T : String} {l : List (Str × Bool)} {c : Str} {b : Bool} (h1 : xcB K (He.ga K c) = true) (h2 : PySem.W.kitOne K (.ref (He.ga K c)) (.type T) = some b) (h : KbOne K (mtL l) T) : KbOne K (mtL ((c, b) :: l)) T := fun y b' hy => by
  unfold mtL at hy
  rw [List.lookup_cons] at hy
  split at hy
  · rename_i e
    have e2 : y = c := by simpa using e
    subst e2
    cases hy
    exact ⟨xcB_ok h1, h2⟩
  · exact h y b' hy
theorem kbt_nil {Ts : List String} : KbOk K (mtL []) Ts := fun c b h => by
  unfold mtL at h
  cases h
theorem kbt_cons {Ts : List String} {l : List (Str × Bool)} {c : Str} {b : Bool} (h1 : xcB K (He.ga K c) = true) (h2 : PySem.W.kitAny K (.ref (He.ga K c)) (Ts.map Value.type) = some b) (h : KbOk K (mtL l) Ts) : KbOk K (mtL ((c, b) :: l)) Ts := fun y b' hy => by
  unfold mtL at hy
  rw [List.lookup_cons] at hy
  split at hy
  · rename_i e
    have e2 : y = c := by simpa using e
    subst e2
    cases hy
    exact ⟨xcB_ok h1, h2⟩
  · exact h y b' hy
def exC (xs cn : List Str) (kit : List (Str × Str × Bool)) (kb : List (Str × String × Bool)) (kt : List (Str × List String × Bool)) (K : PySem.W.Frag) : Bool :=
  (K.lookup sysModules).isSome && (xs.all (fun c => xcB K (He.ga K c)) && (cn.all (fun c => He.eqO (PySem.W.nsIn K mainGlobals c) (some (some (.ref (He.ga K c))))) && (kit.all (fun p => decide (PySem.W.kitOne K (.ref (He.ga K p.1)) (.ref (He.ga K p.2.1)) = some p.2.2)) && (kb.all (fun p => decide (PySem.W.kitOne K (.ref (He.ga K p.1)) (.type p.2.1) = some p.2.2)) && kt.all (fun p => decide (PySem.W.kitAny K (.ref (He.ga K p.1)) (p.2.1.map Value.type) = some p.2.2))))))
structure ExC (xs cn : List Str) (kit : List (Str × Str × Bool)) (kb : List (Str × String × Bool)) (kt : List (Str × List String × Bool)) (K : PySem.W.Frag) : Prop where
  sys : (K.lookup sysModules).isSome = true
  xc : ∀ c ∈ xs, xcB K (He.ga K c) = true
  cn : ∀ c ∈ cn, PySem.W.nsIn K mainGlobals c = some (some (.ref (He.ga K c)))
  kit : ∀ p ∈ kit, PySem.W.kitOne K (.ref (He.ga K p.1)) (.ref (He.ga K p.2.1)) = some p.2.2
  kb : ∀ p ∈ kb, PySem.W.kitOne K (.ref (He.ga K p.1)) (.type p.2.1) = some p.2.2
  kt : ∀ p ∈ kt, PySem.W.kitAny K (.ref (He.ga K p.1)) (p.2.1.map Value.type) = some p.2.2
theorem exC_ok {xs cn : List Str} {kit : List (Str × Str × Bool)} {kb : List (Str × String × Bool)} {kt : List (Str × List String × Bool)} (h : exC xs cn kit kb kt K = true) : ExC xs cn kit kb kt K := by
  unfold exC at h
  simp only [Bool.and_eq_true, List.all_eq_true, decide_eq_true_eq] at h
  obtain ⟨h0, h2, h3, h4, h5, h6⟩ := h
  exact ⟨h0, h2, fun c hc => He.eqO_ok (h3 c hc), h4, h5, h6⟩
end
end DW

set_option Elab.async false
set_option linter.all false
set_option maxRecDepth 100000
set_option maxHeartbeats 4000000
/-! DWTB: a table of the module with text keys, never changed: `x in T`, `T[x]` -/
namespace DW
open PySem PySem.Spec PyProof.Rows L2
theorem ix_kd {X : Cx} {d : Addr} {es : Array DictEntry} {n : Nat} (D : KDict X.K X.w d es n) : IxR X (fun x y H Q => ∃ (z : Str) (u0 : Value) (v0 : V), x = .ref d ∧ y = .str z ∧ PySem.W.nsIn X.K d z = some (some u0) ∧ RelV v0 u0 ∧ Q v0 H) := by
  intro value slice pins s σ H x y v u Q I rx ry h hs
  obtain ⟨z, u0, v0, rfl, rfl, e, r, q⟩ := h
  cases rx
  obtain ⟨t, rfl⟩ := ry
  exact subscriptTail_builtinR (x := u0) (kd_type D I) slot_dict_getitem.lookup
    (wpAny_getItem_of (Q := fun r s' => r = u0 ∧ EP X pins σ Q r s') (PySem.strKind_is X.prog X.w z t) (PySem.W.mapOf_K (prog := X.prog) I.kIn D.at_ D.lit) (PySem.W.find_K D.at_ e) ⟨rfl, v0, H, I.tok _, r, q⟩) hs
/-- the table nm: what stands at each key, what is no key -/
def Tbl (K : PySem.W.Frag) (w : World) (mg : Str → Option Value) (nm : Str) (ks : List (Str × Dt)) (no : List Str) : Prop :=
  ∃ (d : Addr) (es : Array DictEntry) (n : Nat), mg nm = some (.ref d) ∧ KDict K w d es n ∧ (∀ p ∈ ks, ∃ u v, PySem.W.nsIn K d p.1 = some (some u) ∧ RelV v u ∧ ∀ H, Da K H v p.2) ∧ ∀ s ∈ no, PySem.W.nsIn K d s = some none
def inTb (ks : List (Str × Dt)) (no : List Str) : Dt → Option Dt
  | .str s => if s ∈ ks.map (·.1) then some (.bl true) else if s ∈ no then some (.bl false) else none
  | _ => none
def itTb (ks : List (Str × Dt)) : Dt → Option Dt
  | .str s => ks.lookup s
  | _ => none
theorem lookup_mem {ks : List (Str × Dt)} {s : Str} {d : Dt} (h : ks.lookup s = some d) : (s, d) ∈ ks := by
  induction ks with
  | nil => cases h
  | cons p ks ih =>
    obtain ⟨k, e⟩ := p
    rw [List.lookup_cons] at h
    split at h
    · rename_i hk
      cases h
      have : s = k := by simpa using hk
      rw [this]
      exact List.mem_cons_self ..
    · exact List.mem_cons_of_mem _ (ih h)
section
variable {X : Cx} {W : WX} {nm : Str} {ks : List (Str × Dt)} {no : List Str} {a : Expr} {p pos : Pos} {f1 : Rho → R Dt}
theorem pe_tab {d : Addr} (hg : Gl X nm) (hm : X.mg nm = some (.ref d)) (hd : (nm == ("__debug__" : Str)) = false := by decide) : PE X (.Name nm p) (fun σ H Q => Q (.ref d) H) :=
  ⟨fun pins s σ H Q I h => ld_glob I hg hm ⟨.ref d, H, I, rfl, h⟩ hd⟩
theorem und_in {K : PySem.W.Frag} {d : Addr} (h1 : ∀ p ∈ ks, ∃ u v, PySem.W.nsIn K d p.1 = some (some u) ∧ RelV v u ∧ ∀ H, Da K H v p.2) (h2 : ∀ s ∈ no, PySem.W.nsIn K d s = some none) :
    UnD K (fun x H Q => ∃ (z : Str) (r : Option Value), x = .str z ∧ V.ref d = .ref d ∧ PySem.W.nsIn K d z = some r ∧ Q (.bl r.isSome) H) (inTb ks no) := by
  intro x dd z H0 H s hx hg Q k
  unfold inTb at hg
  split at hg
  · rename_i t
    cases hx
    split at hg
    · rename_i hm
      cases hg
      obtain ⟨q, hq, rfl⟩ := List.mem_map.mp hm
      obtain ⟨u, v, e, _⟩ := h1 q hq
      exact ⟨_, _, rfl, rfl, e, sc s (.bl _) k⟩
    · split at hg
      · rename_i hn
        cases hg
        exact ⟨_, _, rfl, rfl, h2 _ hn, sc s (.bl _) k⟩
      · cases hg
  · cases hg
theorem de_inT (T : Tbl X.K X.w X.mg nm ks no) (hg : Gl X nm) (ha : DK X W a f1) (hm : behindInMarks .In (.Name nm p) = false := by rfl) (hd : (nm == ("__debug__" : Str)) = false := by decide) : DE X W (.Compare a [.In] [.Name nm p] pos) (un (inTb ks no) f1) := fun F => by
  obtain ⟨d, es, n, h0, D, h1, h2⟩ := T
  exact PE.wk (pe_cmpR (op_in_kd D) (ha F) (pe_tab hg h0 hd) hm) fun σ H Q h => tUn_un (und_in h1 h2) h
theorem dt_inT (T : Tbl X.K X.w X.mg nm ks no) (hg : Gl X nm) (ha : DK X W a f1) (hm : behindInMarks .In (.Name nm p) = false := by rfl) (hd : (nm == ("__debug__" : Str)) = false := by decide) : DT X W (.Compare a [.In] [.Name nm p] pos) (tstF (un (inTb ks no) f1)) := fun F => by
  obtain ⟨d, es, n, h0, D, h1, h2⟩ := T
  exact PT.wk (pt_cmpR (op_in_kd D) (ha F) (pe_tab hg h0 hd) hm) fun σ H Q h => tUn_un (und_in h1 h2) (tTest_of h)
theorem de_itT (T : Tbl X.K X.w X.mg nm ks no) (hg : Gl X nm) (ha : DK X W a f1) (hs : PlainIx a) (hd : (nm == ("__debug__" : Str)) = false := by decide) : DE X W (.Subscript (.Name nm p) a pos) (un (itTb ks) f1) := fun F => by
  obtain ⟨d, es, n, h0, D, h1, h2⟩ := T
  refine PE.wk (pe_ix (ix_kd D) (pe_tab hg h0 hd) (ha F) hs) fun σ H Q h => tUn_un (r := fun y H Q => ∃ (z : Str) (u0 : Value) (v0 : V), V.ref d = .ref d ∧ y = .str z ∧ PySem.W.nsIn X.K d z = some (some u0) ∧ RelV v0 u0 ∧ Q v0 H) (fun x dd z H0 H s hx hgg Q k => ?_) h
  unfold itTb at hgg
  split at hgg
  · rename_i t
    cases hx
    obtain ⟨u, v, e, r, hv⟩ := h1 _ (lookup_mem hgg)
    exact ⟨_, u, v, rfl, rfl, e, r, sc s (hv _) k⟩
  · cases hgg
end
/-! ### seen at the head -/
def tup2B (K : PySem.W.Frag) (u : Value) (lo hi : Int) : Bool := match u with
  | .ref t => (match K.lookup t with
    | some ⟨.type c, _, .seq its _, _⟩ => (match its.toList with
      | [.int a _, .int b _] => decide (c = "tuple") && (decide (a = lo) && decide (b = hi))
      | _ => false)
    | _ => false)
  | _ => false
theorem tup2B_ok {K : PySem.W.Frag} {u : Value} {lo hi : Int} (h : tup2B K u lo hi = true) : ∃ v, RelV v u ∧ ∀ H, Da K H v (.tup [.int lo, .int hi]) := by
  unfold tup2B at h
  split at h
  · rename_i t
    split at h
    · rename_i c dct its n sl e
      split at h
      · rename_i a ta b tb el
        rw [Bool.and_eq_true, Bool.and_eq_true, decide_eq_true_eq, decide_eq_true_eq, decide_eq_true_eq] at h
        obtain ⟨rfl, rfl, rfl⟩ := h
        refine ⟨.ref t, rfl, fun H => .tup (xs := [.int a, .int b]) (.inr ⟨_, its, n, e, rfl, rfl, ?_, ?_⟩) (.cons (.int _) (.cons (.int _) .nil))⟩
        · have : its.size = 2 := by rw [← Array.length_toList, el]; rfl
          rw [this]
          decide
        · rw [el]
          exact .cons ⟨_, rfl⟩ (.cons ⟨_, rfl⟩ .nil)
      · cases h
    · cases h
  · cases h
abbrev Row2 : Type := Str × Int × Int
abbrev row2D (r : Row2) : Str × Dt := (r.1, .tup [.int r.2.1, .int r.2.2])
def tabB (nm : Str) (ks : List Row2) (no : List Str) (K : PySem.W.Frag) : Bool :=
  He.eqO (PySem.W.nsIn K mainGlobals nm) (some (some (.ref (He.ga K nm)))) && (ks.all (fun r => match PySem.W.nsIn K (He.ga K nm) r.1 with
    | some (some u) => tup2B K u r.2.1 r.2.2
    | _ => false) && no.all fun s => He.eqO (PySem.W.nsIn K (He.ga K nm) s) (some none))
theorem tabB_ok {K : PySem.W.Frag} {w : World} {h : Heap} {mg : Str → Option Value} {nm : Str} {ks : List Row2} {no : List Str} (X : K.In h) (G : h.Ns mainGlobals mg) (D : ∃ es n, KDict K w (He.ga K nm) es n) (hb : tabB nm ks no K = true) : Tbl K w mg nm (ks.map row2D) no := by
  unfold tabB at hb
  rw [Bool.and_eq_true, Bool.and_eq_true, List.all_eq_true, List.all_eq_true] at hb
  obtain ⟨h1, h2, h3⟩ := hb
  obtain ⟨es, n, D⟩ := D
  refine ⟨He.ga K nm, es, n, PySem.W.mg_of X G (He.eqO_ok h1), D, fun p hp => ?_, fun s hs => He.eqO_ok (h3 s hs)⟩
  obtain ⟨r, hr, rfl⟩ := List.mem_map.mp hp
  have := h2 r hr
  split at this
  · rename_i u e
    obtain ⟨v, hv, hd⟩ := tup2B_ok this
    exact ⟨u, v, e, hv, hd⟩
  · cases this
end DW

set_option Elab.async false
set_option linter.all false
set_option maxRecDepth 100000
set_option maxHeartbeats 4000000
/-! P1: reckoning with data functions: one rule each, and rules of loops -/
namespace PL
open PySem DW
open L2 (Key)
section
variable {ρ ρ1 ρ2 ρ3 : Rho} {d e z w : Dt} {f1 f2 f3 : Rho → R Dt} {b c : Bool} {cd c1 c2 : Rho → R Bool} {i : Nat} {r : SR} {s t : Rho → SR} {fa : Rho → R (List Dt)} {ds : List Dt}
theorem e_un {g : Dt → Option Dt} (h1 : f1 ρ = .ok d ρ1) (h2 : g d = some z) : un g f1 ρ = .ok z ρ1 := by simp only [un, h1, R.bind, h2]
theorem e_bin {g : Dt → Dt → Option Dt} (h1 : f1 ρ = .ok d ρ1) (h2 : f2 ρ1 = .ok e ρ2) (h3 : g d e = some z) : bin g f1 f2 ρ = .ok z ρ2 := by simp only [bin, h1, h2, R.bind, h3]
theorem e_binP {g : Dt → Dt → Option Dt} {d0 : Dt} (h0 : pk i ρ = some d0) (h2 : f2 ρ = .ok e ρ1) (h1 : pk i ρ1 = some d) (h3 : g d e = some z) : binP g i f2 ρ = .ok z ρ1 := by simp only [binP, h0, h1, h2, R.bind, h3]
theorem e_tst (h1 : f1 ρ = .ok (.bl b) ρ1) : tstF f1 ρ = .ok b ρ1 := by simp only [tstF, h1, R.bind]
theorem e_tru (h1 : f1 ρ = .ok d ρ1) (h2 : truD d = some b) : truF f1 ρ = .ok b ρ1 := by simp only [truF, h1, R.bind, h2]
theorem e_not (h1 : cd ρ = .ok b ρ1) : notT cd ρ = .ok (!b) ρ1 := by simp only [notT, h1, R.bind]
theorem e_andT (h1 : c1 ρ = .ok true ρ1) (h2 : c2 ρ1 = .ok b ρ2) : andT c1 c2 ρ = .ok b ρ2 := by simp only [andT, h1, R.bind, h2, if_true]
theorem e_andF (h1 : c1 ρ = .ok false ρ1) : andT c1 c2 ρ = .ok false ρ1 := by simp only [andT, h1, R.bind]; rfl
theorem e_orT (h1 : c1 ρ = .ok true ρ1) : orT c1 c2 ρ = .ok true ρ1 := by simp only [orT, h1, R.bind]; rfl
theorem e_orF (h1 : c1 ρ = .ok false ρ1) (h2 : c2 ρ1 = .ok b ρ2) : orT c1 c2 ρ = .ok b ρ2 := by simp only [orT, h1, R.bind, h2]; rfl
theorem e_andVT (h1 : f1 ρ = .ok (.bl true) ρ1) (h2 : f2 ρ1 = .ok d ρ2) : andV f1 f2 ρ = .ok d ρ2 := by simp only [andV, h1, R.bind, h2]; rfl
theorem e_andVF (h1 : f1 ρ = .ok (.bl false) ρ1) : andV f1 f2 ρ = .ok (.bl false) ρ1 := by simp only [andV, h1, R.bind]; rfl
theorem e_orVT (h1 : f1 ρ = .ok (.bl true) ρ1) : orV f1 f2 ρ = .ok (.bl true) ρ1 := by simp only [orV, h1, R.bind]; rfl
theorem e_orVF (h1 : f1 ρ = .ok (.bl false) ρ1) (h2 : f2 ρ1 = .ok d ρ2) : orV f1 f2 ρ = .ok d ρ2 := by simp only [orV, h1, R.bind, h2]; rfl
theorem e_ifET (h1 : cd ρ = .ok true ρ1) (h2 : f1 ρ1 = .ok d ρ2) : ifE cd f1 f2 ρ = .ok d ρ2 := by simp only [ifE, h1, R.bind, h2]; rfl
theorem e_ifEF (h1 : cd ρ = .ok false ρ1) (h2 : f2 ρ1 = .ok d ρ2) : ifE cd f1 f2 ρ = .ok d ρ2 := by simp only [ifE, h1, R.bind, h2]; rfl
theorem e_chT {g1 g2 : Dt → Dt → Option Dt} {x y : Dt} (h1 : f1 ρ = .ok x ρ1) (h2 : f2 ρ1 = .ok y ρ2) (h3 : g1 x y = some (.bl true)) (h4 : f3 ρ2 = .ok z ρ3) (h5 : g2 y z = some w) : chainD g1 g2 f1 f2 f3 ρ = .ok w ρ3 := by simp only [chainD, h1, h2, h3, h4, h5, R.bind]
theorem e_chF {g1 g2 : Dt → Dt → Option Dt} {x y : Dt} (h1 : f1 ρ = .ok x ρ1) (h2 : f2 ρ1 = .ok y ρ2) (h3 : g1 x y = some (.bl false)) : chainD g1 g2 f1 f2 f3 ρ = .ok (.bl false) ρ2 := by simp only [chainD, h1, h2, h3, R.bind]
theorem e_cons (h1 : f1 ρ = .ok d ρ1) (h2 : fa ρ1 = .ok ds ρ2) : consA f1 fa ρ = .ok (d :: ds) ρ2 := by simp only [consA, h1, h2, R.bind]
theorem e_tup (h1 : fa ρ = .ok ds ρ1) (h2 : ds.length ≤ 1000000) : tupD fa ρ = .ok (.tup ds) ρ1 := by simp only [tupD, h1, R.bind, if_pos h2]
theorem e_lst (h1 : fa ρ = .ok ds ρ1) (h2 : ds.length ≤ 1000000) : lstD fa ρ = .ok (.lst ds) ρ1 := by simp only [lstD, h1, R.bind, if_pos h2]
theorem e_lstO (h1 : fa ρ = .ok ds ρ1) (h2 : ds.length ≤ 1000000) : lstO fa ρ = .ok (.ol ds) ρ1 := by simp only [lstO, h1, R.bind, if_pos h2]
theorem e_frO (h1 : f1 ρ = .ok d ρ1) : frO f1 ρ = .ok (.fr d) ρ1 := by simp only [frO, h1, R.bind]
theorem e_cb {g : List Dt → Option Dt} (h1 : fa ρ = .ok ds ρ1) (h2 : g ds = some z) : cb g fa ρ = .ok z ρ1 := by simp only [cb, h1, R.bind, h2]
theorem e_callF {fn : Fn} (h1 : fa ρ = .ok ds ρ1) (h2 : fn ds = .ok (.fr d)) : callF fn fa ρ = .ok d ρ1 := by simp only [callF, h1, R.bind, h2]
theorem e_callO {fn : Fn} {sl : Sl} (h1 : fa ρ = .ok ds ρ1) (h2 : fn ds = .ok sl) (hw : ∀ v F, sl ≠ .raw v F := by intro _ _ z; cases z) : callO fn fa ρ = .ok sl ρ1 := by
  cases sl with
  | raw v F => exact absurd rfl (hw v F)
  | _ => simp only [callO, h1, R.bind, h2]
theorem e_callM {fn : FnM} {k0 k1 k2 : List (Key × Dt)} (h0 : dAt i ρ = some k0) (h1 : fa ρ = .ok ds ρ1) (h2 : dAt i ρ1 = some k1) (h3 : fn k1 ds = .ok (.fr d) k2) (h4 : dPut i k2 ρ1 = ρ2) : callM fn i fa ρ = .ok d ρ2 := by simp only [callM, h0, h1, R.bind, h2, h3, h4]
theorem e_callMO {fn : FnM} {fo : Rho → R Sl} {k1 k2 : List (Key × Dt)} (h0 : fo ρ = .ok (.od k1) ρ1) (h1 : fa ρ1 = .ok ds ρ2) (h3 : fn k1 ds = .ok (.fr d) k2) : callMO fn fo fa ρ = .ok d ρ2 := by simp only [callMO, h0, h1, R.bind, h3]
theorem e_frz {fo : Rho → R Sl} {sl : Sl} (h1 : fo ρ = .ok sl ρ1) (h2 : toD sl = some d) : frzR fo ρ = .ok d ρ1 := by simp only [frzR, h1, R.bind, h2]
theorem e_sl3 {fl fh : Rho → R (Option Int)} {lo hi : Option Int} (h1 : f1 ρ = .ok d ρ1) (h2 : fl ρ1 = .ok lo ρ2) (h3 : fh ρ2 = .ok hi ρ3) (h4 : slD d lo hi = some z) : sl3 f1 fl fh ρ = .ok z ρ3 := by simp only [sl3, h1, h2, h3, h4, R.bind]
theorem e_someP {k : Int} (h1 : f1 ρ = .ok (.int k) ρ1) : someP f1 ρ = .ok (some k) ρ1 := by simp only [someP, h1, R.bind]
theorem e_itF (h1 : f1 ρ = .ok d ρ1) (h2 : itD d = some ds) : itF f1 ρ = .ok ds ρ1 := by simp only [itF, h1, R.bind, h2]
theorem e_rngF {g : List Dt → Option (List Dt)} {es : List Dt} (h1 : fa ρ = .ok ds ρ1) (h2 : g ds = some es) : rngF g fa ρ = .ok es ρ1 := by simp only [rngF, h1, R.bind, h2]
-- statements
theorem e_seq (h1 : s ρ = .nx ρ1) (h2 : t ρ1 = r) : seqS s t ρ = r := by simp only [seqS, h1, h2]
theorem e_seqR {sl : Sl} (h1 : s ρ = .rt sl ρ1) : seqS s t ρ = .rt sl ρ1 := by simp only [seqS, h1]
theorem e_set (h1 : f1 ρ = .ok d ρ1) (h2 : putR i (.fr d) ρ1 = some ρ2) : setS i f1 ρ = .nx ρ2 := by simp only [setS, h1, R.bindS, h2, nxO]
theorem e_setO {fo : Rho → R Sl} {sl : Sl} (h1 : fo ρ = .ok sl ρ1) (h0 : ∀ k, sl ≠ .io k) (h2 : putR i sl ρ1 = some ρ2) : setOS i fo ρ = .nx ρ2 := by
  simp only [setOS, h1, R.bindS]
  cases sl with
  | io k => exact absurd rfl (h0 k)
  | _ => simp only [h2, nxO]
theorem e_ret (h1 : f1 ρ = .ok d ρ1) : retS f1 ρ = .rt (.fr d) ρ1 := by simp only [retS, h1, R.bindS]
theorem e_retO {fo : Rho → R Sl} {sl : Sl} (h1 : fo ρ = .ok sl ρ1) : retOS fo ρ = .rt sl ρ1 := by simp only [retOS, h1, R.bindS]
theorem e_expr (h1 : f1 ρ = .ok d ρ1) : exprS f1 ρ = .nx ρ1 := by simp only [exprS, h1, R.bindS]
theorem e_ifT (h1 : cd ρ = .ok b ρ1) (hb : b = true) (h2 : s ρ1 = r) : ifS cd s t ρ = r := by subst hb; simp only [ifS, h1, R.bindS, h2, if_true]
theorem e_ifF (h1 : cd ρ = .ok b ρ1) (hb : b = false) (h2 : t ρ1 = r) : ifS cd s t ρ = r := by subst hb; simp only [ifS, h1, R.bindS, h2]; rfl
theorem e_asg {tg : Dt → Rho → Option Rho} (h1 : f1 ρ = .ok d ρ1) (h2 : tg d ρ1 = some ρ2) : asgS tg f1 ρ = .nx ρ2 := by simp only [asgS, h1, R.bindS, h2, nxO]
theorem e_argsP {fo : Rho → R Sl} {fs : List (Rho → R Sl)} {sl : Sl} {ss : List Sl} (h1 : fo ρ = .ok sl ρ1) (h3 : notIo sl = true) (h2 : argsP fs ρ1 = .ok ss ρ2) : argsP (fo :: fs) ρ = .ok (sl :: ss) ρ2 := by simp only [argsP, h1, h2, R.bind, h3, if_true]
theorem e_par {fs : List (Rho → R Sl)} {is : List Nat} {ss : List Sl} (h1 : argsP fs ρ = .ok ss ρ1) (h2 : putP is ss ρ1 = some ρ2) : parP is fs ρ = .nx ρ2 := by simp only [parP, h1, R.bindS, h2, nxO]
theorem e_app {xs0 xs : List Dt} (h0 : lAt i ρ = some xs0) (h1 : f1 ρ = .ok d ρ1) (h2 : lAt i ρ1 = some xs) (h3 : xs.length < 1000000) (h4 : ρ1.set i (some (.ol (xs ++ [d]))) = ρ2) : appS i f1 ρ = .nx ρ2 := by simp only [appS, h0, h1, R.bindS, h2, if_pos h3, h4]
theorem e_dput {fk fv : Rho → R Dt} {k0 k1 : List (Key × Dt)} {k : Dt} {key : Key} (h1 : fv ρ = .ok d ρ1) (h0 : dAt i ρ1 = some k0) (h2 : fk ρ1 = .ok k ρ2) (h3 : keyD k = some key) (h4 : dAt i ρ2 = some k1) (h5 : k1.length < 1000000) (h6 : dPut i (putKD k1 key d) ρ2 = ρ3) : dputS i fk fv ρ = .nx ρ3 := by
  simp only [dputS, h1, h0, h2, h3, h4, R.bindS, if_pos h5, h6]
theorem e_for {it : Rho → R (List Dt)} {tg : Dt → Rho → Option Rho} (h1 : it ρ = .ok ds ρ1) (h2 : forL tg s ds ρ1 = r) : forS it tg s ρ = r := by simp only [forS, h1, R.bindS, h2]
theorem m_runF {np nn : Nat} {body : Rho → SR} {sl : Sl} (hl : ds.length = np) (h : body (envOf nn ds) = .rt sl ρ1) : runF np nn body ds = .ok sl := by simp only [runF, if_pos hl, h]
theorem m_runM {np nn : Nat} {body : Rho → SR} {sl : Sl} {kvs kvs' : List (Key × Dt)} (hl : ds.length + 1 = np) (h : body (envM nn kvs ds) = .rt sl ρ1) (h2 : ioOf ρ1 = some kvs') : runM np nn body kvs ds = .ok sl kvs' := by simp only [runM, if_pos hl, h, h2]
-- loops
theorem wh_inv {bd : Rho → SR} {P : Rho → Prop} (I : Nat → Rho → Prop)
    (hs : ∀ k ρ, I k ρ → (∃ ρ1, cd ρ = .ok false ρ1 ∧ P ρ1) ∨ ∃ k' ρ1 ρ2, k' < k ∧ cd ρ = .ok true ρ1 ∧ bd ρ1 = .nx ρ2 ∧ I k' ρ2) : ∀ n k ρ, I k ρ → k < n → ∃ ρ', whS cd bd n ρ = .nx ρ' ∧ P ρ'
  | 0, k, ρ, _, h => absurd h (Nat.not_lt_zero _)
  | n + 1, k, ρ, hI, h => by
    rcases hs k ρ hI with ⟨ρ1, h1, h2⟩ | ⟨k', ρ1, ρ2, hk, h1, h2, h3⟩
    · exact ⟨ρ1, by simp only [whS, h1, R.bindS]; rfl, h2⟩
    · obtain ⟨ρ', q1, q2⟩ := wh_inv I hs n k' ρ2 h3 (by omega)
      exact ⟨ρ', by simp only [whS, h1, R.bindS, h2, if_true]; exact q1, q2⟩
theorem for_inv {bd : Rho → SR} {tg : Dt → Rho → Option Rho} (I : Nat → Rho → Prop) : ∀ (ds : List Dt) (j : Nat) (ρ : Rho), (∀ i d ρ, ds[i]? = some d → I (j + i) ρ → ∃ ρ1 ρ2, tg d ρ = some ρ1 ∧ bd ρ1 = .nx ρ2 ∧ I (j + i + 1) ρ2) → I j ρ → ∃ ρ', forL tg bd ds ρ = .nx ρ' ∧ I (j + ds.length) ρ'
  | [], j, ρ, _, h => ⟨ρ, rfl, h⟩
  | d :: ds, j, ρ, hs, h => by
    obtain ⟨ρ1, ρ2, h1, h2, h3⟩ := hs 0 d ρ rfl h
    obtain ⟨ρ', q1, q2⟩ := for_inv I ds (j + 1) ρ2 (fun i d ρ hd hI => by
      have := hs (i + 1) d ρ (by simpa using hd) (by rw [show j + (i + 1) = j + 1 + i by omega]; exact hI)
      rwa [show j + (i + 1) + 1 = j + 1 + i + 1 by omega] at this) h3
    refine ⟨ρ', by simp only [forL, h1, h2]; exact q1, ?_⟩
    rw [List.length_cons, show j + (ds.length + 1) = j + 1 + ds.length by omega]
    exact q2
-- operations
theorem o_mod {a b : Int} (h : 0 < b) : modD (.int a) (.int b) = some (.int (a % b)) := if_pos h
theorem log2_lt63 {b : Int} (h0 : 0 < b) (h1 : b < 2 ^ 8000) : b.natAbs.log2 < 9000 := by
  have hn : b.natAbs ≠ 0 := by omega
  refine Nat.lt_of_lt_of_le ((Nat.log2_lt (k := 8000) hn).mpr ?_) (by decide)
  generalize hp : (2 : Int) ^ 8000 = p at h1
  have : ((2 ^ 8000 : Nat) : Int) = p := by rw [← hp]; exact Int.natCast_pow 2 8000
  omega
theorem o_fdiv' {a b : Int} (h : 0 < b) (h1 : b < 2 ^ 8000) : fdivD (.int a) (.int b) = some (.int (a / b)) := if_pos ⟨h, log2_lt63 h h1⟩
theorem o_fdiv {a b : Int} (h : 0 < b) (h1 : b < 2 ^ 63) : fdivD (.int a) (.int b) = some (.int (a / b)) := by
  refine if_pos ⟨h, ?_⟩
  have hn : b.natAbs ≠ 0 := by omega
  exact Nat.lt_of_lt_of_le ((Nat.log2_lt (k := 63) hn).mpr (by omega)) (by decide)
theorem o_mulL {a b : Int} (h : -(2 ^ 63) < a) (h1 : a < 2 ^ 63) : mulD (.int a) (.int b) = some (.int (a * b)) := if_pos (by
  unfold mulOk
  have : a.natAbs < 2 ^ 64 := by omega
  simp [this])
theorem o_mulR {a b : Int} (h : -(2 ^ 63) < b) (h1 : b < 2 ^ 63) : mulD (.int a) (.int b) = some (.int (a * b)) := if_pos (by
  unfold mulOk
  have : b.natAbs < 2 ^ 64 := by omega
  simp [this])
end
/-! ### what a statement comes to -/
def WpB (Pn : Rho → Prop) (Pr : Sl → Rho → Prop) : SR → Prop
  | .nx ρ => Pn ρ
  | .rt s ρ => Pr s ρ
  | _ => False
structure Wp (Pn : Rho → Prop) (Pr : Sl → Rho → Prop) (r : SR) : Prop where
  out : WpB Pn Pr r
section
variable {ρ ρ1 ρ2 ρ3 : Rho} {d e z w : Dt} {f1 f2 f3 : Rho → R Dt} {b c : Bool} {cd c1 c2 : Rho → R Bool} {i n : Nat} {s t bd : Rho → SR} {fa : Rho → R (List Dt)} {ds : List Dt} {Pn : Rho → Prop} {Pr : Sl → Rho → Prop}
theorem w_nx (h : s ρ = .nx ρ1) (k : Pn ρ1) : Wp Pn Pr (s ρ) := by rw [h]; exact ⟨k⟩
theorem w_seq (h : Wp (fun ρ1 => Wp Pn Pr (t ρ1)) Pr (s ρ)) : Wp Pn Pr (seqS s t ρ) := by
  unfold seqS
  obtain ⟨h⟩ := h
  revert h
  cases s ρ with
  | nx _ => exact fun h => h
  | _ => exact fun h => ⟨h⟩
theorem w_step (h : s ρ = .nx ρ1) (k : Wp Pn Pr (t ρ1)) : Wp Pn Pr (seqS s t ρ) := w_seq (w_nx h k)
theorem w_ret (h : f1 ρ = .ok d ρ1) (k : Pr (.fr d) ρ1) : Wp Pn Pr (retS f1 ρ) := by rw [e_ret h]; exact ⟨k⟩
theorem w_ifT (h1 : cd ρ = .ok b ρ1) (hb : b = true) (h2 : Wp Pn Pr (s ρ1)) : Wp Pn Pr (ifS cd s t ρ) := by rw [e_ifT h1 hb rfl]; exact h2
theorem w_ifF (h1 : cd ρ = .ok b ρ1) (hb : b = false) (h2 : Wp Pn Pr (t ρ1)) : Wp Pn Pr (ifS cd s t ρ) := by rw [e_ifF h1 hb rfl]; exact h2
theorem w_if (h1 : cd ρ = .ok b ρ1) (ht : b = true → Wp Pn Pr (s ρ1)) (hf : b = false → Wp Pn Pr (t ρ1)) : Wp Pn Pr (ifS cd s t ρ) := by
  cases b
  · exact w_ifF h1 rfl (hf rfl)
  · exact w_ifT h1 rfl (ht rfl)
theorem w_wh (I : Nat → Rho → Prop) {k0 : Nat} (h0 : I k0 ρ) (hk : k0 < n)
    (hs : ∀ k ρ, I k ρ → (∃ ρ1, cd ρ = .ok false ρ1 ∧ Pn ρ1) ∨ ∃ ρ1, cd ρ = .ok true ρ1 ∧ Wp (fun ρ2 => ∃ k', k' < k ∧ I k' ρ2) Pr (bd ρ1)) : Wp Pn Pr (whS cd bd n ρ) := by
  induction n generalizing ρ k0 with
  | zero => exact absurd hk (Nat.not_lt_zero _)
  | succ n ih =>
    rcases hs k0 ρ h0 with ⟨ρ1, h1, h2⟩ | ⟨ρ1, h1, h2⟩
    · simp only [whS, h1, R.bindS]
      exact ⟨h2⟩
    · simp only [whS, h1, R.bindS, if_true]
      cases e : bd ρ1 with
      | nx ρ2 =>
        rw [e] at h2
        obtain ⟨k', h3, h4⟩ := h2
        exact ih h4 (by omega)
      | rt s ρ2 => rw [e] at h2; exact ⟨h2.out⟩
      | bk _ => rw [e] at h2; exact h2.out.elim
      | ct _ => rw [e] at h2; exact h2.out.elim
      | ex _ _ => rw [e] at h2; exact h2.out.elim
      | bad => rw [e] at h2; exact h2.out.elim
theorem w_forL {tg : Dt → Rho → Option Rho} (I : Nat → Rho → Prop) : ∀ (ds : List Dt) (j : Nat) (ρ : Rho), (∀ i d ρ, ds[i]? = some d → I (j + i) ρ → ∃ ρ1, tg d ρ = some ρ1 ∧ Wp (I (j + i + 1)) Pr (bd ρ1)) → I j ρ → Wp (I (j + ds.length)) Pr (forL tg bd ds ρ)
  | [], j, ρ, _, h => ⟨h⟩
  | d :: ds, j, ρ, hs, h => by
    obtain ⟨ρ1, h1, h2⟩ := hs 0 d ρ rfl h
    simp only [forL, h1]
    have ih := fun ρ2 => w_forL I ds (j + 1) ρ2 (fun i d ρ hd hI => by
      have := hs (i + 1) d ρ (by simpa using hd) (by rw [show j + (i + 1) = j + 1 + i by omega]; exact hI)
      rwa [show j + (i + 1) + 1 = j + 1 + i + 1 by omega] at this)
    rw [List.length_cons, show j + (ds.length + 1) = j + 1 + ds.length by omega]
    cases e : bd ρ1 with
    | nx ρ2 => rw [e] at h2; exact ih ρ2 h2.out
    | rt s ρ2 => rw [e] at h2; exact ⟨h2.out⟩
    | bk _ => rw [e] at h2; exact h2.out.elim
    | ct _ => rw [e] at h2; exact h2.out.elim
    | ex _ _ => rw [e] at h2; exact h2.out.elim
    | bad => rw [e] at h2; exact h2.out.elim
theorem Wp.imp {Pn' : Rho → Prop} {Pr' : Sl → Rho → Prop} {r : SR} (h : Wp Pn Pr r) (hn : ∀ ρ, Pn ρ → Pn' ρ) (hr : ∀ s ρ, Pr s ρ → Pr' s ρ) : Wp Pn' Pr' r := by
  obtain ⟨h⟩ := h
  cases r with
  | nx ρ => exact ⟨hn ρ h⟩
  | rt s ρ => exact ⟨hr s ρ h⟩
  | _ => exact ⟨h⟩
theorem w_for {it : Rho → R (List Dt)} {tg : Dt → Rho → Option Rho} (I : Nat → Rho → Prop) (h : it ρ = .ok ds ρ1) (h0 : I 0 ρ1) (hs : ∀ i d ρ, ds[i]? = some d → I i ρ → ∃ ρ1, tg d ρ = some ρ1 ∧ Wp (I (i + 1)) Pr (bd ρ1)) (hq : ∀ ρ', I ds.length ρ' → Pn ρ') : Wp Pn Pr (forS it tg bd ρ) := by
  rw [e_for h rfl]
  have := w_forL (Pr := Pr) I ds 0 ρ1 (fun i d ρ hd hI => by
    rw [Nat.zero_add] at hI ⊢
    exact hs i d ρ hd hI) h0
  rw [Nat.zero_add] at this
  exact this.imp hq fun _ _ h => h
theorem w_runF {np nn : Nat} {P : Sl → Prop} (hl : ds.length = np) (h : Wp (fun _ => P (.fr .non)) (fun s _ => P s) (bd (envOf nn ds))) : ∃ s, runF np nn bd ds = .ok s ∧ P s := by
  simp only [runF, if_pos hl]
  obtain ⟨h⟩ := h
  revert h
  cases bd (envOf nn ds) with
  | nx ρ => exact fun h => ⟨_, rfl, h⟩
  | rt s ρ => exact fun h => ⟨_, rfl, h⟩
  | _ => exact fun h => h.elim
theorem w_runF1 {np nn : Nat} (hl : ds.length = np) (h : Wp (fun _ => False) (fun s _ => s = .fr d) (bd (envOf nn ds))) : runF np nn bd ds = .ok (.fr d) := by
  obtain ⟨s, h1, rfl⟩ := w_runF (P := fun s => s = .fr d) hl (h.imp (fun _ h => h.elim) fun _ _ h => h)
  exact h1
theorem w_runM {np nn : Nat} {kvs : List (Key × Dt)} {P : Dt → List (Key × Dt) → Prop} (hl : ds.length + 1 = np) (h : Wp (fun _ => False) (fun s ρ => ∃ d k, s = .fr d ∧ ioOf ρ = some k ∧ P d k) (bd (envM nn kvs ds))) : ∃ d k, runM np nn bd kvs ds = .ok (.fr d) k ∧ P d k := by
  simp only [runM, if_pos hl]
  obtain ⟨h⟩ := h
  revert h
  cases bd (envM nn kvs ds) with
  | rt s ρ =>
    rintro ⟨d, k, rfl, h1, h2⟩
    refine ⟨d, k, ?_, h2⟩
    dsimp only
    rw [h1]
  | _ => exact fun h => h.elim
theorem w_retO {fo : Rho → R Sl} {sl : Sl} (h : fo ρ = .ok sl ρ1) (k : Pr sl ρ1) : Wp Pn Pr (retOS fo ρ) := by rw [e_retO h]; exact ⟨k⟩
theorem e_pnil : pairsF [] ρ = .ok [] ρ := rfl
theorem e_pair {x : Str} {ps : List (Key × Dt)} {r : List ((Rho → R Dt) × (Rho → R Dt))} (h1 : f2 ρ = .ok d ρ1) (h2 : pairsF r ρ1 = .ok ps ρ2) : pairsF ((cst (.str x), f2) :: r) ρ = .ok ((.inr x, d) :: ps) ρ2 := by
  simp only [pairsF, cst, R.bind, h1, keyD, h2]
theorem e_disp {fps : List ((Rho → R Dt) × (Rho → R Dt))} {kvs : List (Key × Dt)} (h1 : pairsF fps ρ = .ok kvs ρ1) (h2 : kvs.length ≤ 15) : dispO fps ρ = .ok (.od (mergeD [] kvs)) ρ1 := by simp only [dispO, h1, R.bind, if_pos h2]
def retOf : SR → Option Sl
  | .rt s _ => some s
  | _ => none
theorem w_of {sl : Sl} (h : retOf (s ρ) = some sl) (k : ∀ ρ', Pr sl ρ') : Wp Pn Pr (s ρ) := by
  revert h
  cases s ρ with
  | rt s' ρ' =>
    intro h
    cases h
    exact ⟨k _⟩
  | _ => intro h; cases h
/-- [e for t in xs if c], where each turn is known -/
theorem lc_fm {tg : Dt → Rho → Option Rho} {ct : Rho → R Bool} {el : Rho → R Dt} {vs : List Nat} (p : Dt → Bool) (F : Dt → Dt) : ∀ (xs : List Dt), (∀ x ∈ xs, ∃ ρ1, tg x ρ = some ρ1 ∧ ct ρ1 = .ok (p x) ρ1 ∧ (p x = true → el ρ1 = .ok (F x) ρ1) ∧ wipeR ρ1 vs = ρ) → lcL tg ct el vs xs ρ = .ok ((xs.filter p).map F) ρ
  | [], _ => rfl
  | x :: xs, h => by
    obtain ⟨ρ1, h1, h2, h3, h4⟩ := h x (List.mem_cons_self ..)
    have ih := lc_fm p F xs fun y hy => h y (List.mem_cons_of_mem _ hy)
    simp only [lcL, h1, h2, R.bind]
    cases e : p x with
    | true =>
      rw [if_pos rfl, List.filter_cons_of_pos e, h3 e]
      simp only [h4, ih, List.map_cons]
    | false =>
      rw [if_neg Bool.false_ne_true, List.filter_cons_of_neg (by rw [e]; exact Bool.false_ne_true)]
      simp only [h4, ih]
theorem lc_m {tg : Dt → Rho → Option Rho} {el : Rho → R Dt} {vs : List Nat} (F : Dt → Dt) (xs : List Dt) (h : ∀ x ∈ xs, ∃ ρ1, tg x ρ = some ρ1 ∧ el ρ1 = .ok (F x) ρ1 ∧ wipeR ρ1 vs = ρ) : lcL tg yesT el vs xs ρ = .ok (xs.map F) ρ := by
  have := lc_fm (ct := yesT) (fun _ => true) F xs fun x hx => by
    obtain ⟨ρ1, h1, h2, h3⟩ := h x hx
    exact ⟨ρ1, h1, rfl, fun _ => h2, h3⟩
  rw [this, List.filter_eq_self.mpr fun _ _ => rfl]
theorem e_lc {it : Rho → R (List Dt)} {tg : Dt → Rho → Option Rho} {ct : Rho → R Bool} {el : Rho → R Dt} {vs : List Nat} {xs : List Dt} (h1 : it ρ = .ok xs ρ1) (h2 : okW vs ρ1 = true) (h3 : xs.length ≤ 1000000) (h4 : lcL tg ct el vs xs (wipeR ρ1 vs) = .ok ds ρ2) : lcO it tg ct el vs ρ = .ok (.ol ds) ρ2 := by
  simp only [lcO, h1, R.bind, if_pos (And.intro h2 h3), h4]
theorem cut_hi {α : Type} {xs : List α} {k : Nat} (h : k ≤ xs.length) : cutD xs none (some (k : Int)) = xs.take k := by
  unfold cutD
  rw [HT.sIx_none, HT.sIx_nat, List.drop_zero, Nat.min_eq_left h]
  rfl
theorem cut_lo {α : Type} {xs : List α} {k : Nat} (h : k ≤ xs.length) : cutD xs (some (k : Int)) none = xs.drop k := by
  unfold cutD
  rw [HT.sIx_none, HT.sIx_nat, Nat.min_eq_left h, List.take_of_length_le]
  rw [List.length_drop]
  exact Nat.le_refl _
theorem o_rng2 {a b : Nat} (h : a ≤ b) (hb : b < 2 ^ 62) : rngD2 [.int a, .int b] = some ((List.range (b - a)).map fun i => .int (a + i : Nat)) := by
  have e : ((b : Int) - (a : Int)).toNat = b - a := by omega
  unfold rngD2
  dsimp only
  rw [if_pos ⟨by omega, by omega, by omega, by omega⟩, e]
  rfl
theorem intsOf_map : ∀ ns : List Int, intsOf (ns.map .int) = some ns
  | [] => rfl
  | n :: ns => by simp only [List.map_cons, intsOf, intsOf_map ns, Option.map_some]
theorem o_max {ns : List Int} {m : Int} (h1 : m ∈ ns) (h2 : ∀ y ∈ ns, y ≤ m) : maxD (.lst (ns.map .int)) = some (.int m) := by
  cases ns with
  | nil => cases h1
  | cons n ns =>
    unfold maxD
    dsimp only
    rw [intsOf_map]
    show some (Dt.int (maxL n ns)) = _
    obtain ⟨q1, q2, q3⟩ := maxL_spec ns n
    have h3 : maxL n ns ≤ m := by
      rcases q1 with e | e
      · rw [e]; exact h2 n (List.mem_cons_self ..)
      · exact h2 _ (List.mem_cons_of_mem _ e)
    have h4 : m ≤ maxL n ns := by
      rcases List.mem_cons.mp h1 with e | e
      · rw [e]; exact q2
      · exact q3 m e
    rw [Int.le_antisymm h3 h4]
end
end PL

set_option Elab.async false
set_option linter.all false
set_option autoImplicit false
set_option maxRecDepth 100000
set_option maxHeartbeats 4000000
/-! P3: reckoning by simp: each form unfolded one step, continuations left alone until their turn -/
namespace PL
open PySem DW
open L2 (Key)
def Rof {α : Type} (o : Option α) (ρ : Rho) : R α := match o with
  | some z => .ok z ρ
  | none => .bad
section
variable {α β γ : Type} {ρ ρ1 ρ2 : Rho} {d e z : Dt} {f1 f2 f3 : Rho → R Dt} {fa : Rho → R (List Dt)} {fo : Rho → R Sl} {c1 c2 : Rho → R Bool} {i j : Nat} {s t : Rho → SR} {sl : Sl} {b : Bool} {ds : List Dt} {kvs : List (Key × Dt)}
theorem x_Rof {a : α} : Rof (some a) ρ = .ok a ρ := rfl
theorem x_cst : cst d ρ = .ok d ρ := rfl
def var1 (s : Option (Option Sl)) (i : Nat) (ρ : Rho) : R Dt := match s with
  | some (some (.fr d)) => .ok d ρ
  | some (some (.ol xs)) => .ok (.lst xs) (ρ.set i (some (.fr (.lst xs))))
  | some (some (.od kvs)) => .ok (.dct kvs) (ρ.set i (some (.fr (.dct kvs))))
  | _ => .bad
theorem x_var : var i ρ = var1 ρ[i]? i ρ := rfl
theorem x_var1f : var1 (some (some (.fr d))) i ρ = .ok d ρ := rfl
theorem x_var1l : var1 (some (some (.ol ds))) i ρ = .ok (.lst ds) (ρ.set i (some (.fr (.lst ds)))) := rfl
theorem x_var1d : var1 (some (some (.od kvs))) i ρ = .ok (.dct kvs) (ρ.set i (some (.fr (.dct kvs)))) := rfl
def pk1 (s : Option (Option Sl)) : Option Dt := match s with
  | some (some (.fr d)) => some d
  | some (some (.ol xs)) => some (.lst xs)
  | some (some (.od kvs)) => some (.dct kvs)
  | some (some (.io kvs)) => some (.dct kvs)
  | _ => none
theorem x_pk : pk i ρ = pk1 ρ[i]? := rfl
theorem x_pk1f : pk1 (some (some (.fr d))) = some d := rfl
theorem x_pk1l : pk1 (some (some (.ol ds))) = some (.lst ds) := rfl
theorem x_pk1d : pk1 (some (some (.od kvs))) = some (.dct kvs) := rfl
theorem x_pk1i : pk1 (some (some (.io kvs))) = some (.dct kvs) := rfl
theorem x_pkF : pkF i ρ = Rof (pk i ρ) ρ := by unfold pkF Rof; cases pk i ρ <;> rfl
def un1 (g : α → Option β) (r : R α) : R β := match r with
  | .ok d ρ => Rof (g d) ρ
  | .ex x ρ => .ex x ρ
  | .bad => .bad
theorem x_un1 {g : α → Option β} {a : α} : un1 g (.ok a ρ) = Rof (g a) ρ := rfl
theorem x_un {g : Dt → Option Dt} : un g f1 ρ = un1 g (f1 ρ) := by
  unfold un
  cases f1 ρ with
  | ok a ρ1 => dsimp only [R.bind, un1, Rof]; cases g a <;> rfl
  | _ => rfl
theorem x_truF : truF f1 ρ = un1 truD (f1 ρ) := by
  unfold truF
  cases f1 ρ with
  | ok a ρ1 => dsimp only [R.bind, un1, Rof]; cases truD a <;> rfl
  | _ => rfl
def bOf (d : Dt) : Option Bool := match d with
  | .bl b => some b
  | _ => none
theorem x_bOf : bOf (.bl b) = some b := rfl
theorem x_tstF : tstF f1 ρ = un1 bOf (f1 ρ) := by
  unfold tstF
  cases f1 ρ with
  | ok d ρ1 => cases d <;> rfl
  | _ => rfl
theorem x_notT : notT c1 ρ = un1 (fun b => some (!b)) (c1 ρ) := by unfold notT; cases c1 ρ <;> rfl
def bin1 (g : Dt → Dt → Option Dt) (f2 : Rho → R Dt) (r : R Dt) : R Dt := match r with
  | .ok d ρ => un1 (g d) (f2 ρ)
  | .ex x ρ => .ex x ρ
  | .bad => .bad
theorem x_bin1 {g : Dt → Dt → Option Dt} : bin1 g f2 (.ok d ρ) = un1 (g d) (f2 ρ) := rfl
theorem x_bin {g : Dt → Dt → Option Dt} : bin g f1 f2 ρ = bin1 g f2 (f1 ρ) := by
  unfold bin
  cases f1 ρ with
  | ok d ρ1 =>
    dsimp only [R.bind, bin1]
    cases f2 ρ1 with
    | ok e ρ2 => dsimp only [un1, Rof]; cases g d e <;> rfl
    | _ => rfl
  | _ => rfl
def bp3 (g : Dt → Dt → Option Dt) (o : Option Dt) (e : Dt) (ρ : Rho) : R Dt := match o with
  | some d => Rof (g d e) ρ
  | none => .bad
def bp2 (g : Dt → Dt → Option Dt) (i : Nat) (r : R Dt) : R Dt := match r with
  | .ok e ρ => bp3 g (pk i ρ) e ρ
  | .ex x ρ => .ex x ρ
  | .bad => .bad
def bp1 (g : Dt → Dt → Option Dt) (i : Nat) (o : Option Dt) (f2 : Rho → R Dt) (ρ : Rho) : R Dt := match o with
  | some _ => bp2 g i (f2 ρ)
  | none => .bad
theorem x_bp3 {g : Dt → Dt → Option Dt} : bp3 g (some d) e ρ = Rof (g d e) ρ := rfl
theorem x_bp2 {g : Dt → Dt → Option Dt} : bp2 g i (.ok e ρ) = bp3 g (pk i ρ) e ρ := rfl
theorem x_bp1 {g : Dt → Dt → Option Dt} : bp1 g i (some d) f2 ρ = bp2 g i (f2 ρ) := rfl
theorem x_binP {g : Dt → Dt → Option Dt} : binP g i f2 ρ = bp1 g i (pk i ρ) f2 ρ := by
  unfold binP
  cases pk i ρ with
  | none => rfl
  | some d =>
    dsimp only [bp1]
    cases f2 ρ with
    | ok e ρ2 =>
      dsimp only [R.bind, bp2]
      cases pk i ρ2 with
      | none => rfl
      | some d2 => dsimp only [bp3, Rof]; cases g d2 e <;> rfl
    | _ => rfl
def and1 (r : R Bool) (c2 : Rho → R Bool) : R Bool := match r with
  | .ok b ρ => if b = true then c2 ρ else .ok false ρ
  | .ex x ρ => .ex x ρ
  | .bad => .bad
def or1 (r : R Bool) (c2 : Rho → R Bool) : R Bool := match r with
  | .ok b ρ => if b = true then .ok true ρ else c2 ρ
  | .ex x ρ => .ex x ρ
  | .bad => .bad
theorem x_andT : andT c1 c2 ρ = and1 (c1 ρ) c2 := by unfold andT; cases c1 ρ <;> rfl
theorem x_orT : orT c1 c2 ρ = or1 (c1 ρ) c2 := by unfold orT; cases c1 ρ <;> rfl
theorem x_and1t : and1 (.ok true ρ) c2 = c2 ρ := rfl
theorem x_and1f : and1 (.ok false ρ) c2 = .ok false ρ := rfl
theorem x_or1t : or1 (.ok true ρ) c2 = .ok true ρ := rfl
theorem x_or1f : or1 (.ok false ρ) c2 = c2 ρ := rfl
/-- both sides of a test that say nothing else -/
theorem x_and1b {b2 : Bool} (h : c2 ρ = .ok b2 ρ) : and1 (.ok b ρ) c2 = .ok (b && b2) ρ := by cases b <;> simp [and1, h]
theorem x_or1b {b2 : Bool} (h : c2 ρ = .ok b2 ρ) : or1 (.ok b ρ) c2 = .ok (b || b2) ρ := by cases b <;> simp [or1, h]
def andV1 (r : R Dt) (f2 : Rho → R Dt) : R Dt := match r with
  | .ok (.bl b) ρ => if b = true then f2 ρ else .ok (.bl false) ρ
  | .ex x ρ => .ex x ρ
  | _ => .bad
def orV1 (r : R Dt) (f2 : Rho → R Dt) : R Dt := match r with
  | .ok (.bl b) ρ => if b = true then .ok (.bl true) ρ else f2 ρ
  | .ex x ρ => .ex x ρ
  | _ => .bad
theorem x_andV : andV f1 f2 ρ = andV1 (f1 ρ) f2 := by
  unfold andV
  cases f1 ρ with
  | ok d ρ1 => cases d <;> rfl
  | _ => rfl
theorem x_orV : orV f1 f2 ρ = orV1 (f1 ρ) f2 := by
  unfold orV
  cases f1 ρ with
  | ok d ρ1 => cases d <;> rfl
  | _ => rfl
theorem x_andV1t : andV1 (.ok (.bl true) ρ) f2 = f2 ρ := rfl
theorem x_andV1f : andV1 (.ok (.bl false) ρ) f2 = .ok (.bl false) ρ := rfl
theorem x_orV1t : orV1 (.ok (.bl true) ρ) f2 = .ok (.bl true) ρ := rfl
theorem x_orV1f : orV1 (.ok (.bl false) ρ) f2 = f2 ρ := rfl
theorem x_andV1b {b2 : Bool} (h : f2 ρ = .ok (.bl b2) ρ) : andV1 (.ok (.bl b) ρ) f2 = .ok (.bl (b && b2)) ρ := by cases b <;> simp [andV1, h]
theorem x_orV1b {b2 : Bool} (h : f2 ρ = .ok (.bl b2) ρ) : orV1 (.ok (.bl b) ρ) f2 = .ok (.bl (b || b2)) ρ := by cases b <;> simp [orV1, h]
def ifE1 (r : R Bool) (f g : Rho → R Dt) : R Dt := match r with
  | .ok b ρ => if b = true then f ρ else g ρ
  | .ex x ρ => .ex x ρ
  | .bad => .bad
theorem x_ifE : ifE c1 f1 f2 ρ = ifE1 (c1 ρ) f1 f2 := by unfold ifE; cases c1 ρ <;> rfl
theorem x_ifE1t : ifE1 (.ok true ρ) f1 f2 = f1 ρ := rfl
theorem x_ifE1f : ifE1 (.ok false ρ) f1 f2 = f2 ρ := rfl
def ch3 (g2 : Dt → Dt → Option Dt) (f3 : Rho → R Dt) (y : Dt) (o : Option Dt) (ρ : Rho) : R Dt := match o with
  | some (.bl true) => un1 (g2 y) (f3 ρ)
  | some (.bl false) => .ok (.bl false) ρ
  | _ => .bad
def ch2 (g1 g2 : Dt → Dt → Option Dt) (f3 : Rho → R Dt) (x : Dt) (r : R Dt) : R Dt := match r with
  | .ok y ρ => ch3 g2 f3 y (g1 x y) ρ
  | .ex x ρ => .ex x ρ
  | .bad => .bad
def ch1 (g1 g2 : Dt → Dt → Option Dt) (f2 f3 : Rho → R Dt) (r : R Dt) : R Dt := match r with
  | .ok x ρ => ch2 g1 g2 f3 x (f2 ρ)
  | .ex x ρ => .ex x ρ
  | .bad => .bad
theorem x_chainD {g1 g2 : Dt → Dt → Option Dt} : chainD g1 g2 f1 f2 f3 ρ = ch1 g1 g2 f2 f3 (f1 ρ) := by
  unfold chainD
  cases f1 ρ with
  | ok x ρ1 =>
    dsimp only [R.bind, ch1]
    cases f2 ρ1 with
    | ok y ρ2 =>
      dsimp only [ch2]
      cases g1 x y with
      | none => rfl
      | some w =>
        cases w with
        | bl b =>
          cases b
          · rfl
          · dsimp only [ch3]
            cases f3 ρ2 with
            | ok z ρ3 => dsimp only [un1, Rof]; cases g2 y z <;> rfl
            | _ => rfl
        | _ => rfl
    | _ => rfl
  | _ => rfl
theorem x_ch1 {g1 g2 : Dt → Dt → Option Dt} : ch1 g1 g2 f2 f3 (.ok d ρ) = ch2 g1 g2 f3 d (f2 ρ) := rfl
theorem x_ch2 {g1 g2 : Dt → Dt → Option Dt} : ch2 g1 g2 f3 d (.ok e ρ) = ch3 g2 f3 e (g1 d e) ρ := rfl
theorem x_ch3t {g2 : Dt → Dt → Option Dt} : ch3 g2 f3 d (some (.bl true)) ρ = un1 (g2 d) (f3 ρ) := rfl
theorem x_ch3f {g2 : Dt → Dt → Option Dt} : ch3 g2 f3 d (some (.bl false)) ρ = .ok (.bl false) ρ := rfl
theorem x_nilA : nilA ρ = .ok [] ρ := rfl
def cons2 (d : Dt) (r : R (List Dt)) : R (List Dt) := match r with
  | .ok ds ρ => .ok (d :: ds) ρ
  | .ex x ρ => .ex x ρ
  | .bad => .bad
def cons1 (fa : Rho → R (List Dt)) (r : R Dt) : R (List Dt) := match r with
  | .ok d ρ => cons2 d (fa ρ)
  | .ex x ρ => .ex x ρ
  | .bad => .bad
theorem x_consA : consA f1 fa ρ = cons1 fa (f1 ρ) := by
  unfold consA
  cases f1 ρ with
  | ok d ρ1 =>
    dsimp only [R.bind, cons1]
    cases fa ρ1 <;> rfl
  | _ => rfl
theorem x_cons1 : cons1 fa (.ok d ρ) = cons2 d (fa ρ) := rfl
theorem x_cons2 : cons2 d (.ok ds ρ) = .ok (d :: ds) ρ := rfl
def few (b : Bool) (a : α) (ρ : Rho) : R α := if b = true then .ok a ρ else .bad
theorem x_few {a : α} : few true a ρ = .ok a ρ := rfl
def mk1 (k : List Dt → α) (r : R (List Dt)) : R α := match r with
  | .ok ds ρ => few (decide (ds.length ≤ 1000000)) (k ds) ρ
  | .ex x ρ => .ex x ρ
  | .bad => .bad
theorem x_mk1 {k : List Dt → α} : mk1 k (.ok ds ρ) = few (decide (ds.length ≤ 1000000)) (k ds) ρ := rfl
theorem x_tupD : tupD fa ρ = mk1 Dt.tup (fa ρ) := by
  unfold tupD
  cases fa ρ <;> simp only [R.bind, mk1, few, decide_eq_true_eq]
theorem x_lstD : lstD fa ρ = mk1 Dt.lst (fa ρ) := by
  unfold lstD
  cases fa ρ <;> simp only [R.bind, mk1, few, decide_eq_true_eq]
theorem x_lstO : lstO fa ρ = mk1 Sl.ol (fa ρ) := by
  unfold lstO
  cases fa ρ <;> simp only [R.bind, mk1, few, decide_eq_true_eq]
theorem x_dctO0 : dctO0 ρ = .ok (.od []) ρ := rfl
theorem x_frO : frO f1 ρ = un1 (fun d => some (Sl.fr d)) (f1 ρ) := by unfold frO; cases f1 ρ <;> rfl
theorem x_cb {g : List Dt → Option Dt} : cb g fa ρ = un1 g (fa ρ) := by
  unfold cb
  cases fa ρ with
  | ok a ρ1 => dsimp only [R.bind, un1, Rof]; cases g a <;> rfl
  | _ => rfl
theorem x_noP : noP ρ = .ok none ρ := rfl
def iOf (d : Dt) : Option (Option Int) := match d with
  | .int i => some (some i)
  | _ => none
theorem x_iOf {k : Int} : iOf (.int k) = some (some k) := rfl
theorem x_someP : someP f1 ρ = un1 iOf (f1 ρ) := by
  unfold someP
  cases f1 ρ with
  | ok d ρ1 => cases d <;> rfl
  | _ => rfl
def sl32 (fh : Rho → R (Option Int)) (d : Dt) (r : R (Option Int)) : R Dt := match r with
  | .ok lo ρ => un1 (slD d lo) (fh ρ)
  | .ex x ρ => .ex x ρ
  | .bad => .bad
def sl31 (fl fh : Rho → R (Option Int)) (r : R Dt) : R Dt := match r with
  | .ok d ρ => sl32 fh d (fl ρ)
  | .ex x ρ => .ex x ρ
  | .bad => .bad
theorem x_sl31 {fl fh : Rho → R (Option Int)} : sl31 fl fh (.ok d ρ) = sl32 fh d (fl ρ) := rfl
theorem x_sl32 {fh : Rho → R (Option Int)} {lo : Option Int} : sl32 fh d (.ok lo ρ) = un1 (slD d lo) (fh ρ) := rfl
theorem x_sl3 {fl fh : Rho → R (Option Int)} : sl3 f1 fl fh ρ = sl31 fl fh (f1 ρ) := by
  unfold sl3
  cases f1 ρ with
  | ok d ρ1 =>
    dsimp only [R.bind, sl31]
    cases fl ρ1 with
    | ok lo ρ2 =>
      dsimp only [sl32]
      cases fh ρ2 with
      | ok hi ρ3 => dsimp only [un1, Rof]; cases slD d lo hi <;> rfl
      | _ => rfl
    | _ => rfl
  | _ => rfl
def slK1 (fk : Rho → R (Option Int)) (r : R Dt) : R Dt := match r with
  | .ok d ρ => un1 (stpD d) (fk ρ)
  | .ex x ρ => .ex x ρ
  | .bad => .bad
theorem x_slK1 {fk : Rho → R (Option Int)} : slK1 fk (.ok d ρ) = un1 (stpD d) (fk ρ) := rfl
theorem x_slK {fk : Rho → R (Option Int)} : slK f1 fk ρ = slK1 fk (f1 ρ) := by
  unfold slK
  cases f1 ρ with
  | ok d ρ1 =>
    dsimp only [R.bind, slK1]
    cases fk ρ1 with
    | ok o ρ2 => dsimp only [un1, Rof]; cases stpD d o <;> rfl
    | _ => rfl
  | _ => rfl
def frF (r : FR) : Option Dt := match r with
  | .ok (.fr d) => some d
  | _ => none
def frS (r : FR) : Option Sl := match r with
  | .ok (.raw _ _) => none
  | .ok s => some s
  | _ => none
theorem x_frF : frF (.ok (.fr d)) = some d := rfl
theorem x_frS1 : frS (.ok (.fr d)) = some (.fr d) := rfl
theorem x_frS2 {l : List Dt} : frS (.ok (.ol l)) = some (.ol l) := rfl
theorem x_frS3 {l : List (Key × Dt)} : frS (.ok (.od l)) = some (.od l) := rfl
def cal1 (fn : Fn) (k : FR → Option α) (r : R (List Dt)) : R α := match r with
  | .ok ds ρ => Rof (k (fn ds)) ρ
  | .ex x ρ => .ex x ρ
  | .bad => .bad
theorem x_cal1 {fn : Fn} {k : FR → Option α} : cal1 fn k (.ok ds ρ) = Rof (k (fn ds)) ρ := rfl
theorem x_callF {fn : Fn} : callF fn fa ρ = cal1 fn frF (fa ρ) := by
  unfold callF
  cases fa ρ with
  | ok ds ρ1 =>
    dsimp only [R.bind, cal1]
    cases fn ds with
    | ok s => cases s <;> rfl
    | _ => rfl
  | _ => rfl
theorem x_callO {fn : Fn} : callO fn fa ρ = cal1 fn frS (fa ρ) := by
  unfold callO
  cases fa ρ with
  | ok ds ρ1 =>
    dsimp only [R.bind, cal1]
    cases fn ds with
    | ok s => cases s <;> rfl
    | _ => rfl
  | _ => rfl
def FMof (r : FM) (i : Nat) (ρ : Rho) : R Dt := match r with
  | .ok (.fr d) kvs' => .ok d (dPut i kvs' ρ)
  | _ => .bad
theorem x_FMof : FMof (.ok (.fr d) kvs) i ρ = .ok d (dPut i kvs ρ) := rfl
def cm3 (fn : FnM) (i : Nat) (o : Option (List (Key × Dt))) (ds : List Dt) (ρ : Rho) : R Dt := match o with
  | some k => FMof (fn k ds) i ρ
  | none => .bad
def cm2 (fn : FnM) (i : Nat) (r : R (List Dt)) : R Dt := match r with
  | .ok ds ρ => cm3 fn i (dAt i ρ) ds ρ
  | .ex x ρ => .ex x ρ
  | .bad => .bad
def cm1 (fn : FnM) (i : Nat) (o : Option (List (Key × Dt))) (fa : Rho → R (List Dt)) (ρ : Rho) : R Dt := match o with
  | some _ => cm2 fn i (fa ρ)
  | none => .bad
theorem x_cm1 {fn : FnM} : cm1 fn i (some kvs) fa ρ = cm2 fn i (fa ρ) := rfl
theorem x_cm2 {fn : FnM} : cm2 fn i (.ok ds ρ) = cm3 fn i (dAt i ρ) ds ρ := rfl
theorem x_cm3 {fn : FnM} : cm3 fn i (some kvs) ds ρ = FMof (fn kvs ds) i ρ := rfl
theorem x_callM {fn : FnM} : callM fn i fa ρ = cm1 fn i (dAt i ρ) fa ρ := by
  unfold callM
  cases dAt i ρ with
  | none => rfl
  | some k =>
    dsimp only [cm1]
    cases fa ρ with
    | ok ds ρ1 =>
      dsimp only [R.bind, cm2]
      cases dAt i ρ1 with
      | none => rfl
      | some k1 =>
        dsimp only [cm3]
        cases fn k1 ds with
        | ok s k2 => cases s <;> rfl
        | _ => rfl
    | _ => rfl
def FMO (r : FM) : Option Dt := match r with
  | .ok (.fr d) _ => some d
  | _ => none
theorem x_FMO : FMO (.ok (.fr d) kvs) = some d := rfl
def cmo2 (fn : FnM) (k : List (Key × Dt)) (r : R (List Dt)) : R Dt := match r with
  | .ok ds ρ => Rof (FMO (fn k ds)) ρ
  | .ex x ρ => .ex x ρ
  | .bad => .bad
def cmo1 (fn : FnM) (fa : Rho → R (List Dt)) (r : R Sl) : R Dt := match r with
  | .ok (.od k) ρ => cmo2 fn k (fa ρ)
  | .ex x ρ => .ex x ρ
  | _ => .bad
theorem x_cmo1 {fn : FnM} : cmo1 fn fa (.ok (.od kvs) ρ) = cmo2 fn kvs (fa ρ) := rfl
theorem x_cmo2 {fn : FnM} : cmo2 fn kvs (.ok ds ρ) = Rof (FMO (fn kvs ds)) ρ := rfl
theorem x_callMO {fn : FnM} : callMO fn fo fa ρ = cmo1 fn fa (fo ρ) := by
  unfold callMO
  cases fo ρ with
  | ok s ρ1 =>
    cases s with
    | od k =>
      dsimp only [R.bind, cmo1]
      cases fa ρ1 with
      | ok ds ρ2 =>
        dsimp only [cmo2]
        cases fn k ds with
        | ok s k2 => cases s <;> rfl
        | _ => rfl
      | _ => rfl
    | _ => rfl
  | _ => rfl
theorem x_frzR : frzR fo ρ = un1 toD (fo ρ) := by
  unfold frzR
  cases fo ρ with
  | ok a ρ1 => dsimp only [R.bind, un1, Rof]; cases toD a <;> rfl
  | _ => rfl
theorem x_itF : itF f1 ρ = un1 itD (f1 ρ) := by
  unfold itF
  cases f1 ρ with
  | ok a ρ1 => dsimp only [R.bind, un1, Rof]; cases itD a <;> rfl
  | _ => rfl
theorem x_rngF {g : List Dt → Option (List Dt)} : rngF g fa ρ = un1 g (fa ρ) := by
  unfold rngF
  cases fa ρ with
  | ok a ρ1 => dsimp only [R.bind, un1, Rof]; cases g a <;> rfl
  | _ => rfl
def OLof (r : R (List Dt)) : R Sl := match r with
  | .ok ds ρ => .ok (.ol ds) ρ
  | _ => .bad
theorem x_OLof : OLof (.ok ds ρ) = .ok (.ol ds) ρ := rfl
def lc2 (b : Bool) (tg : Dt → Rho → Option Rho) (c : Rho → R Bool) (e : Rho → R Dt) (vs : List Nat) (xs : List Dt) (ρ : Rho) : R Sl := if b = true then OLof (lcL tg c e vs xs (wipeR ρ vs)) else .bad
def lc1 (tg : Dt → Rho → Option Rho) (c : Rho → R Bool) (e : Rho → R Dt) (vs : List Nat) (r : R (List Dt)) : R Sl := match r with
  | .ok xs ρ => lc2 (okW vs ρ && decide (xs.length ≤ 1000000)) tg c e vs xs ρ
  | .ex x ρ => .ex x ρ
  | .bad => .bad
theorem x_lc2 {tg : Dt → Rho → Option Rho} {vs : List Nat} : lc2 true tg c1 f1 vs ds ρ = OLof (lcL tg c1 f1 vs ds (wipeR ρ vs)) := rfl
theorem x_lc1 {tg : Dt → Rho → Option Rho} {vs : List Nat} : lc1 tg c1 f1 vs (.ok ds ρ) = lc2 (okW vs ρ && decide (ds.length ≤ 1000000)) tg c1 f1 vs ds ρ := rfl
theorem x_lcO {it : Rho → R (List Dt)} {tg : Dt → Rho → Option Rho} {vs : List Nat} : lcO it tg c1 f1 vs ρ = lc1 tg c1 f1 vs (it ρ) := by
  unfold lcO
  cases it ρ with
  | ok xs ρ1 =>
    simp only [R.bind, lc1, lc2, Bool.and_eq_true, decide_eq_true_eq]
    split
    · cases lcL tg c1 f1 vs xs (wipeR ρ1 vs) <;> rfl
    · rfl
  | _ => rfl
def cat1 (f2 : Rho → R Dt) (r : R Dt) : R Sl := match r with
  | .ok d ρ => un1 (catL d) (f2 ρ)
  | .ex x ρ => .ex x ρ
  | .bad => .bad
theorem x_cat1 : cat1 f2 (.ok d ρ) = un1 (catL d) (f2 ρ) := rfl
theorem x_catO : catO f1 f2 ρ = cat1 f2 (f1 ρ) := by
  unfold catO
  cases f1 ρ with
  | ok d ρ1 =>
    dsimp only [R.bind, cat1]
    cases f2 ρ1 with
    | ok e ρ2 => dsimp only [un1, Rof]; cases catL d e <;> rfl
    | _ => rfl
  | _ => rfl
def cp3 (o : Option Dt) (e : Dt) (ρ : Rho) : R Sl := match o with
  | some d => Rof (catL d e) ρ
  | none => .bad
def cp2 (i : Nat) (r : R Dt) : R Sl := match r with
  | .ok e ρ => cp3 (pk i ρ) e ρ
  | .ex x ρ => .ex x ρ
  | .bad => .bad
def cp1 (i : Nat) (o : Option Dt) (f2 : Rho → R Dt) (ρ : Rho) : R Sl := match o with
  | some _ => cp2 i (f2 ρ)
  | none => .bad
theorem x_cp1 : cp1 i (some d) f2 ρ = cp2 i (f2 ρ) := rfl
theorem x_cp2 : cp2 i (.ok e ρ) = cp3 (pk i ρ) e ρ := rfl
theorem x_cp3 : cp3 (some d) e ρ = Rof (catL d e) ρ := rfl
theorem x_catPO : catPO i f2 ρ = cp1 i (pk i ρ) f2 ρ := by
  unfold catPO
  cases pk i ρ with
  | none => rfl
  | some d =>
    dsimp only [cp1]
    cases f2 ρ with
    | ok e ρ2 =>
      dsimp only [R.bind, cp2]
      cases pk i ρ2 with
      | none => rfl
      | some d2 => dsimp only [cp3, Rof]; cases catL d2 e <;> rfl
    | _ => rfl
-- statements
def SB (r : SR) (k : Rho → SR) : SR := match r with
  | .nx ρ1 => k ρ1
  | .rt s ρ1 => .rt s ρ1
  | .bk ρ1 => .bk ρ1
  | .ct ρ1 => .ct ρ1
  | .ex e ρ1 => .ex e ρ1
  | .bad => .bad
theorem x_SBn {k : Rho → SR} : SB (.nx ρ) k = k ρ := rfl
theorem x_SBr {k : Rho → SR} : SB (.rt sl ρ) k = .rt sl ρ := rfl
theorem x_skipS : skipS ρ = .nx ρ := rfl
theorem x_badS : badS ρ = .bad := rfl
theorem x_seqS : seqS s t ρ = SB (s ρ) t := rfl
theorem x_nxO : nxO (some ρ) = .nx ρ := rfl
def set1 (i : Nat) (r : R Dt) : SR := match r with
  | .ok d ρ => nxO (putR i (.fr d) ρ)
  | .ex x ρ => .ex x ρ
  | .bad => .bad
theorem x_set1 : set1 i (.ok d ρ) = nxO (putR i (.fr d) ρ) := rfl
theorem x_setS : setS i f1 ρ = set1 i (f1 ρ) := by unfold setS; cases f1 ρ <;> rfl
def setO1 (i : Nat) (r : R Sl) : SR := match r with
  | .ok (.io _) _ => .bad
  | .ok s ρ => nxO (putR i s ρ)
  | .ex x ρ => .ex x ρ
  | .bad => .bad
theorem x_setO1f : setO1 i (.ok (.fr d) ρ) = nxO (putR i (.fr d) ρ) := rfl
theorem x_setO1l : setO1 i (.ok (.ol ds) ρ) = nxO (putR i (.ol ds) ρ) := rfl
theorem x_setO1d : setO1 i (.ok (.od kvs) ρ) = nxO (putR i (.od kvs) ρ) := rfl
theorem x_setOS : setOS i fo ρ = setO1 i (fo ρ) := by
  unfold setOS
  cases fo ρ with
  | ok s ρ1 => cases s <;> rfl
  | _ => rfl
def ret1 (r : R Dt) : SR := match r with
  | .ok d ρ => .rt (.fr d) ρ
  | .ex x ρ => .ex x ρ
  | .bad => .bad
def retO1 (r : R Sl) : SR := match r with
  | .ok s ρ => .rt s ρ
  | .ex x ρ => .ex x ρ
  | .bad => .bad
def exp1 (r : R Dt) : SR := match r with
  | .ok _ ρ => .nx ρ
  | .ex x ρ => .ex x ρ
  | .bad => .bad
theorem x_ret1 : ret1 (.ok d ρ) = .rt (.fr d) ρ := rfl
theorem x_retO1 : retO1 (.ok sl ρ) = .rt sl ρ := rfl
theorem x_exp1 : exp1 (.ok d ρ) = .nx ρ := rfl
theorem x_retS : retS f1 ρ = ret1 (f1 ρ) := by unfold retS; cases f1 ρ <;> rfl
theorem x_retOS : retOS fo ρ = retO1 (fo ρ) := by unfold retOS; cases fo ρ <;> rfl
theorem x_exprS : exprS f1 ρ = exp1 (f1 ρ) := by unfold exprS; cases f1 ρ <;> rfl
def if1 (r : R Bool) (s t : Rho → SR) : SR := match r with
  | .ok b ρ => if b = true then s ρ else t ρ
  | .ex x ρ => .ex x ρ
  | .bad => .bad
theorem x_ifS : ifS c1 s t ρ = if1 (c1 ρ) s t := by unfold ifS; cases c1 ρ <;> rfl
theorem x_if1t : if1 (.ok true ρ) s t = s ρ := rfl
theorem x_if1f : if1 (.ok false ρ) s t = t ρ := rfl
def asg1 (tg : Dt → Rho → Option Rho) (r : R Dt) : SR := match r with
  | .ok d ρ => nxO (tg d ρ)
  | .ex x ρ => .ex x ρ
  | .bad => .bad
theorem x_asg1 {tg : Dt → Rho → Option Rho} : asg1 tg (.ok d ρ) = nxO (tg d ρ) := rfl
theorem x_asgS {tg : Dt → Rho → Option Rho} : asgS tg f1 ρ = asg1 tg (f1 ρ) := by unfold asgS; cases f1 ρ <;> rfl
theorem x_argsP0 : argsP [] ρ = .ok [] ρ := rfl
def ap2 (s : Sl) (r : R (List Sl)) : R (List Sl) := match r with
  | .ok ss ρ => .ok (s :: ss) ρ
  | .ex x ρ => .ex x ρ
  | .bad => .bad
def ap1 (fs : List (Rho → R Sl)) (r : R Sl) : R (List Sl) := match r with
  | .ok (.io _) _ => .bad
  | .ok s ρ => ap2 s (argsP fs ρ)
  | .ex x ρ => .ex x ρ
  | .bad => .bad
theorem x_ap1f {fs : List (Rho → R Sl)} : ap1 fs (.ok (.fr d) ρ) = ap2 (.fr d) (argsP fs ρ) := rfl
theorem x_ap1l {fs : List (Rho → R Sl)} : ap1 fs (.ok (.ol ds) ρ) = ap2 (.ol ds) (argsP fs ρ) := rfl
theorem x_ap1d {fs : List (Rho → R Sl)} : ap1 fs (.ok (.od kvs) ρ) = ap2 (.od kvs) (argsP fs ρ) := rfl
theorem x_ap2 {ss : List Sl} : ap2 sl (.ok ss ρ) = .ok (sl :: ss) ρ := rfl
theorem x_argsP {fs : List (Rho → R Sl)} : argsP (fo :: fs) ρ = ap1 fs (fo ρ) := by
  simp only [argsP]
  cases fo ρ with
  | ok s ρ1 =>
    cases s with
    | io k => rfl
    | _ => dsimp only [R.bind, ap1, notIo]; cases argsP fs ρ1 <;> rfl
  | _ => rfl
def par1 (is : List Nat) (r : R (List Sl)) : SR := match r with
  | .ok ss ρ => nxO (putP is ss ρ)
  | .ex x ρ => .ex x ρ
  | .bad => .bad
theorem x_par1 {is : List Nat} {ss : List Sl} : par1 is (.ok ss ρ) = nxO (putP is ss ρ) := rfl
theorem x_parP {is : List Nat} {fs : List (Rho → R Sl)} : parP is fs ρ = par1 is (argsP fs ρ) := by unfold parP; cases argsP fs ρ <;> rfl
theorem x_putP0 : putP [] [] ρ = some ρ := rfl
def pp1 (is : List Nat) (ss : List Sl) (o : Option Rho) : Option Rho := match o with
  | some ρ => putP is ss ρ
  | none => none
theorem x_pp1 {is : List Nat} {ss : List Sl} : pp1 is ss (some ρ) = putP is ss ρ := rfl
theorem x_putP {is : List Nat} {ss : List Sl} : putP (i :: is) (sl :: ss) ρ = pp1 is ss (putR i sl ρ) := by
  rw [putP]
  cases putR i sl ρ <;> rfl
def app3 (i : Nat) (o : Option (List Dt)) (d : Dt) (ρ : Rho) : SR := match o with
  | some xs => if xs.length < 1000000 then .nx (ρ.set i (some (.ol (xs ++ [d])))) else .bad
  | none => .bad
def app2 (i : Nat) (r : R Dt) : SR := match r with
  | .ok d ρ => app3 i (lAt i ρ) d ρ
  | .ex x ρ => .ex x ρ
  | .bad => .bad
def app1 (i : Nat) (o : Option (List Dt)) (f : Rho → R Dt) (ρ : Rho) : SR := match o with
  | some _ => app2 i (f ρ)
  | none => .bad
theorem x_app1 : app1 i (some ds) f1 ρ = app2 i (f1 ρ) := rfl
theorem x_app2 : app2 i (.ok d ρ) = app3 i (lAt i ρ) d ρ := rfl
def nxB (b : Bool) (ρ : Rho) : SR := if b = true then .nx ρ else .bad
theorem x_nxB : nxB true ρ = .nx ρ := rfl
theorem x_app3 : app3 i (some ds) d ρ = nxB (decide (ds.length < 1000000)) (ρ.set i (some (.ol (ds ++ [d])))) := by
  simp only [app3, nxB, decide_eq_true_eq]
theorem x_appS : appS i f1 ρ = app1 i (lAt i ρ) f1 ρ := by
  unfold appS
  cases lAt i ρ with
  | none => rfl
  | some k =>
    dsimp only [app1]
    cases f1 ρ with
    | ok d ρ1 =>
      dsimp only [R.bindS, app2]
      cases lAt i ρ1 <;> rfl
    | _ => rfl
def dp4 (i : Nat) (o : Option (List (Key × Dt))) (k : Option Key) (d : Dt) (ρ : Rho) : SR := match k, o with
  | some k, some kvs => if kvs.length < 1000000 then .nx (dPut i (putKD kvs k d) ρ) else .bad
  | _, _ => .bad
def dp3 (i : Nat) (d : Dt) (r : R Dt) : SR := match r with
  | .ok k ρ => dp4 i (dAt i ρ) (keyD k) d ρ
  | .ex x ρ => .ex x ρ
  | .bad => .bad
def dp2 (i : Nat) (o : Option (List (Key × Dt))) (fk : Rho → R Dt) (d : Dt) (ρ : Rho) : SR := match o with
  | some _ => dp3 i d (fk ρ)
  | none => .bad
def dp1 (i : Nat) (fk : Rho → R Dt) (r : R Dt) : SR := match r with
  | .ok d ρ => dp2 i (dAt i ρ) fk d ρ
  | .ex x ρ => .ex x ρ
  | .bad => .bad
theorem x_dp1 {fk : Rho → R Dt} : dp1 i fk (.ok d ρ) = dp2 i (dAt i ρ) fk d ρ := rfl
theorem x_dp2 {fk : Rho → R Dt} : dp2 i (some kvs) fk d ρ = dp3 i d (fk ρ) := rfl
theorem x_dp3 : dp3 i d (.ok e ρ) = dp4 i (dAt i ρ) (keyD e) d ρ := rfl
theorem x_dp4 {k : Key} : dp4 i (some kvs) (some k) d ρ = nxB (decide (kvs.length < 1000000)) (dPut i (putKD kvs k d) ρ) := by
  simp only [dp4, nxB, decide_eq_true_eq]
theorem x_dputS {fk fv : Rho → R Dt} : dputS i fk fv ρ = dp1 i fk (fv ρ) := by
  unfold dputS
  cases fv ρ with
  | ok d ρ1 =>
    dsimp only [R.bindS, dp1]
    cases dAt i ρ1 with
    | none => rfl
    | some k0 =>
      dsimp only [dp2]
      cases fk ρ1 with
      | ok k ρ2 =>
        dsimp only [dp3]
        cases keyD k <;> cases dAt i ρ2 <;> rfl
      | _ => rfl
  | _ => rfl
theorem x_keyI {k : Int} : keyD (.int k) = some (.inl k) := rfl
theorem x_keyS {k : Str} : keyD (.str k) = some (.inr k) := rfl
def up3 (i : Nat) (o : Option (List (Key × Dt))) (d : Dt) (ρ : Rho) : SR := match d, o with
  | .dct more, some kvs => if kvs.length + more.length ≤ 1000000 then .nx (dPut i (mergeD kvs more) ρ) else .bad
  | _, _ => .bad
def up2 (i : Nat) (r : R Dt) : SR := match r with
  | .ok d ρ => up3 i (dAt i ρ) d ρ
  | .ex x ρ => .ex x ρ
  | .bad => .bad
def up1 (i : Nat) (o : Option (List (Key × Dt))) (f : Rho → R Dt) (ρ : Rho) : SR := match o with
  | some _ => up2 i (f ρ)
  | none => .bad
theorem x_up1 : up1 i (some kvs) f1 ρ = up2 i (f1 ρ) := rfl
theorem x_up2 : up2 i (.ok d ρ) = up3 i (dAt i ρ) d ρ := rfl
theorem x_up3 {more : List (Key × Dt)} : up3 i (some kvs) (.dct more) ρ = nxB (decide (kvs.length + more.length ≤ 1000000)) (dPut i (mergeD kvs more) ρ) := by
  simp only [up3, nxB, decide_eq_true_eq]
theorem x_updS : updS i f1 ρ = up1 i (dAt i ρ) f1 ρ := by
  unfold updS
  cases dAt i ρ with
  | none => rfl
  | some k0 =>
    dsimp only [up1]
    cases f1 ρ with
    | ok d ρ1 =>
      dsimp only [R.bindS, up2]
      cases d with
      | dct k => cases dAt i ρ1 <;> rfl
      | _ => rfl
    | _ => rfl
def for1 (tg : Dt → Rho → Option Rho) (s : Rho → SR) (r : R (List Dt)) : SR := match r with
  | .ok ds ρ => forL tg s ds ρ
  | .ex x ρ => .ex x ρ
  | .bad => .bad
theorem x_for1 {tg : Dt → Rho → Option Rho} : for1 tg s (.ok ds ρ) = forL tg s ds ρ := rfl
theorem x_forS {it : Rho → R (List Dt)} {tg : Dt → Rho → Option Rho} : forS it tg s ρ = for1 tg s (it ρ) := by unfold forS; cases it ρ <;> rfl
def wh2 (c : Rho → R Bool) (b : Rho → SR) (n : Nat) (r : SR) : SR := match r with
  | .nx ρ2 => whS c b n ρ2
  | .ct ρ2 => whS c b n ρ2
  | .bk ρ2 => .nx ρ2
  | .rt s ρ2 => .rt s ρ2
  | .ex e ρ2 => .ex e ρ2
  | .bad => .bad
def wh1 (c : Rho → R Bool) (b : Rho → SR) (n : Nat) (r : R Bool) : SR := match r with
  | .ok t ρ => if t = true then wh2 c b n (b ρ) else .nx ρ
  | .ex x ρ => .ex x ρ
  | .bad => .bad
theorem x_wh {n : Nat} : whS c1 s (n + 1) ρ = wh1 c1 s n (c1 ρ) := by
  simp only [whS]
  cases c1 ρ with
  | ok t ρ1 => cases t <;> rfl
  | _ => rfl
theorem x_wh1t {n : Nat} : wh1 c1 s n (.ok true ρ) = wh2 c1 s n (s ρ) := rfl
theorem x_wh1f {n : Nat} : wh1 c1 s n (.ok false ρ) = .nx ρ := rfl
theorem x_wh2n {n : Nat} : wh2 c1 s n (.nx ρ) = whS c1 s n ρ := rfl
theorem x_wh2r {n : Nat} : wh2 c1 s n (.rt sl ρ) = .rt sl ρ := rfl
def RTof (r : SR) : FR := match r with
  | .rt s _ => .ok s
  | .nx _ => .ok (.fr .non)
  | .ex e _ => .ex e
  | _ => .bad
theorem x_RTr : RTof (.rt sl ρ) = .ok sl := rfl
theorem x_RTn : RTof (.nx ρ) = .ok (.fr .non) := rfl
def rf1 (b : Bool) (s : Rho → SR) (ρ : Rho) : FR := if b = true then RTof (s ρ) else .bad
theorem x_rf1 : rf1 true s ρ = RTof (s ρ) := rfl
theorem x_runF {np nn : Nat} : runF np nn s ds = rf1 (decide (ds.length = np)) s (envOf nn ds) := by
  unfold runF rf1 RTof
  by_cases h : ds.length = np
  · refine (if_pos h).trans (Eq.trans ?_ (if_pos (decide_eq_true h)).symm)
    cases s (envOf nn ds) <;> rfl
  · exact (if_neg h).trans (if_neg (by rw [decide_eq_false h]; exact Bool.false_ne_true)).symm
def MIo (o : Option (List (Key × Dt))) (s : Sl) : FM := match o with
  | some kvs' => .ok s kvs'
  | none => .bad
def RMof (r : SR) : FM := match r with
  | .rt s ρ => MIo (ioOf ρ) s
  | .nx ρ => MIo (ioOf ρ) (.fr .non)
  | .ex e _ => .ex e
  | _ => .bad
theorem x_RMr : RMof (.rt sl ρ) = MIo (ioOf ρ) sl := rfl
theorem x_RMn : RMof (.nx ρ) = MIo (ioOf ρ) (.fr .non) := rfl
theorem x_MIo : MIo (some kvs) sl = .ok sl kvs := rfl
theorem x_ioOf : ioOf (some (.io kvs) :: ρ) = some kvs := rfl
def rm1 (b : Bool) (s : Rho → SR) (ρ : Rho) : FM := if b = true then RMof (s ρ) else .bad
theorem x_rm1 : rm1 true s ρ = RMof (s ρ) := rfl
theorem x_runM {np nn : Nat} : runM np nn s kvs ds = rm1 (decide (ds.length + 1 = np)) s (envM nn kvs ds) := by
  unfold runM rm1 RMof MIo
  by_cases h : ds.length + 1 = np
  · refine (if_pos h).trans (Eq.trans ?_ (if_pos (decide_eq_true h)).symm)
    cases s (envM nn kvs ds) with
    | rt sl ρ => first | rfl | (dsimp only; cases ioOf ρ <;> rfl)
    | nx ρ => first | rfl | (dsimp only; cases ioOf ρ <;> rfl)
    | _ => rfl
  · exact (if_neg h).trans (if_neg (by rw [decide_eq_false h]; exact Bool.false_ne_true)).symm
-- places
theorem x_putR : putR (i + 1) sl ρ = some (ρ.set (i + 1) (some sl)) := by
  unfold putR
  rw [if_neg (fun z => by have := z.1; omega)]
theorem x_putR0f : putR 0 sl (some (.fr d) :: ρ) = some (some sl :: ρ) := rfl
theorem x_putR0l {xs : List Dt} : putR 0 sl (some (.ol xs) :: ρ) = some (some sl :: ρ) := rfl
theorem x_putR0d {xs : List (Key × Dt)} : putR 0 sl (some (.od xs) :: ρ) = some (some sl :: ρ) := rfl
theorem x_putR0n : putR 0 sl (none :: ρ) = some (some sl :: ρ) := rfl
theorem x_noIof : noIo (some (.fr d) :: ρ) = true := rfl
theorem x_noIol {xs : List Dt} : noIo (some (.ol xs) :: ρ) = true := rfl
theorem x_noIod {xs : List (Key × Dt)} : noIo (some (.od xs) :: ρ) = true := rfl
theorem x_noIon : noIo (none :: ρ) = true := rfl
theorem x_tgN : tgN i d ρ = putR i (.fr d) ρ := rfl
theorem x_tgT {is : List Nat} {ds : List Dt} : tgT is (.tup ds) ρ = putAll is ds ρ := rfl
theorem x_putAll0 : putAll [] [] ρ = some ρ := rfl
def pa1 (is : List Nat) (ds : List Dt) (o : Option Rho) : Option Rho := match o with
  | some ρ => putAll is ds ρ
  | none => none
theorem x_pa1 {is : List Nat} : pa1 is ds (some ρ) = putAll is ds ρ := rfl
theorem x_putAll {is : List Nat} : putAll (i :: is) (d :: ds) ρ = pa1 is ds (putR i (.fr d) ρ) := by
  rw [putAll]
  cases putR i (.fr d) ρ <;> rfl
def dSl (s : Option (Option Sl)) : Option (List (Key × Dt)) := match s with
  | some (some (.od kvs)) => some kvs
  | some (some (.io kvs)) => some kvs
  | _ => none
theorem x_dAt : dAt i ρ = dSl ρ[i]? := rfl
theorem x_dSlo {k : List (Key × Dt)} : dSl (some (some (.od k))) = some k := rfl
theorem x_dSli {k : List (Key × Dt)} : dSl (some (some (.io k))) = some k := rfl
def dPu (s : Option (Option Sl)) (i : Nat) (k : List (Key × Dt)) (ρ : Rho) : Rho := match s with
  | some (some (.od _)) => ρ.set i (some (.od k))
  | some (some (.io _)) => ρ.set i (some (.io k))
  | _ => ρ
theorem x_dPut {k : List (Key × Dt)} : dPut i k ρ = dPu ρ[i]? i k ρ := rfl
theorem x_dPuo {k k' : List (Key × Dt)} : dPu (some (some (.od k'))) i k ρ = ρ.set i (some (.od k)) := rfl
theorem x_dPui {k k' : List (Key × Dt)} : dPu (some (some (.io k'))) i k ρ = ρ.set i (some (.io k)) := rfl
def lSl (s : Option (Option Sl)) : Option (List Dt) := match s with
  | some (some (.ol xs)) => some xs
  | _ => none
theorem x_lAt : lAt i ρ = lSl ρ[i]? := rfl
theorem x_lSl {k : List Dt} : lSl (some (some (.ol k))) = some k := rfl
theorem x_envOf {n : Nat} {ds : List Dt} : envOf n ds = ds.map (fun d => some (.fr d)) ++ List.replicate (n - ds.length) none := rfl
theorem x_envM {n : Nat} {ds : List Dt} {k : List (Key × Dt)} : envM n k ds = some (.io k) :: (ds.map (fun d => some (.fr d)) ++ List.replicate (n - (ds.length + 1)) none) := rfl
theorem x_toDl {xs : List Dt} : toD (.ol xs) = some (.lst xs) := rfl
theorem x_toDd {xs : List (Key × Dt)} : toD (.od xs) = some (.dct xs) := rfl
theorem x_toDf : toD (.fr d) = some d := rfl
theorem x_nof : notIo (.fr d) = true := rfl
theorem x_nol {xs : List Dt} : notIo (.ol xs) = true := rfl
theorem x_nod {xs : List (Key × Dt)} : notIo (.od xs) = true := rfl
theorem x_okW {vs : List Nat} : okW vs ρ = (noIo ρ || vs.all (fun v => decide (v ≠ 0))) := rfl
theorem x_wipe0 : wipeR ρ [] = ρ := rfl
theorem x_wipe {vs : List Nat} : wipeR ρ (i :: vs) = (wipeR ρ vs).set i none := rfl
theorem x_yesT : yesT ρ = .ok true ρ := rfl
end
/-! ### numbers -/
section
theorem n_add (a b : Nat) : (a : Int) + (b : Int) = ((a + b : Nat) : Int) := rfl
theorem n_mul (a b : Nat) : (a : Int) * (b : Int) = ((a * b : Nat) : Int) := rfl
theorem n_mod (a b : Nat) : (a : Int) % (b : Int) = ((a % b : Nat) : Int) := rfl
theorem n_div (a b : Nat) : (a : Int) / (b : Int) = ((a / b : Nat) : Int) := rfl
theorem n_sub {a b : Nat} (h : b ≤ a) : (a : Int) - (b : Int) = ((a - b : Nat) : Int) := by omega
theorem n_lt (a b : Nat) : decide ((a : Int) < (b : Int)) = decide (a < b) := by simp only [Int.ofNat_lt]
theorem n_le (a b : Nat) : decide ((a : Int) ≤ (b : Int)) = decide (a ≤ b) := by simp only [Int.ofNat_le]
theorem n_eq (a b : Nat) : decide ((a : Int) = (b : Int)) = decide (a = b) := by simp only [Int.ofNat_inj]
theorem d_t {p : Prop} [Decidable p] (h : p) : decide p = true := decide_eq_true h
theorem d_f {p : Prop} [Decidable p] (h : ¬ p) : decide p = false := decide_eq_false h
theorem y_add (a b : Int) : addD (.int a) (.int b) = some (.int (a + b)) := rfl
theorem y_sub (a b : Int) : subD (.int a) (.int b) = some (.int (a - b)) := rfl
theorem y_mod {b : Nat} (a : Int) (h : 0 < b) : modD (.int a) (.int (b : Nat)) = some (.int (a % (b : Nat))) := o_mod (by omega)
theorem y_div {b : Nat} (a : Int) (h : 0 < b ∧ b < 2 ^ 63) : fdivD (.int a) (.int (b : Nat)) = some (.int (a / (b : Nat))) := o_fdiv (by omega) (by omega)
theorem y_mulL {a : Nat} {b : Int} (h : a < 2 ^ 63) : mulD (.int (a : Nat)) (.int b) = some (.int ((a : Nat) * b)) := o_mulL (by omega) (by omega)
theorem y_mulR {a : Int} {b : Nat} (h : b < 2 ^ 63) : mulD (.int a) (.int (b : Nat)) = some (.int (a * (b : Nat))) := o_mulR (by omega) (by omega)
theorem y_lt (a b : Int) : ltD (.int a) (.int b) = some (.bl (decide (a < b))) := rfl
theorem y_le (a b : Int) : leD (.int a) (.int b) = some (.bl (decide (a ≤ b))) := rfl
theorem y_gt (a b : Int) : gtD (.int a) (.int b) = some (.bl (decide (b < a))) := rfl
theorem y_ge (a b : Int) : geD (.int a) (.int b) = some (.bl (decide (b ≤ a))) := rfl
theorem y_cmp (p : Int → Int → Bool) (a b : Int) : cmpD p (.int a) (.int b) = some (.bl (p a b)) := rfl
theorem y_eq (a b : Int) : eqD (.int a) (.int b) = some (.bl (decide (a = b))) := rfl
theorem y_ne (a b : Int) : neD (.int a) (.int b) = some (.bl (!decide (a = b))) := rfl
theorem y_int (a : Int) : intD (.int a) = some (.int a) := rfl
theorem y_notD (b : Bool) : notD (.bl b) = some (.bl (!b)) := rfl
theorem y_truB (b : Bool) : truD (.bl b) = some b := rfl
theorem y_neg (a : Int) : negD (.int a) = some (.int (-a)) := rfl
theorem y_isi_n (T : Ty) : isiD T .non = some (.bl (isiT T .none)) := rfl
theorem y_isi_b (T : Ty) (b : Bool) : isiD T (.bl b) = some (.bl (isiT T .bool)) := rfl
theorem y_isi_i (T : Ty) (i : Int) : isiD T (.int i) = some (.bl (isiT T .int)) := rfl
theorem y_isi_s (T : Ty) (i : Str) : isiD T (.str i) = some (.bl (isiT T .str)) := rfl
theorem y_isi_l (T : Ty) (i : List Dt) : isiD T (.lst i) = some (.bl (isiT T .list)) := rfl
theorem y_isi_t (T : Ty) (i : List Dt) : isiD T (.tup i) = some (.bl (isiT T .tuple)) := rfl
theorem y_isi_d (T : Ty) (i : List (L2.Key × Dt)) : isiD T (.dct i) = some (.bl (isiT T .dict)) := rfl
theorem y_isi_c (T : Ty) (i : List Int) : isiD T (.scr i) = some (.bl (isiT T .list)) := rfl
end
/-! ### lists of natural numbers -/
abbrev NI (n : Nat) : Dt := .int (n : Nat)
def nl (ns : List Nat) : List Dt := ns.map fun n => .int (n : Nat)
section
variable {ns ms : List Nat} {n m : Nat}
theorem nl_nil : nl [] = [] := rfl
theorem nl_cons : nl (n :: ns) = .int (n : Nat) :: nl ns := rfl
theorem nl_app : nl (ns ++ ms) = nl ns ++ nl ms := List.map_append
theorem nl_len : (nl ns).length = ns.length := List.length_map _
theorem nl_get (i : Nat) : (nl ns)[i]? = (ns[i]?).map fun n => Dt.int (n : Nat) := List.getElem?_map
theorem l_len (ds : List Dt) : lenD (.lst ds) = some (.int (ds.length : Nat)) := rfl
theorem l_lenT (ds : List Dt) : lenD (.tup ds) = some (.int (ds.length : Nat)) := rfl
theorem l_it (ds : List Dt) : itD (.lst ds) = some ds := rfl
theorem l_itT (ds : List Dt) : itD (.tup ds) = some ds := rfl
theorem l_tuple (ds : List Dt) : tupleD (.lst ds) = some (.tup ds) := rfl
theorem l_list (ds : List Dt) : listD (.tup ds) = some (.lst ds) := rfl
theorem l_listL (ds : List Dt) : listD (.lst ds) = some (.lst ds) := rfl
theorem l_ix (ds : List Dt) (i : Nat) : ixD (.lst ds) (.int (i : Nat)) = ds[i]? := by
  show L2.atI ds (i : Nat) = _
  unfold L2.atI L2.ixN
  rw [if_pos (by omega)]
  by_cases h : i < ds.length
  · rw [if_pos (by omega)]; rfl
  · rw [if_neg (by omega), List.getElem?_eq_none (by omega)]; rfl
theorem l_ixT (ds : List Dt) (i : Nat) : ixD (.tup ds) (.int (i : Nat)) = ds[i]? := l_ix ds i
theorem l_sum : sumD (.lst (nl ns)) = some (.int (ns.sum : Nat)) := by
  have e : nl ns = (ns.map fun n => ((n : Nat) : Int)).map Dt.int := by unfold nl; rw [List.map_map]; rfl
  unfold sumD
  dsimp only
  rw [e, intsOf_map]
  show some (Dt.int _) = _
  congr 2
  induction ns with
  | nil => rfl
  | cons n ns ih =>
    have ih' := ih (by unfold nl; rw [List.map_map]; rfl)
    rw [List.map_cons, List.sum_cons, List.sum_cons, ih']
    rfl
theorem eqv_nl : ∀ ns ms : List Nat, PyData.eqvAll (toPyAll (nl ns)) (toPyAll (nl ms)) = decide (ns = ms)
  | [], [] => rfl
  | [], m :: ms => rfl
  | n :: ns, [] => rfl
  | n :: ns, m :: ms => by
    simp only [nl_cons, toPyAll, toPy, PyData.eqvAll, PyData.eqv, eqv_nl ns ms]
    by_cases h : n = m
    · subst h
      simp
    · have : ¬ ((n : Int) = (m : Int)) := by omega
      simp [h, this]
theorem nl_shape : ∀ ns : List Nat, plainAll (nl ns) = true ∧ PyData.canLayAll0 (toPyAll (nl ns)) = true ∧ PyData.depthAll (toPyAll (nl ns)) = 0
  | [] => ⟨rfl, rfl, rfl⟩
  | n :: ns => by
    obtain ⟨h1, h2, h3⟩ := nl_shape ns
    refine ⟨?_, ?_, ?_⟩
    · simp only [nl_cons, plainAll, plainD, h1, Bool.and_self]
    · simp only [nl_cons, toPyAll, toPy, PyData.canLayAll0, PyData.canLay0, h2, Bool.and_self]
    · simp only [nl_cons, toPyAll, toPy, PyData.depthAll, PyData.depth, h3, Nat.max_self]
theorem nl_shp (ns : List Nat) : shp (.lst (nl ns)) = true := by
  obtain ⟨h1, h2, h3⟩ := nl_shape ns
  simp only [shp, plainD, h1, SeqAt.shaped, toPy, PyData.canLay0, h2, PyData.depth, h3, Bool.true_and]
  rfl
theorem nl_shpT (ns : List Nat) : shp (.tup (nl ns)) = true := by
  obtain ⟨h1, h2, h3⟩ := nl_shape ns
  simp only [shp, plainD, h1, SeqAt.shaped, toPy, PyData.canLay0, h2, PyData.depth, h3, Bool.true_and]
  rfl
theorem l_eq : eqD (.lst (nl ns)) (.lst (nl ms)) = some (.bl (decide (ns = ms))) := by
  unfold eqD
  dsimp only
  rw [if_pos ⟨nl_shp ns, nl_shp ms⟩]
  simp only [eqt, toPy, PyData.eqv, eqv_nl]
theorem l_ne : neD (.lst (nl ns)) (.lst (nl ms)) = some (.bl (!decide (ns = ms))) := by
  unfold neD
  dsimp only
  rw [if_pos ⟨nl_shp ns, nl_shp ms⟩]
  simp only [eqt, toPy, PyData.eqv, eqv_nl]
theorem l_eq0 : eqD (.lst (nl ns)) (.lst []) = some (.bl (decide (ns = []))) := l_eq (ms := [])
theorem l_ne0 : neD (.lst (nl ns)) (.lst []) = some (.bl (!decide (ns = []))) := l_ne (ms := [])
theorem l_eqT : eqD (.tup (nl ns)) (.tup (nl ms)) = some (.bl (decide (ns = ms))) := by
  unfold eqD
  dsimp only
  rw [if_pos ⟨nl_shpT ns, nl_shpT ms⟩]
  simp only [eqt, toPy, PyData.eqv, eqv_nl]
theorem nl_flat : ∀ ns : List Nat, (nl ns).all flatD = true
  | [] => rfl
  | n :: ns => by
    rw [nl_cons, List.all_cons, nl_flat ns]
    rfl
theorem nl_inV : ∀ ns : List Nat, L2.inV (.int (m : Nat)) ((nl ns).map toV) = decide (m ∈ ns)
  | [] => rfl
  | n :: ns => by
    have ih := nl_inV ns
    rw [nl_cons, List.map_cons]
    unfold L2.inV at ih ⊢
    rw [List.any_cons, ih]
    show (L2.eqV (.int (n : Nat)) (.int (m : Nat)) || decide (m ∈ ns)) = decide (m ∈ n :: ns)
    by_cases h : n = m
    · subst h
      simp [L2.eqV]
    · have h1 : ¬ ((n : Int) = (m : Int)) := by omega
      have h2 : m ≠ n := fun z => h z.symm
      simp [L2.eqV, h1, h2]
theorem l_in : inD (.int (m : Nat)) (.lst (nl ns)) = some (.bl (decide (m ∈ ns))) := by
  unfold inD inB
  dsimp only
  rw [if_pos ⟨rfl, nl_flat ns⟩]
  show some (Dt.bl (L2.inV (.int (m : Nat)) ((nl ns).map toV))) = _
  rw [nl_inV]
theorem l_nin : ninD (.int (m : Nat)) (.lst (nl ns)) = some (.bl (!decide (m ∈ ns))) := by
  unfold ninD inB
  dsimp only
  rw [if_pos ⟨rfl, nl_flat ns⟩]
  show some (Dt.bl (!L2.inV (.int (m : Nat)) ((nl ns).map toV))) = _
  rw [nl_inV]
theorem l_cat (xs ys : List Dt) (h : xs.length + ys.length ≤ 1000000) : addD (.lst xs) (.lst ys) = some (.lst (xs ++ ys)) := if_pos h
theorem l_catT (xs ys : List Dt) (h : xs.length + ys.length ≤ 1000000) : addD (.tup xs) (.tup ys) = some (.tup (xs ++ ys)) := if_pos h
theorem nl_stp (c : Int) : stp (nl ns) c = nl (stp ns c) := by
  unfold stp pickI
  rw [nl_len]
  generalize sliceRange 0 (ns.length : Nat) c = ix
  induction ix with
  | nil => rfl
  | cons i ix ih =>
    rw [List.filterMap_cons, List.filterMap_cons, nl_get, ih]
    cases ns[i]? <;> rfl
theorem l_stp {k : Nat} (h : 0 < k) : stpD (.lst (nl ns)) (some (k : Nat)) = some (.lst (nl (stp ns (k : Nat)))) := by
  unfold stpD
  dsimp only
  rw [if_pos (by omega), nl_stp]
/-- every k-th one of a row of k * c things -/
theorem stp_range {c k : Nat} (hk : 0 < k) (f : Nat → Nat) : stp ((List.range (k * c)).map f) (k : Nat) = (List.range c).map fun i => f (i * k) := by
  unfold stp pickI sliceRange
  rw [List.length_map, List.length_range]
  have e1 : (if ((k : Nat) : Int) > 0 then (if (0 : Int) < ((k * c : Nat) : Int) then (((k * c : Nat) : Int) - 0 + (k : Nat) - 1) / (k : Nat) else 0) else if (0 : Int) > ((k * c : Nat) : Int) then (0 - ((k * c : Nat) : Int) - (k : Nat) - 1) / -((k : Nat) : Int) else 0).toNat = c := by
    rw [if_pos (by omega)]
    by_cases hc : c = 0
    · subst hc
      rfl
    · have hp : 0 < k * c := Nat.mul_pos hk (by omega)
      rw [if_pos (by omega)]
      have e2 : ((k * c : Nat) : Int) - 0 + ((k : Nat) : Int) - 1 = ((k * c + k - 1 : Nat) : Int) := by omega
      rw [e2]
      show (((k * c + k - 1) / k : Nat) : Int).toNat = c
      rw [Int.toNat_natCast]
      rw [show k * c + k - 1 = (k - 1) + k * c by omega, Nat.add_mul_div_left _ _ hk, Nat.div_eq_of_lt (by omega), Nat.zero_add]
  simp only [e1]
  rw [List.filterMap_map]
  have e3 : ∀ i ∈ List.range c, ((fun x => ((List.range (k * c)).map f)[x]?) ∘ fun j : Nat => (0 + ((k : Nat) : Int) * (j : Int)).toNat) i = some (f (i * k)) := fun i hi => by
    rw [List.mem_range] at hi
    have e4 : (0 + ((k : Nat) : Int) * (i : Int)).toNat = i * k := by
      rw [Int.zero_add, n_mul, Int.toNat_natCast, Nat.mul_comm]
    show ((List.range (k * c)).map f)[(0 + ((k : Nat) : Int) * (i : Int)).toNat]? = _
    have e5 : i * k < k * c := by
      rw [Nat.mul_comm]
      exact Nat.mul_lt_mul_of_pos_left hi hk
    rw [e4, List.getElem?_map, List.getElem?_range e5]
    rfl
  generalize hg : ((fun x => ((List.range (k * c)).map f)[x]?) ∘ fun j : Nat => (0 + ((k : Nat) : Int) * (j : Int)).toNat) = g at e3
  clear hg e1
  generalize List.range c = l at e3
  induction l with
  | nil => rfl
  | cons a l ih =>
    rw [List.filterMap_cons, e3 a (List.mem_cons_self ..), List.map_cons, ih fun i hi => e3 i (List.mem_cons_of_mem _ hi)]
theorem l_rng1 {n : Nat} (h : n < 2 ^ 62) : rngD1 [.int (n : Nat)] = some (nl (List.range n)) := by
  have e : (n : Int).toNat = n := rfl
  unfold rngD1
  dsimp only
  rw [if_pos ⟨by omega, by omega⟩, e]
  rfl
theorem l_rng2 {a b : Nat} (h : b < 2 ^ 62 ∧ a < 2 ^ 62) : rngD2 [.int (a : Nat), .int (b : Nat)] = some (nl (List.range' a (b - a))) := by
  have e : ((b : Int) - (a : Int)).toNat = b - a := by omega
  unfold rngD2
  dsimp only
  rw [if_pos ⟨by omega, by omega, by omega, by omega⟩, e]
  unfold nl
  rw [List.range'_eq_map_range, List.map_map]
  rfl
theorem lc_nat {ρ : Rho} {tg : Dt → Rho → Option Rho} {ct : Rho → R Bool} {el : Rho → R Dt} {vs : List Nat} (p : Nat → Bool) (F : Nat → Dt) : ∀ (ns : List Nat), (∀ n ∈ ns, ∃ ρ1, tg (.int (n : Nat)) ρ = some ρ1 ∧ ct ρ1 = .ok (p n) ρ1 ∧ (p n = true → el ρ1 = .ok (F n) ρ1) ∧ wipeR ρ1 vs = ρ) → lcL tg ct el vs (nl ns) ρ = .ok ((ns.filter p).map F) ρ
  | [], _ => rfl
  | x :: xs, h => by
    obtain ⟨ρ1, h1, h2, h3, h4⟩ := h x (List.mem_cons_self ..)
    have ih := lc_nat p F xs fun y hy => h y (List.mem_cons_of_mem _ hy)
    rw [nl_cons]
    simp only [lcL, h1, h2, R.bind]
    cases e : p x with
    | true =>
      rw [if_pos rfl, List.filter_cons_of_pos e, h3 e]
      simp only [h4, ih, List.map_cons]
    | false =>
      rw [if_neg Bool.false_ne_true, List.filter_cons_of_neg (by rw [e]; exact Bool.false_ne_true)]
      simp only [h4, ih]
theorem lc_natN {ρ : Rho} {tg : Dt → Rho → Option Rho} {ct : Rho → R Bool} {el : Rho → R Dt} {vs : List Nat} (p : Nat → Bool) (F : Nat → Nat) (ns : List Nat) (h : ∀ n ∈ ns, ∃ ρ1, tg (.int (n : Nat)) ρ = some ρ1 ∧ ct ρ1 = .ok (p n) ρ1 ∧ (p n = true → el ρ1 = .ok (.int (F n : Nat)) ρ1) ∧ wipeR ρ1 vs = ρ) : lcL tg ct el vs (nl ns) ρ = .ok (nl ((ns.filter p).map F)) ρ := by
  rw [lc_nat p (fun n => .int (F n : Nat)) ns h]
  unfold nl
  rw [List.map_map]
  rfl
theorem lc_natF {ρ : Rho} {tg : Dt → Rho → Option Rho} {ct : Rho → R Bool} {el : Rho → R Dt} {vs : List Nat} (p : Nat → Bool) (ns : List Nat) (h : ∀ n ∈ ns, ∃ ρ1, tg (.int (n : Nat)) ρ = some ρ1 ∧ ct ρ1 = .ok (p n) ρ1 ∧ (p n = true → el ρ1 = .ok (.int (n : Nat)) ρ1) ∧ wipeR ρ1 vs = ρ) : lcL tg ct el vs (nl ns) ρ = .ok (nl (ns.filter p)) ρ := by
  rw [lc_natN p (fun n => n) ns h, List.map_id']
theorem lc_natM {ρ : Rho} {tg : Dt → Rho → Option Rho} {el : Rho → R Dt} {vs : List Nat} (F : Nat → Nat) (ns : List Nat) (h : ∀ n ∈ ns, ∃ ρ1, tg (.int (n : Nat)) ρ = some ρ1 ∧ el ρ1 = .ok (.int (F n : Nat)) ρ1 ∧ wipeR ρ1 vs = ρ) : lcL tg yesT el vs (nl ns) ρ = .ok (nl (ns.map F)) ρ := by
  rw [lc_natN (fun _ => true) F ns fun n hn => by
    obtain ⟨ρ1, h1, h2, h3⟩ := h n hn
    exact ⟨ρ1, h1, rfl, fun _ => h2, h3⟩, List.filter_eq_self.mpr fun _ _ => rfl]
end
end PL
namespace PL
open PySem DW
open L2 (Key)
/-! ### loops -/
section
variable {α : Type} {tg : Dt → Rho → Option Rho} {bd : Rho → SR} {ρ ρ1 : Rho} {d : Dt}
def fb1 (bd : Rho → SR) (o : Option Rho) : SR := match o with
  | some ρ => bd ρ
  | none => .bad
def fb (tg : Dt → Rho → Option Rho) (bd : Rho → SR) (d : Dt) (ρ : Rho) : SR := fb1 bd (tg d ρ)
theorem x_fb : fb tg bd d ρ = fb1 bd (tg d ρ) := rfl
theorem x_fb1 : fb1 bd (some ρ) = bd ρ := rfl
theorem forL_cons {ds : List Dt} {ρ' : Rho} (h : fb tg bd d ρ = .nx ρ') : forL tg bd (d :: ds) ρ = forL tg bd ds ρ' := by
  unfold fb fb1 at h
  simp only [forL]
  cases e : tg d ρ with
  | none => rw [e] at h; cases h
  | some ρ1 =>
    rw [e] at h
    dsimp only at h ⊢
    rw [h]
theorem for_ind (F : α → Dt) (P : Nat → Rho → Prop) : ∀ (xs : List α) (j : Nat) (ρ : Rho), (∀ i x ρ, xs[i]? = some x → P (j + i) ρ → ∃ ρ', fb tg bd (F x) ρ = .nx ρ' ∧ P (j + i + 1) ρ') → P j ρ → ∃ ρ', forL tg bd (xs.map F) ρ = .nx ρ' ∧ P (j + xs.length) ρ'
  | [], j, ρ, _, h => ⟨ρ, rfl, h⟩
  | x :: xs, j, ρ, hs, h => by
    obtain ⟨ρ2, h2, h3⟩ := hs 0 x ρ rfl h
    obtain ⟨ρ', q1, q2⟩ := for_ind F P xs (j + 1) ρ2 (fun i d ρ hd hI => by
      have := hs (i + 1) d ρ (by simpa using hd) (by rw [show j + (i + 1) = j + 1 + i by omega]; exact hI)
      rwa [show j + (i + 1) + 1 = j + 1 + i + 1 by omega] at this) h3
    refine ⟨ρ', ?_, ?_⟩
    · rw [List.map_cons, forL_cons h2]; exact q1
    · rw [List.length_cons, show j + (xs.length + 1) = j + 1 + xs.length by omega]
      exact q2
/-- a for whose turns keep P, none of which returns -/
theorem for_P {F : α → Dt} (P : Nat → Rho → Prop) {xs : List α} {ρ : Rho} (h0 : P 0 ρ) (hs : ∀ i x ρ, xs[i]? = some x → P i ρ → ∃ ρ', fb tg bd (F x) ρ = .nx ρ' ∧ P (i + 1) ρ') : ∃ ρ', forL tg bd (xs.map F) ρ = .nx ρ' ∧ P xs.length ρ' := by
  have := for_ind (tg := tg) (bd := bd) F P xs 0 ρ (fun i x ρ hx hI => by rw [Nat.zero_add] at hI ⊢; exact hs i x ρ hx hI) h0
  rwa [Nat.zero_add] at this
theorem for_nl (P : Nat → Rho → Prop) {ns : List Nat} {ρ : Rho} (h0 : P 0 ρ) (hs : ∀ i x ρ, ns[i]? = some x → P i ρ → ∃ ρ', fb tg bd (.int (x : Nat)) ρ = .nx ρ' ∧ P (i + 1) ρ') : ∃ ρ', forL tg bd (nl ns) ρ = .nx ρ' ∧ P ns.length ρ' := for_P (F := fun n : Nat => Dt.int (n : Nat)) P h0 hs
/-- a for as a fold over a state -/
theorem for_fold {σ : Type} {F : α → Dt} (enc : σ → Rho) (step : σ → α → σ) (Inv : σ → Prop) : ∀ {xs : List α} {s : σ}, Inv s → (∀ s x, x ∈ xs → Inv s → fb tg bd (F x) (enc s) = .nx (enc (step s x)) ∧ Inv (step s x)) → forL tg bd (xs.map F) (enc s) = .nx (enc (xs.foldl step s)) ∧ Inv (xs.foldl step s)
  | [], s, hi, _ => ⟨rfl, hi⟩
  | x :: xs, s, hi, hs => by
    obtain ⟨h1, h2⟩ := hs s x (List.mem_cons_self ..) hi
    rw [List.map_cons, forL_cons h1]
    exact for_fold enc step Inv h2 fun s y hy hi => hs s y (List.mem_cons_of_mem _ hy) hi
end
/-! ### comprehensions over any things -/
section
variable {α : Type} {ρ : Rho} {tg : Dt → Rho → Option Rho} {ct : Rho → R Bool} {el : Rho → R Dt} {vs : List Nat}
theorem lc_any {F : α → Dt} (p : α → Bool) (G : α → Dt) : ∀ (xs : List α), (∀ x ∈ xs, ∃ ρ1, tg (F x) ρ = some ρ1 ∧ ct ρ1 = .ok (p x) ρ1 ∧ (p x = true → el ρ1 = .ok (G x) ρ1) ∧ wipeR ρ1 vs = ρ) → lcL tg ct el vs (xs.map F) ρ = .ok ((xs.filter p).map G) ρ
  | [], _ => rfl
  | x :: xs, h => by
    obtain ⟨ρ1, h1, h2, h3, h4⟩ := h x (List.mem_cons_self ..)
    have ih := lc_any p G xs fun y hy => h y (List.mem_cons_of_mem _ hy)
    rw [List.map_cons]
    simp only [lcL, h1, h2, R.bind]
    cases e : p x with
    | true =>
      rw [if_pos rfl, List.filter_cons_of_pos e, h3 e]
      simp only [h4, ih, List.map_cons]
    | false =>
      rw [if_neg Bool.false_ne_true, List.filter_cons_of_neg (by rw [e]; exact Bool.false_ne_true)]
      simp only [h4, ih]
end
end PL
namespace PL
open PySem DW
theorem nl_last {ns : List Nat} {n : Nat} : ixD (.lst (nl (ns ++ [n]))) (.int (-((1 : Nat) : Int))) = some (.int (n : Nat)) := by
  show L2.atI (nl (ns ++ [n])) _ = _
  unfold L2.atI L2.ixN
  rw [if_neg (by omega), nl_len, List.length_append, List.length_singleton, if_pos (by omega)]
  show (nl (ns ++ [n]))[((-((1 : Nat) : Int)) + ((ns.length + 1 : Nat) : Int)).toNat]? = _
  rw [show ((-((1 : Nat) : Int)) + ((ns.length + 1 : Nat) : Int)).toNat = ns.length by omega, nl_get, List.getElem?_append_right (Nat.le_refl _), Nat.sub_self]
  rfl
end PL
namespace PL
open PySem DW
theorem l_eq00 : eqD (.lst []) (.lst []) = some (.bl true) := rfl
theorem l_ne00 : neD (.lst []) (.lst []) = some (.bl false) := rfl
theorem l_eq01 {ns : List Nat} : eqD (.lst []) (.lst (nl ns)) = some (.bl (decide ([] = ns))) := l_eq (ns := [])
theorem l_ne01 {ns : List Nat} : neD (.lst []) (.lst (nl ns)) = some (.bl (!decide ([] = ns))) := l_ne (ns := [])
end PL
namespace PL
open PySem DW
theorem l_lenS (ns : List Int) : lenD (.scr ns) = some (.int (ns.length : Nat)) := rfl
end PL
namespace PL
open PySem DW
open L2 (Key)
/-! ### dicts whose keys are natural numbers, all with True -/
section
variable {ρ : Rho} {it : Rho → R (List Dt)} {tg : Dt → Rho → Option Rho} {c1 : Rho → R Bool} {f1 f2 : Rho → R Dt} {vs : List Nat} {ds : List Dt} {kvs : List (Key × Dt)}
def ODof (r : R (List (Key × Dt))) : R Sl := match r with
  | .ok ds ρ => .ok (.od ds) ρ
  | _ => .bad
theorem x_ODof : ODof (.ok kvs ρ) = .ok (.od kvs) ρ := rfl
def dc2 (b : Bool) (tg : Dt → Rho → Option Rho) (c : Rho → R Bool) (e e' : Rho → R Dt) (vs : List Nat) (xs : List Dt) (ρ : Rho) : R Sl := if b = true then ODof (dcL tg c e e' vs xs (wipeR ρ vs) []) else .bad
def dc1 (tg : Dt → Rho → Option Rho) (c : Rho → R Bool) (e e' : Rho → R Dt) (vs : List Nat) (r : R (List Dt)) : R Sl := match r with
  | .ok xs ρ => dc2 (okW vs ρ && decide (xs.length ≤ 1000000)) tg c e e' vs xs ρ
  | .ex x ρ => .ex x ρ
  | .bad => .bad
theorem x_dc2 : dc2 true tg c1 f1 f2 vs ds ρ = ODof (dcL tg c1 f1 f2 vs ds (wipeR ρ vs) []) := rfl
theorem x_dc1 : dc1 tg c1 f1 f2 vs (.ok ds ρ) = dc2 (okW vs ρ && decide (ds.length ≤ 1000000)) tg c1 f1 f2 vs ds ρ := rfl
theorem x_dcO : dcO it tg c1 f1 f2 vs ρ = dc1 tg c1 f1 f2 vs (it ρ) := by
  unfold dcO
  cases it ρ with
  | ok xs ρ1 =>
    simp only [R.bind, dc1, dc2, Bool.and_eq_true, decide_eq_true_eq]
    split
    · cases dcL tg c1 f1 f2 vs xs (wipeR ρ1 vs) [] <;> rfl
    · rfl
  | _ => rfl
def tk (ks : List Nat) : List (Key × Dt) := ks.map fun x => (.inl ((x : Nat) : Int), .bl true)
def insN (ks : List Nat) (x : Nat) : List Nat := if x ∈ ks then ks else ks ++ [x]
def mrg (ks ms : List Nat) : List Nat := ms.foldl insN ks
theorem tk_len (ks : List Nat) : (tk ks).length = ks.length := List.length_map _
theorem tk_nil : tk [] = [] := rfl
theorem tk_any (ks : List Nat) (x : Nat) : ((tk ks).any fun kv => decide (kv.1 = (.inl ((x : Nat) : Int) : Key))) = decide (x ∈ ks) := by
  induction ks with
  | nil => rfl
  | cons k ks ih =>
    show (decide ((.inl ((k : Nat) : Int) : Key) = .inl ((x : Nat) : Int)) || (tk ks).any _) = _
    rw [ih]
    by_cases h : x = k
    · subst h; simp
    · have : ¬ ((.inl ((k : Nat) : Int) : Key) = .inl ((x : Nat) : Int)) := fun z => h (by have := Sum.inl.inj z; omega)
      simp [this, h]
theorem tk_get (ks : List Nat) (x : Nat) : (getK (tk ks) (.inl ((x : Nat) : Int))).isSome = decide (x ∈ ks) := by
  rw [← tk_any]
  unfold getK
  generalize tk ks = l
  induction l with
  | nil => rfl
  | cons a l ih =>
    rw [List.find?_cons, List.any_cons]
    cases decide (a.1 = (.inl ((x : Nat) : Int) : Key)) with
    | true => rfl
    | false => rw [Bool.false_or]; exact ih
theorem tk_put (ks : List Nat) (x : Nat) : putKD (tk ks) (.inl ((x : Nat) : Int)) (.bl true) = tk (insN ks x) := by
  unfold putKD insN
  rw [tk_any]
  by_cases h : x ∈ ks
  · rw [if_pos (decide_eq_true h), if_pos h]
    unfold tk
    rw [List.map_map]
    refine List.map_congr_left fun k _ => ?_
    show (if (.inl ((k : Nat) : Int) : Key) = .inl ((x : Nat) : Int) then ((.inl ((k : Nat) : Int) : Key), Dt.bl true) else (.inl ((k : Nat) : Int), .bl true)) = _
    split <;> rfl
  · rw [if_neg (by rw [decide_eq_false h]; exact Bool.false_ne_true), if_neg h]
    unfold tk
    rw [List.map_append]
    rfl
theorem tk_merge (ms : List Nat) : ∀ ks : List Nat, mergeD (tk ks) (tk ms) = tk (mrg ks ms) := by
  induction ms with
  | nil => intro ks; rfl
  | cons m ms ih =>
    intro ks
    show mergeD (putKD (tk ks) (.inl ((m : Nat) : Int)) (.bl true)) (tk ms) = tk (mrg (insN ks m) ms)
    rw [tk_put, ih]
theorem l_nin_tk {x : Nat} {ks : List Nat} : ninD (.int (x : Nat)) (.dct (tk ks)) = some (.bl (!decide (x ∈ ks))) := by
  show some (Dt.bl (!(getK (tk ks) (.inl ((x : Nat) : Int))).isSome)) = _
  rw [tk_get]
theorem l_in_tk {x : Nat} {ks : List Nat} : inD (.int (x : Nat)) (.dct (tk ks)) = some (.bl (decide (x ∈ ks))) := by
  show some (Dt.bl (getK (tk ks) (.inl ((x : Nat) : Int))).isSome) = _
  rw [tk_get]
theorem dc_tk {ek ev : Rho → R Dt} {vs : List Nat} : ∀ (ns acc : List Nat), (∀ n ∈ ns, ∃ ρ1, tg (.int (n : Nat)) ρ = some ρ1 ∧ ek ρ1 = .ok (.int (n : Nat)) ρ1 ∧ ev ρ1 = .ok (.bl true) ρ1 ∧ wipeR ρ1 vs = ρ) → dcL tg yesT ek ev vs (nl ns) ρ (tk acc) = .ok (tk (mrg acc ns)) ρ
  | [], acc, _ => rfl
  | n :: ns, acc, h => by
    obtain ⟨ρ1, h1, h2, h3, h4⟩ := h n (List.mem_cons_self ..)
    rw [nl_cons]
    simp only [dcL, h1, yesT, R.bind, h2, h3, if_true, keyD, h4]
    rw [tk_put, dc_tk ns _ fun m hm => h m (List.mem_cons_of_mem _ hm)]
    rfl
theorem mem_insN {ks : List Nat} {x y : Nat} : y ∈ insN ks x ↔ y ∈ ks ∨ y = x := by
  unfold insN
  split
  · rename_i h
    constructor
    · exact fun z => .inl z
    · rintro (z | rfl)
      · exact z
      · exact h
  · rw [List.mem_append, List.mem_singleton]
theorem mem_mrg {ms : List Nat} : ∀ {ks : List Nat} {y : Nat}, y ∈ mrg ks ms ↔ y ∈ ks ∨ y ∈ ms := by
  induction ms with
  | nil => intro ks y; simp [mrg]
  | cons m ms ih =>
    intro ks y
    show y ∈ mrg (insN ks m) ms ↔ _
    rw [ih, mem_insN, List.mem_cons]
    constructor
    · rintro ((h | h) | h)
      · exact .inl h
      · exact .inr (.inl h)
      · exact .inr (.inr h)
    · rintro (h | h | h)
      · exact .inl (.inl h)
      · exact .inl (.inr h)
      · exact .inr h
theorem insN_nodup {ks : List Nat} {x : Nat} (h : ks.Nodup) : (insN ks x).Nodup := by
  unfold insN
  split
  · exact h
  · rename_i hx
    rw [List.nodup_append]
    refine ⟨h, by simp, fun a ha c hc => ?_⟩
    rw [List.mem_singleton] at hc
    subst hc
    exact fun z => hx (z ▸ ha)
theorem mrg_nodup {ms : List Nat} : ∀ {ks : List Nat}, ks.Nodup → (mrg ks ms).Nodup := by
  induction ms with
  | nil => exact fun h => h
  | cons m ms ih => exact fun h => ih (insN_nodup h)
theorem pairs_tk (ns : List Nat) : dictD (.lst (ns.map fun n => Dt.tup [.int (n : Nat), .bl true])) = some (.dct (tk (mrg [] ns))) := by
  unfold dictD
  dsimp only
  have : pairsD (ns.map fun n => Dt.tup [.int (n : Nat), .bl true]) = some (tk ns) := by
    induction ns with
    | nil => rfl
    | cons n ns ih =>
      rw [List.map_cons]
      unfold pairsD
      rw [ih]
      rfl
  rw [this, ← tk_merge]
  rfl
theorem l_min {ns : List Nat} {x : Nat} (h1 : x ∈ ns) (h2 : ∀ y ∈ ns, x ≤ y) : minD (.lst (nl ns)) = some (.int (x : Nat)) := by
  have key : ∀ (l : List Nat) (m : Nat), (x = m ∨ x ∈ l) → x ≤ m → (∀ y ∈ l, x ≤ y) → minL (m : Nat) (l.map fun n => ((n : Nat) : Int)) = (x : Nat) := by
    intro l
    induction l with
    | nil =>
      intro m h _ _
      rcases h with h | h
      · subst h; rfl
      · cases h
    | cons a l ih =>
      intro m h hm hl
      show minL (if ((a : Nat) : Int) < (m : Nat) then ((a : Nat) : Int) else (m : Nat)) (l.map _) = _
      have ha := hl a (List.mem_cons_self ..)
      have hl' := fun y hy => hl y (List.mem_cons_of_mem _ hy)
      split
      · refine ih a ?_ ha hl'
        rcases h with h | h
        · omega
        · exact List.mem_cons.mp h
      · refine ih m ?_ hm hl'
        rcases h with h | h
        · exact .inl h
        · rcases List.mem_cons.mp h with h | h
          · exact .inl (by omega)
          · exact .inr h
  cases ns with
  | nil => cases h1
  | cons n ns =>
    unfold minD
    dsimp only
    have e : nl (n :: ns) = ((n :: ns).map fun n => ((n : Nat) : Int)).map Dt.int := by unfold nl; rw [List.map_map]; rfl
    rw [e, intsOf_map]
    show some (Dt.int (minL (n : Nat) (ns.map fun n => ((n : Nat) : Int)))) = _
    rw [key ns n (List.mem_cons.mp h1) (h2 n (List.mem_cons_self ..)) fun y hy => h2 y (List.mem_cons_of_mem _ hy)]
end
end PL

set_option Elab.async false
set_option linter.all false
set_option autoImplicit false
set_option maxRecDepth 100000
set_option maxHeartbeats 4000000
/-! P4: loops met in a goal; more comprehensions -/
namespace PL
open PySem DW
open L2 (Key)
section
variable {α : Type} {tg : Dt → Rho → Option Rho} {bd k : Rho → SR} {c : Rho → R Bool} {ρ : Rho} {ns : List Nat} {F : α → Dt} {xs : List α}
theorem rt_for {X : FR} (P : Nat → Rho → Prop) (h0 : P 0 ρ) (hs : ∀ i x ρ, ns[i]? = some x → P i ρ → ∃ ρ', fb tg bd (.int (x : Nat)) ρ = .nx ρ' ∧ P (i + 1) ρ') (hk : ∀ ρ', P ns.length ρ' → RTof (k ρ') = X) : RTof (SB (forL tg bd (nl ns) ρ) k) = X := by
  obtain ⟨ρ', h1, h2⟩ := for_nl P h0 hs
  rw [h1]
  exact hk ρ' h2
theorem rm_for {X : FM} (P : Nat → Rho → Prop) (h0 : P 0 ρ) (hs : ∀ i x ρ, ns[i]? = some x → P i ρ → ∃ ρ', fb tg bd (.int (x : Nat)) ρ = .nx ρ' ∧ P (i + 1) ρ') (hk : ∀ ρ', P ns.length ρ' → RMof (k ρ') = X) : RMof (SB (forL tg bd (nl ns) ρ) k) = X := by
  obtain ⟨ρ', h1, h2⟩ := for_nl P h0 hs
  rw [h1]
  exact hk ρ' h2
theorem sb_for {X : SR} (P : Nat → Rho → Prop) (h0 : P 0 ρ) (hs : ∀ i x ρ, ns[i]? = some x → P i ρ → ∃ ρ', fb tg bd (.int (x : Nat)) ρ = .nx ρ' ∧ P (i + 1) ρ') (hk : ∀ ρ', P ns.length ρ' → k ρ' = X) : SB (forL tg bd (nl ns) ρ) k = X := by
  obtain ⟨ρ', h1, h2⟩ := for_nl P h0 hs
  rw [h1]
  exact hk ρ' h2
theorem rt_forA {X : FR} (P : Nat → Rho → Prop) (h0 : P 0 ρ) (hs : ∀ i x ρ, xs[i]? = some x → P i ρ → ∃ ρ', fb tg bd (F x) ρ = .nx ρ' ∧ P (i + 1) ρ') (hk : ∀ ρ', P xs.length ρ' → RTof (k ρ') = X) : RTof (SB (forL tg bd (xs.map F) ρ) k) = X := by
  obtain ⟨ρ', h1, h2⟩ := for_P (F := F) P h0 hs
  rw [h1]
  exact hk ρ' h2
theorem rm_forA {X : FM} (P : Nat → Rho → Prop) (h0 : P 0 ρ) (hs : ∀ i x ρ, xs[i]? = some x → P i ρ → ∃ ρ', fb tg bd (F x) ρ = .nx ρ' ∧ P (i + 1) ρ') (hk : ∀ ρ', P xs.length ρ' → RMof (k ρ') = X) : RMof (SB (forL tg bd (xs.map F) ρ) k) = X := by
  obtain ⟨ρ', h1, h2⟩ := for_P (F := F) P h0 hs
  rw [h1]
  exact hk ρ' h2
theorem sb_forA {X : SR} (P : Nat → Rho → Prop) (h0 : P 0 ρ) (hs : ∀ i x ρ, xs[i]? = some x → P i ρ → ∃ ρ', fb tg bd (F x) ρ = .nx ρ' ∧ P (i + 1) ρ') (hk : ∀ ρ', P xs.length ρ' → k ρ' = X) : SB (forL tg bd (xs.map F) ρ) k = X := by
  obtain ⟨ρ', h1, h2⟩ := for_P (F := F) P h0 hs
  rw [h1]
  exact hk ρ' h2
theorem wh_P (P : Nat → Rho → Prop) (Q : Rho → Prop) (hs : ∀ q ρ, P q ρ → (∃ ρ1, c ρ = .ok false ρ1 ∧ Q ρ1) ∨ ∃ q' ρ1 ρ2, c ρ = .ok true ρ1 ∧ bd ρ1 = .nx ρ2 ∧ P q' ρ2 ∧ q' < q) : ∀ (fuel q : Nat) (ρ : Rho), P q ρ → q < fuel → ∃ ρ', whS c bd fuel ρ = .nx ρ' ∧ Q ρ'
  | 0, q, ρ, _, h => absurd h (Nat.not_lt_zero _)
  | n + 1, q, ρ, hp, hq => by
    rcases hs q ρ hp with ⟨ρ1, h1, h2⟩ | ⟨q', ρ1, ρ2, h1, h2, h3, h4⟩
    · exact ⟨ρ1, by rw [x_wh, h1, x_wh1f], h2⟩
    · obtain ⟨ρ', h5, h6⟩ := wh_P P Q hs n q' ρ2 h3 (by omega)
      exact ⟨ρ', by rw [x_wh, h1, x_wh1t, h2, x_wh2n, h5], h6⟩
theorem rt_wh {X : FR} {fuel : Nat} (P : Nat → Rho → Prop) (Q : Rho → Prop) (q : Nat) (h0 : P q ρ) (hq : q < fuel) (hs : ∀ q ρ, P q ρ → (∃ ρ1, c ρ = .ok false ρ1 ∧ Q ρ1) ∨ ∃ q' ρ1 ρ2, c ρ = .ok true ρ1 ∧ bd ρ1 = .nx ρ2 ∧ P q' ρ2 ∧ q' < q) (hk : ∀ ρ', Q ρ' → RTof (k ρ') = X) : RTof (SB (whS c bd fuel ρ) k) = X := by
  obtain ⟨ρ', h1, h2⟩ := wh_P P Q hs fuel q ρ h0 hq
  rw [h1]
  exact hk ρ' h2
theorem rm_wh {X : FM} {fuel : Nat} (P : Nat → Rho → Prop) (Q : Rho → Prop) (q : Nat) (h0 : P q ρ) (hq : q < fuel) (hs : ∀ q ρ, P q ρ → (∃ ρ1, c ρ = .ok false ρ1 ∧ Q ρ1) ∨ ∃ q' ρ1 ρ2, c ρ = .ok true ρ1 ∧ bd ρ1 = .nx ρ2 ∧ P q' ρ2 ∧ q' < q) (hk : ∀ ρ', Q ρ' → RMof (k ρ') = X) : RMof (SB (whS c bd fuel ρ) k) = X := by
  obtain ⟨ρ', h1, h2⟩ := wh_P P Q hs fuel q ρ h0 hq
  rw [h1]
  exact hk ρ' h2
theorem sb_wh {X : SR} {fuel : Nat} (P : Nat → Rho → Prop) (Q : Rho → Prop) (q : Nat) (h0 : P q ρ) (hq : q < fuel) (hs : ∀ q ρ, P q ρ → (∃ ρ1, c ρ = .ok false ρ1 ∧ Q ρ1) ∨ ∃ q' ρ1 ρ2, c ρ = .ok true ρ1 ∧ bd ρ1 = .nx ρ2 ∧ P q' ρ2 ∧ q' < q) (hk : ∀ ρ', Q ρ' → k ρ' = X) : SB (whS c bd fuel ρ) k = X := by
  obtain ⟨ρ', h1, h2⟩ := wh_P P Q hs fuel q ρ h0 hq
  rw [h1]
  exact hk ρ' h2
end
section
variable {ρ : Rho} {tg : Dt → Rho → Option Rho} {el ek ev : Rho → R Dt} {vs : List Nat}
theorem lc_natD (F : Nat → Dt) (ns : List Nat) (h : ∀ n ∈ ns, ∃ ρ1, tg (.int (n : Nat)) ρ = some ρ1 ∧ el ρ1 = .ok (F n) ρ1 ∧ wipeR ρ1 vs = ρ) : lcL tg yesT el vs (nl ns) ρ = .ok (ns.map F) ρ := by
  rw [lc_nat (fun _ => true) F ns fun n hn => by
    obtain ⟨ρ1, h1, h2, h3⟩ := h n hn
    exact ⟨ρ1, h1, rfl, fun _ => h2, h3⟩, List.filter_eq_self.mpr fun _ _ => rfl]
theorem dc_tk0 (ns : List Nat) (h : ∀ n ∈ ns, ∃ ρ1, tg (.int (n : Nat)) ρ = some ρ1 ∧ ek ρ1 = .ok (.int (n : Nat)) ρ1 ∧ ev ρ1 = .ok (.bl true) ρ1 ∧ wipeR ρ1 vs = ρ) : dcL tg yesT ek ev vs (nl ns) ρ [] = .ok (tk (mrg [] ns)) ρ := dc_tk ns [] h
theorem take_filter_range (p : Nat → Bool) : ∀ (n i x : Nat), ((List.range n).filter p)[i]? = some x → x < n ∧ p x = true ∧ ((List.range n).filter p).take i = (List.range x).filter p
  | 0, i, x, h => by simp at h
  | n + 1, i, x, h => by
    rw [List.range_succ, List.filter_append] at h ⊢
    by_cases hi : i < ((List.range n).filter p).length
    · rw [List.getElem?_append_left hi] at h
      obtain ⟨h1, h2, h3⟩ := take_filter_range p n i x h
      refine ⟨by omega, h2, ?_⟩
      rw [List.take_append_of_le_length (by omega), h3]
    · rw [List.getElem?_append_right (by omega)] at h
      by_cases hp : p n = true
      · rw [List.filter_cons_of_pos hp, List.filter_nil] at h ⊢
        have h1 : i - ((List.range n).filter p).length = 0 := by
          have := (List.getElem?_eq_some_iff.mp h).1
          simp at this
          omega
        rw [h1] at h
        have h2 : n = x := Option.some.inj h
        subst h2
        refine ⟨by omega, hp, ?_⟩
        rw [show i = ((List.range n).filter p).length by omega, List.take_left']
        rfl
      · rw [List.filter_cons_of_neg hp] at h
        simp at h
end
section
variable {α : Type} {xs : List α} {ns : List Nat}
theorem cut_nn (xs : List α) (i j : Nat) : cutD xs (some (i : Int)) (some (j : Int)) = (xs.drop i).take (j - i) := by
  unfold cutD
  rw [HT.sIx_nat, HT.sIx_nat]
  by_cases hi : i ≤ xs.length
  · rw [Nat.min_eq_left hi]
    by_cases hj : j ≤ xs.length
    · rw [Nat.min_eq_left hj]
    · rw [Nat.min_eq_right (by omega), List.take_of_length_le (by rw [List.length_drop]; omega), List.take_of_length_le (by rw [List.length_drop]; omega)]
  · have hi' : xs.length ≤ i := by omega
    rw [Nat.min_eq_right hi', List.drop_of_length_le (Nat.le_refl _), List.drop_of_length_le hi', List.take_nil, List.take_nil]
theorem cut_n0 (xs : List α) (i : Nat) : cutD xs (some (i : Int)) none = xs.drop i := by
  unfold cutD
  rw [HT.sIx_nat, HT.sIx_none]
  by_cases hi : i ≤ xs.length
  · rw [Nat.min_eq_left hi, List.take_of_length_le (by rw [List.length_drop]; omega)]
  · rw [Nat.min_eq_right (by omega), List.drop_of_length_le (Nat.le_refl _), List.drop_of_length_le (by omega), List.take_nil]
theorem cut_0n (xs : List α) (j : Nat) : cutD xs none (some (j : Int)) = xs.take j := by
  unfold cutD
  rw [HT.sIx_nat, HT.sIx_none, List.drop_zero, Nat.sub_zero]
  by_cases hj : j ≤ xs.length
  · rw [Nat.min_eq_left hj]
  · rw [Nat.min_eq_right (by omega), List.take_of_length_le (Nat.le_refl _), List.take_of_length_le (by omega)]
theorem l_slT (ds : List Dt) (lo hi : Option Int) : slD (.tup ds) lo hi = some (.tup (cutD ds lo hi)) := rfl
theorem l_slL (ds : List Dt) (lo hi : Option Int) : slD (.lst ds) lo hi = some (.lst (cutD ds lo hi)) := rfl
theorem nl_drop (i : Nat) : (nl ns).drop i = nl (ns.drop i) := by unfold nl; rw [List.map_drop]
theorem nl_take (i : Nat) : (nl ns).take i = nl (ns.take i) := by unfold nl; rw [List.map_take]
theorem l_rng3 {c K : Nat} (hK : 0 < K) (hc : c * K < 2 ^ 29) (hc1 : 0 < c) : rngD3 [.int (0 : Nat), .int (c * K : Nat), .int (K : Nat)] = some (nl ((List.range c).map fun i => i * K)) := by
  have h0 : 0 < c * K := Nat.mul_pos hc1 hK
  have h1 : K ≤ c * K := Nat.le_mul_of_pos_left _ hc1
  unfold rngD3
  dsimp only
  rw [if_pos ⟨by omega, by omega, by omega, by omega, by omega, by omega⟩, if_pos (by omega)]
  have e : ((((c * K : Nat) : Int) - ((0 : Nat) : Int) - 1) / (K : Int) + 1).toNat = c := by
    have e1 : ((c * K : Nat) : Int) - ((0 : Nat) : Int) - 1 = ((c * K - 1 : Nat) : Int) := by omega
    rw [e1]
    show ((((c * K - 1) / K : Nat) : Int) + 1).toNat = c
    have e2 : (c * K - 1) / K = c - 1 := by
      obtain ⟨d, rfl⟩ : ∃ d, c = d + 1 := ⟨c - 1, by omega⟩
      rw [Nat.succ_mul, show d * K + K - 1 = (K - 1) + K * d by rw [Nat.mul_comm d K]; omega, Nat.add_mul_div_left _ _ hK, Nat.div_eq_of_lt (by omega)]
      omega
    rw [e2]
    omega
  rw [e]
  unfold nl
  rw [List.map_map]
  congr 1
  refine List.map_congr_left fun i _ => ?_
  show Dt.int (((0 : Nat) : Int) + (i : Int) * (K : Int)) = Dt.int ((i * K : Nat) : Int)
  congr 1
  rw [n_mul]
  omega
end
section
variable {ρ : Rho} {fa : Rho → R (List Dt)} {gd : List Dt → Option (List Dt)} {k : List Dt → Dt} {ds : List Dt}
def rgl2 (k : List Dt → Dt) (o : Option (List Dt)) (ρ : Rho) : R Dt := match o with
  | some xs => few (decide (xs.length ≤ 1000000)) (k xs) ρ
  | none => .bad
def rgl1 (gd : List Dt → Option (List Dt)) (k : List Dt → Dt) (r : R (List Dt)) : R Dt := match r with
  | .ok ds ρ => rgl2 k (gd ds) ρ
  | .ex x ρ => .ex x ρ
  | .bad => .bad
theorem x_rgl2 : rgl2 k (some ds) ρ = few (decide (ds.length ≤ 1000000)) (k ds) ρ := rfl
theorem x_rgl1 : rgl1 gd k (.ok ds ρ) = rgl2 k (gd ds) ρ := rfl
theorem x_rgList : rgList gd fa ρ = rgl1 gd Dt.lst (fa ρ) := by
  unfold rgList
  cases fa ρ with
  | ok ds ρ1 =>
    dsimp only [R.bind, rgl1]
    cases gd ds with
    | none => rfl
    | some xs => simp only [rgl2, few, decide_eq_true_eq]
  | _ => rfl
theorem x_rgTup : rgTup gd fa ρ = rgl1 gd Dt.tup (fa ρ) := by
  unfold rgTup
  cases fa ρ with
  | ok ds ρ1 =>
    dsimp only [R.bind, rgl1]
    cases gd ds with
    | none => rfl
    | some xs => simp only [rgl2, few, decide_eq_true_eq]
  | _ => rfl
end
section
variable {α : Type} {tg : Dt → Rho → Option Rho} {bd k : Rho → SR} {ρ : Rho} {F : α → Dt} {xs : List α}
theorem forL_ret {d : Dt} {ds : List Dt} {s : Sl} {ρ' : Rho} (h : fb tg bd d ρ = .rt s ρ') : forL tg bd (d :: ds) ρ = .rt s ρ' := by
  unfold fb fb1 at h
  simp only [forL]
  cases e : tg d ρ with
  | none => rw [e] at h; cases h
  | some ρ1 =>
    rw [e] at h
    dsimp only at h ⊢
    rw [h]
/-- a for that returns at the first thing that fails -/
theorem for_all (P : Rho → Prop) (p : α → Bool) (s : Sl) : ∀ (xs : List α) (ρ : Rho), (∀ x ∈ xs, ∀ ρ, P ρ → (p x = true → ∃ ρ', fb tg bd (F x) ρ = .nx ρ' ∧ P ρ') ∧ (p x = false → ∃ ρ', fb tg bd (F x) ρ = .rt s ρ')) → P ρ →
    (xs.all p = true → ∃ ρ', forL tg bd (xs.map F) ρ = .nx ρ' ∧ P ρ') ∧ (xs.all p = false → ∃ ρ', forL tg bd (xs.map F) ρ = .rt s ρ')
  | [], ρ, _, h => ⟨fun _ => ⟨ρ, rfl, h⟩, fun z => Bool.noConfusion z⟩
  | x :: xs, ρ, hs, h => by
    obtain ⟨h1, h2⟩ := hs x (List.mem_cons_self ..) ρ h
    rw [List.all_cons, List.map_cons]
    cases e : p x with
    | false =>
      rw [Bool.false_and]
      refine ⟨fun z => Bool.noConfusion z, fun _ => ?_⟩
      obtain ⟨ρ', h3⟩ := h2 e
      exact ⟨ρ', forL_ret h3⟩
    | true =>
      rw [Bool.true_and]
      obtain ⟨ρ', h3, h4⟩ := h1 e
      rw [forL_cons h3]
      exact for_all P p s xs ρ' (fun y hy => hs y (List.mem_cons_of_mem _ hy)) h4
theorem rt_all {X : FR} {s : Sl} (P : Rho → Prop) (p : α → Bool) (h0 : P ρ) (hs : ∀ x ∈ xs, ∀ ρ, P ρ → (p x = true → ∃ ρ', fb tg bd (F x) ρ = .nx ρ' ∧ P ρ') ∧ (p x = false → ∃ ρ', fb tg bd (F x) ρ = .rt s ρ')) (hk : xs.all p = true → ∀ ρ', P ρ' → RTof (k ρ') = X) (hf : xs.all p = false → X = .ok s) : RTof (SB (forL tg bd (xs.map F) ρ) k) = X := by
  obtain ⟨h1, h2⟩ := for_all (tg := tg) (bd := bd) P p s xs ρ hs h0
  cases e : xs.all p with
  | true =>
    obtain ⟨ρ', h3, h4⟩ := h1 e
    rw [h3]
    exact hk e ρ' h4
  | false =>
    obtain ⟨ρ', h3⟩ := h2 e
    rw [h3, hf e]
    rfl
/-- a dict of numbers by numbers -/
def skv (S : Nat → Nat) (xs : List Nat) : List (Key × Dt) := xs.map fun x => (.inl ((x : Nat) : Int), .int (S x : Nat))
theorem skv_len (S : Nat → Nat) (xs : List Nat) : (skv S xs).length = xs.length := List.length_map _
theorem skv_put {S : Nat → Nat} {xs : List Nat} {x : Nat} (h : x ∉ xs) : putKD (skv S xs) (.inl ((x : Nat) : Int)) (.int (S x : Nat)) = skv S (xs ++ [x]) := by
  unfold putKD
  have : ((skv S xs).any fun kv => decide (kv.1 = (.inl ((x : Nat) : Int) : Key))) = false := by
    rw [List.any_eq_false]
    intro kv hk
    obtain ⟨y, hy, rfl⟩ := List.mem_map.mp hk
    rw [decide_eq_true_eq]
    intro z
    have := Sum.inl.inj z
    exact h ((show y = x by omega) ▸ hy)
  rw [this]
  show skv S xs ++ _ = _
  unfold skv
  rw [List.map_append]
  rfl
theorem skv_get {S : Nat → Nat} : ∀ {xs : List Nat} {x : Nat}, x ∈ xs → getK (skv S xs) (.inl ((x : Nat) : Int)) = some (.int (S x : Nat))
  | [], _, h => (List.not_mem_nil h).elim
  | y :: ys, x, h => by
    unfold getK skv
    rw [List.map_cons, List.find?_cons]
    by_cases e : y = x
    · subst e
      rw [decide_eq_true rfl]
      rfl
    · have : ¬ ((.inl ((y : Nat) : Int) : Key) = .inl ((x : Nat) : Int)) := fun z => e (by have := Sum.inl.inj z; omega)
      rw [decide_eq_false this]
      rcases List.mem_cons.mp h with h | h
      · exact absurd h.symm e
      · exact skv_get h
theorem ix_skv {S : Nat → Nat} {xs : List Nat} {x : Nat} (h : x ∈ xs) : ixD (.dct (skv S xs)) (.int (x : Nat)) = some (.int (S x : Nat)) := skv_get h
end
theorem forL_nil {tg : Dt → Rho → Option Rho} {bd : Rho → SR} {ρ : Rho} : forL tg bd [] ρ = .nx ρ := rfl
section
variable {ρ : Rho} {f1 f2 : Rho → R Dt} {d e : Dt} {kvs : List (Key × Dt)} {c : Int} {i : Nat} {g : Dt → Dt → Option Dt} {ok : Dt → Bool}
def gp3 (c : Int) (o : Option Dt) (e : Dt) (ρ : Rho) : R Dt := match o with
  | some d => Rof (getOr c d e) ρ
  | none => .bad
def gp2 (c : Int) (i : Nat) (r : R Dt) : R Dt := match r with
  | .ok e ρ => gp3 c (pk i ρ) e ρ
  | .ex x ρ => .ex x ρ
  | .bad => .bad
def gp1 (c : Int) (i : Nat) (o : Option Dt) (f2 : Rho → R Dt) (ρ : Rho) : R Dt := match o with
  | some (.dct _) => gp2 c i (f2 ρ)
  | _ => .bad
theorem x_gp3 : gp3 c (some d) e ρ = Rof (getOr c d e) ρ := rfl
theorem x_gp2 : gp2 c i (.ok e ρ) = gp3 c (pk i ρ) e ρ := rfl
theorem x_gp1 : gp1 c i (some (.dct kvs)) f2 ρ = gp2 c i (f2 ρ) := rfl
theorem x_getP : getP c i f2 ρ = gp1 c i (pk i ρ) f2 ρ := by
  unfold getP
  cases pk i ρ with
  | none => rfl
  | some d =>
    cases d with
    | dct k =>
      dsimp only [gp1]
      cases f2 ρ with
      | ok e ρ2 =>
        dsimp only [R.bind, gp2]
        cases pk i ρ2 with
        | none => rfl
        | some d2 => dsimp only [gp3, Rof]; cases getOr c d2 e <;> rfl
      | _ => rfl
    | _ => rfl
def mt2 (b : Bool) (g : Dt → Dt → Option Dt) (d : Dt) (f2 : Rho → R Dt) (ρ : Rho) : R Dt := if b = true then un1 (g d) (f2 ρ) else .bad
def mt1 (g : Dt → Dt → Option Dt) (ok : Dt → Bool) (f2 : Rho → R Dt) (r : R Dt) : R Dt := match r with
  | .ok d ρ => mt2 (ok d) g d f2 ρ
  | .ex x ρ => .ex x ρ
  | .bad => .bad
theorem x_mt2 : mt2 true g d f2 ρ = un1 (g d) (f2 ρ) := rfl
theorem x_mt1 : mt1 g ok f2 (.ok d ρ) = mt2 (ok d) g d f2 ρ := rfl
theorem x_meth1 : meth1 g ok f1 f2 ρ = mt1 g ok f2 (f1 ρ) := by
  unfold meth1
  cases f1 ρ with
  | ok d ρ1 =>
    dsimp only [R.bind, mt1, mt2]
    split
    · cases f2 ρ1 with
      | ok e ρ2 => dsimp only [un1, Rof]; cases g d e <;> rfl
      | _ => rfl
    · rfl
  | _ => rfl
theorem l_isL {xs : List Dt} : isLst (.lst xs) = true := rfl
end
section
variable {tg : Dt → Rho → Option Rho} {bd k : Rho → SR} {ρ : Rho} {ns : List Nat}
theorem rm_forE (G : FM → Prop) (P : Nat → Rho → Prop) (h0 : P 0 ρ) (hs : ∀ i x ρ, ns[i]? = some x → P i ρ → ∃ ρ', fb tg bd (.int (x : Nat)) ρ = .nx ρ' ∧ P (i + 1) ρ') (hk : ∀ ρ', P ns.length ρ' → G (RMof (k ρ'))) : G (RMof (SB (forL tg bd (nl ns) ρ) k)) := by
  obtain ⟨ρ', h1, h2⟩ := for_nl P h0 hs
  rw [h1]
  exact hk ρ' h2
theorem sb_forE (G : SR → Prop) (P : Nat → Rho → Prop) (h0 : P 0 ρ) (hs : ∀ i x ρ, ns[i]? = some x → P i ρ → ∃ ρ', fb tg bd (.int (x : Nat)) ρ = .nx ρ' ∧ P (i + 1) ρ') (hk : ∀ ρ', P ns.length ρ' → G (k ρ')) : G (SB (forL tg bd (nl ns) ρ) k) := by
  obtain ⟨ρ', h1, h2⟩ := for_nl P h0 hs
  rw [h1]
  exact hk ρ' h2
theorem sb_whE {c : Rho → R Bool} (G : SR → Prop) {fuel : Nat} (P : Nat → Rho → Prop) (Q : Rho → Prop) (q : Nat) (h0 : P q ρ) (hq : q < fuel) (hs : ∀ q ρ, P q ρ → (∃ ρ1, c ρ = .ok false ρ1 ∧ Q ρ1) ∨ ∃ q' ρ1 ρ2, c ρ = .ok true ρ1 ∧ bd ρ1 = .nx ρ2 ∧ P q' ρ2 ∧ q' < q) (hk : ∀ ρ', Q ρ' → G (k ρ')) : G (SB (whS c bd fuel ρ) k) := by
  obtain ⟨ρ', h1, h2⟩ := wh_P P Q hs fuel q ρ h0 hq
  rw [h1]
  exact hk ρ' h2
end
end PL

set_option Elab.async false
set_option linter.all false
set_option maxRecDepth 100000
set_option maxHeartbeats 4000000
/-! P5: reckoning with errors -/
namespace PL
open PySem DW
open L2 (Key)
section
variable {α β : Type} {ρ : Rho} {d : Dt} {ds : List Dt} {sl : Sl} {e : Xc} {f1 f2 : Rho → R Dt} {fa : Rho → R (List Dt)} {fb k s t : Rho → SR} {i : Nat} {mt : Str → Option Bool} {su : Xc → Option Dt} {c f : Str}
def XRof (r : FR) (ρ : Rho) : R Dt := match r with
  | .ok (.fr d) => .ok d ρ
  | .ex e => .ex e ρ
  | _ => .bad
theorem x_XRo : XRof (.ok (.fr d)) ρ = .ok d ρ := rfl
theorem x_XRe : XRof (.ex e) ρ = .ex e ρ := rfl
def calX (fn : Fn) (r : R (List Dt)) : R Dt := match r with
  | .ok ds ρ => XRof (fn ds) ρ
  | .ex x ρ => .ex x ρ
  | .bad => .bad
theorem x_calX {fn : Fn} : calX fn (.ok ds ρ) = XRof (fn ds) ρ := rfl
theorem x_calXe {fn : Fn} : calX fn (.ex e ρ) = .ex e ρ := rfl
theorem x_callX {fn : Fn} : callX fn fa ρ = calX fn (fa ρ) := by
  unfold callX
  cases fa ρ with
  | ok ds ρ1 =>
    dsimp only [R.bind, calX]
    cases fn ds with
    | ok s => cases s <;> rfl
    | _ => rfl
  | _ => rfl
def rai1 (c f : Str) (r : R Dt) : SR := match r with
  | .ok d ρ => .ex ⟨c, f, d⟩ ρ
  | .ex x ρ => .ex x ρ
  | .bad => .bad
theorem x_rai1 : rai1 c f (.ok d ρ) = .ex ⟨c, f, d⟩ ρ := rfl
theorem x_rai : raiseS c f f1 ρ = rai1 c f (f1 ρ) := by unfold raiseS; cases f1 ρ <;> rfl
def try3 (b : Bool) (d : Dt) (ρ : Rho) : SR := if b = true then .rt (.fr d) ρ else .bad
theorem x_try3 : try3 true d ρ = .rt (.fr d) ρ := rfl
def try2 (i : Nat) (m : Option Bool) (o : Option Dt) (e : Xc) (ρ : Rho) : SR := match m with
  | some true => (match o with
    | some d => try3 (decide (i < ρ.length)) d ρ
    | none => .bad)
  | some false => .ex e ρ
  | none => .bad
theorem x_try2 : try2 i (some true) (some d) e ρ = try3 (decide (i < ρ.length)) d ρ := rfl
theorem x_try2f {o : Option Dt} : try2 i (some false) o e ρ = .ex e ρ := rfl
def try1 (i : Nat) (mt : Str → Option Bool) (su : Xc → Option Dt) (r : SR) : SR := match r with
  | .ex e ρ => try2 i (mt e.cls) (su e) e ρ
  | r => r
theorem x_try1 : try1 i mt su (.ex e ρ) = try2 i (mt e.cls) (su e) e ρ := rfl
theorem x_try1r : try1 i mt su (.rt sl ρ) = .rt sl ρ := rfl
theorem x_try1n : try1 i mt su (.nx ρ) = .nx ρ := rfl
theorem x_tryR : tryR i fb mt su ρ = try1 i mt su (fb ρ) := by
  unfold tryR
  cases fb ρ with
  | ex e ρ1 =>
    show _ = try2 i (mt e.cls) (su e) e ρ1
    unfold try2
    dsimp only
    cases mt e.cls with
    | none => rfl
    | some b =>
      cases b with
      | false => rfl
      | true =>
        cases su e with
        | none => rfl
        | some d =>
          unfold try3
          by_cases h : i < ρ1.length
          · simp [h]
          · simp [h]
  | _ => rfl
theorem x_exu1 {g : α → Option β} : un1 g (.ex e ρ) = .ex e ρ := rfl
theorem x_exb1 {g : Dt → Dt → Option Dt} : bin1 g f2 (.ex e ρ) = .ex e ρ := rfl
theorem x_exc1 : cons1 fa (.ex e ρ) = .ex e ρ := rfl
theorem x_exc2 : cons2 d (.ex e ρ) = .ex e ρ := rfl
theorem x_exm1 {k : List Dt → α} : mk1 k (.ex e ρ) = .ex e ρ := rfl
theorem x_exSB : SB (.ex e ρ) k = .ex e ρ := rfl
theorem x_exr1 : ret1 (.ex e ρ) = .ex e ρ := rfl
theorem x_exe1 : exp1 (.ex e ρ) = .ex e ρ := rfl
theorem x_exi1 : if1 (.ex e ρ) s t = .ex e ρ := rfl
theorem x_exRT : RTof (.ex e ρ) = .ex e := rfl
end
end PL

set_option Elab.async false
set_option linter.all false
set_option maxRecDepth 100000
set_option maxHeartbeats 4000000
/-! P7: reckoning with outcomes of lambdas -/
namespace PL
open PySem DW
open L2 (Key)
section
variable {α β : Type} {ρ ρ1 : Rho} {d : Dt} {e : Xc} {fb : Rho → R Dt} {mw : Fn} {mt : Str → Bool} {c f : Str}
def out3 (r : FR) (ρ : Rho) : R Dt := match r with
  | .ok (.fr d) => .ok d ρ
  | _ => .bad
theorem x_out3 : out3 (.ok (.fr d)) ρ = .ok d ρ := rfl
def out2 (b : Bool) (r : FR) (ρ : Rho) : R Dt := if b = true then out3 r ρ else .bad
theorem x_out2 {r : FR} : out2 true r ρ = out3 r ρ := rfl
def out1 (mt : Str → Bool) (mw : Fn) (r : R Dt) (ρ : Rho) : R Dt := match r with
  | .ok d _ => .ok (.lst [d]) ρ
  | .ex e _ => out2 (mt e.cls) (mw [.xo e.cls e.fld e.val]) ρ
  | .bad => .bad
theorem x_out1o : out1 mt mw (.ok d ρ1) ρ = .ok (.lst [d]) ρ := rfl
theorem x_out1e : out1 mt mw (.ex e ρ1) ρ = out2 (mt e.cls) (mw [.xo e.cls e.fld e.val]) ρ := rfl
theorem x_outF : outF mt mw fb ρ = out1 mt mw (fb (hid ρ)) ρ := by
  unfold outF
  cases fb (hid ρ) with
  | ex e ρ1 =>
    show _ = out2 (mt e.cls) (mw [.xo e.cls e.fld e.val]) ρ
    unfold out2
    dsimp only
    by_cases h : mt e.cls = true
    · rw [if_pos h, if_pos h]
      unfold out3
      rfl
    · rw [if_neg h, if_neg h]
  | _ => rfl
def hid1 : Option Sl → Option Sl
  | some (.fr d) => some (.fr d)
  | _ => none
theorem x_hidV {o : Option Sl} : hid (o :: ρ) = hid1 o :: hid ρ := by cases o with | none => rfl | some s => cases s <;> rfl
theorem x_hid1f : hid1 (some (.fr d)) = some (.fr d) := rfl
theorem x_hid1n : hid1 none = none := rfl
theorem x_hid1l {ds : List Dt} : hid1 (some (.ol ds)) = none := rfl
theorem x_hid1d {ds : List (Key × Dt)} : hid1 (some (.od ds)) = none := rfl
theorem x_hid1i {ds : List (Key × Dt)} : hid1 (some (.io ds)) = none := rfl
theorem x_hid0 : hid [] = [] := rfl
def isX1 (o : Option Bool) : Option Dt := o.map .bl
theorem x_isX {mt : Str → Option Bool} : isX mt (.xo c f d) = isX1 (mt c) := rfl
theorem x_isX1 {b : Bool} : isX1 (some b) = some (.bl b) := rfl
end
end PL

set_option Elab.async false
set_option linter.all false
set_option autoImplicit false
set_option maxRecDepth 100000
set_option maxHeartbeats 4000000
/-! PB: reckoning with enumerate -/
namespace PL
open PySem DW
open L2 (Key)
theorem l_enumT (xs : List Dt) : enumD [.tup xs] = some (numD xs) := rfl
theorem l_enumL (xs : List Dt) : enumD [.lst xs] = some (numD xs) := rfl
def numP (xs : List Dt) : List (Nat × Dt) := xs.mapIdx fun i d => (i, d)
abbrev numF (p : Nat × Dt) : Dt := .tup [.int (p.1 : Nat), p.2]
theorem numD_eq (xs : List Dt) : numD xs = (numP xs).map numF := by
  unfold numD numP
  refine List.ext_getElem? fun i => ?_
  rw [List.getElem?_mapIdx, List.getElem?_map, List.getElem?_mapIdx]
  cases xs[i]? <;> rfl
theorem numP_mem {xs : List Dt} {p : Nat × Dt} (h : p ∈ numP xs) : p.2 ∈ xs := by
  unfold numP at h
  obtain ⟨i, hi, e⟩ := List.mem_mapIdx.mp h
  rw [← e]
  exact List.getElem_mem _
theorem numP_len (xs : List Dt) : (numP xs).length = xs.length := by unfold numP; rw [List.length_mapIdx]
end PL

set_option Elab.async false
set_option linter.all false
set_option maxRecDepth 100000
set_option maxHeartbeats 4000000
namespace LAW
open PySem PySem.Spec PyProof.Rows L2 DW
def top (i : Nat) : Stmt := PySem.Challenge.pw_wheelnines_k01_errors.main.body.getD i (.Pass ⟨0, 0, 0, 0⟩)
section
variable {P : Program} {w : World} {K : PySem.W.Frag} {mg : Str → Option Value} {base : Heap}
/-! ### _law_begun -/
abbrev st__law_begun : Stmt := top 14
def b__law_begun : Rho → SR := seqS (setS 1 (frzR (lcO (itF (var 0)) (tgN 2) (tstF (bin geD (var 2) (bin powD (cst (.int (10 : Nat))) (cst (.int (18 : Nat)))))) (var 2) [2]))) (retOS (dispO ((cst (.str "cells"), bin addD (un listD (pkF 0)) (lstD (consA (un lenD (pkF 0)) (nilA)))) :: ((cst (.str "left"), ifE (tstF (bin neD (var 1) (lstD (nilA)))) (bin ixD (var 1) (cst (.int (0 : Nat)))) (cst (.int (0 : Nat)))) :: ((cst (.str "spot"), cst (.int (0 : Nat))) :: ([]))))))
def m__law_begun : Fn := runF 1 3 b__law_begun
theorem sc__law_begun : FnScope ["script", "great", "cell"] ["script"] (defScope st__law_begun) := ⟨rfl, rfl, rfl, by decide +kernel, rfl, by decide +kernel, by decide +kernel⟩
theorem p__law_begun (D : IsDef K mg "_law_begun" st__law_begun) (n_len : mg "len" = none) (n_list : mg "list" = none) : Has P w K mg base "_law_begun" ["script"] m__law_begun 1 := by
  have nd := sc__law_begun.nd
  refine has0 (N := ["script", "great", "cell"]) (ps := ["script"]) (k := 0) (body := b__law_begun) D sc__law_begun (by decide) (fun _ _ _ _ _ _ us hl => match us, hl with | [_], _ => rfl) ?_
  intro f cdv A outer s H E hr hq hc
  exact ds_cons (ds_setLc 1 rfl nd (sw_true rfl rfl rfl (by decide +kernel)) (own := [("cell", 2)]) (di_all (de_var 0)) (blkOk_by (by kernel_rfl)) (fun _ _ _ _ _ => dg_name 2 nd) (fun _ _ _ _ _ => dts_one (dt_cmp (op_ge) (opd_cmp _ _) (nomark _) (de_var 2) (dk_of (de_pow (de_int) (dk_of (de_int)))))) (fun _ _ _ _ _ => de_var 2) (by decide)) (ds_one (ds_retO (do_disp (dpr_cons (de_str) (de_add (de_list rfl n_list (dk_var 0)) (dk_of (de_lst (da_cons (de_len rfl n_len (dk_var 0)) (da_nil))))) (dpr_cons (de_str) (de_if (dt_cmp (opr_ne (u64 hr)) (opd_ne _) (nomark _) (de_var 1) (dk_of (de_lst (da_nil)))) (de_ix (u1 hr) (de_var 1) (dk_of (de_int)) (fun _ _ => rfl)) (de_int)) (dpr_cons (de_str) (de_int) (dpr_nil)))) rfl rfl (fun z => nomatch z) (by decide))))
/-! ### _law_draw -/
abbrev st__law_draw : Stmt := top 15
def b__law_draw : Rho → SR := seqS (ifS (tstF (bin gtD (binP ixD 0 (cst (.str "left"))) (cst (.int (0 : Nat))))) (seqS (setS 5 (bin modD (un intD (binP ixD 0 (cst (.str "left")))) (pkF 1))) (seqS (dputS 0 (cst (.str "left")) (bin fdivD (binP ixD 0 (cst (.str "left"))) (pkF 1))) (retS (var 5)))) (skipS)) (seqS (setS 2 (bin addD (binP ixD 0 (cst (.str "spot"))) (cst (.int (1 : Nat))))) (seqS (dputS 0 (cst (.str "spot")) (var 2)) (seqS (setS 3 (bin ixD (binP ixD 0 (cst (.str "cells"))) (bin modD (un intD (pkF 2)) (un lenD (binP ixD 0 (cst (.str "cells"))))))) (seqS (setS 4 (bin mulD (un intD (bin addD (bin addD (bin modD (un intD (pkF 3)) (cst (.int (2147483629 : Nat)))) (bin mulD (cst (.int (6133 : Nat))) (pkF 2))) (bin mulD (bin mulD (cst (.int (23 : Nat))) (pkF 2)) (pkF 2)))) (cst (.int (48271 : Nat))))) (seqS (setS 4 (bin mulD (un intD (bin addD (bin modD (un intD (pkF 4)) (cst (.int (2147483647 : Nat)))) (bin mulD (cst (.int (93241 : Nat))) (pkF 2)))) (cst (.int (69621 : Nat))))) (retS (bin modD (un intD (bin fdivD (bin modD (un intD (pkF 4)) (cst (.int (2147483587 : Nat)))) (cst (.int (13 : Nat))))) (pkF 1))))))))
def m__law_draw : FnM := runM 2 6 b__law_draw
theorem sc__law_draw : FnScope ["m", "limit", "spot", "cell", "mixed", "found"] ["m", "limit"] (defScope st__law_draw) := ⟨rfl, rfl, rfl, by decide +kernel, rfl, by decide +kernel, by decide +kernel⟩
theorem p__law_draw (D : IsDef K mg "_law_draw" st__law_draw) (n_int : mg "int" = none) (n_len : mg "len" = none) : HasM P w K mg base "_law_draw" ["m", "limit"] m__law_draw 1 := by
  have nd := sc__law_draw.nd
  refine hasM (N := ["m", "limit", "spot", "cell", "mixed", "found"]) (ps := ["m", "limit"]) (k := 0) (body := b__law_draw) D sc__law_draw (by decide) (fun _ _ _ _ _ _ us hl => match us, hl with | [_, _], _ => rfl) ?_
  intro f cdv A outer s H E hr hq hc
  exact ds_cons (ds_if (dt_cmp (op_gt) (opd_cmp _ _) (nomark _) (de_ixP (u1 hr) (pv 0) (dk_of (de_str)) (fun _ _ => rfl)) (dk_of (de_int))) (ds_cons (ds_set 5 nd (de_mod (de_toint rfl n_int (dk_of (de_ixP (u1 hr) (pv 0) (dk_of (de_str)) (fun _ _ => rfl)))) (dk_var 1))) (ds_cons (ds_dput 0 (u1 hr) (pv 0) (de_str) (de_fdiv (de_ixP (u1 hr) (pv 0) (dk_of (de_str)) (fun _ _ => rfl)) (dk_var 1))) (ds_one (ds_ret (de_var 5))))) (ds_nil)) (ds_cons (ds_set 2 nd (de_add (de_ixP (u1 hr) (pv 0) (dk_of (de_str)) (fun _ _ => rfl)) (dk_of (de_int)))) (ds_cons (ds_dput 0 (u1 hr) (pv 0) (de_str) (de_var 2)) (ds_cons (ds_set 3 nd (de_ix (u1 hr) (de_ixP (u1 hr) (pv 0) (dk_of (de_str)) (fun _ _ => rfl)) (dk_of (de_mod (de_toint rfl n_int (dk_var 2)) (dk_of (de_len rfl n_len (dk_of (de_ixP (u1 hr) (pv 0) (dk_of (de_str)) (fun _ _ => rfl))))))) (fun _ _ => rfl))) (ds_cons (ds_set 4 nd (de_mul (de_toint rfl n_int (dk_of (de_add (de_add (de_mod (de_toint rfl n_int (dk_var 3)) (dk_of (de_int))) (dk_of (de_mul (de_int) (dk_var 2)))) (dk_of (de_mul (de_mul (de_int) (dk_var 2)) (dk_var 2)))))) (dk_of (de_int)))) (ds_cons (ds_set 4 nd (de_mul (de_toint rfl n_int (dk_of (de_add (de_mod (de_toint rfl n_int (dk_var 4)) (dk_of (de_int))) (dk_of (de_mul (de_int) (dk_var 2)))))) (dk_of (de_int)))) (ds_one (ds_ret (de_mod (de_toint rfl n_int (dk_of (de_fdiv (de_mod (de_toint rfl n_int (dk_var 4)) (dk_of (de_int))) (dk_of (de_int))))) (dk_var 1)))))))))
/-! ### _law_of -/
abbrev st__law_of : Stmt := top 16
def b__law_of : Rho → SR := retS (bin ixD (var 1) (callM m__law_draw 0 (consA (un lenD (pkF 1)) (nilA))))
def m__law_of : FnM := runM 2 2 b__law_of
theorem sc__law_of : FnScope ["m", "some"] ["m", "some"] (defScope st__law_of) := ⟨rfl, rfl, rfl, by decide +kernel, rfl, by decide +kernel, by decide +kernel⟩
theorem p__law_of (D : IsDef K mg "_law_of" st__law_of) (h__law_draw : HasM P w K mg base "_law_draw" ["m", "limit"] m__law_draw 1) (n_len : mg "len" = none) : HasM P w K mg base "_law_of" ["m", "some"] m__law_of 2 := by
  have nd := sc__law_of.nd
  refine hasM (N := ["m", "some"]) (ps := ["m", "some"]) (k := 1) (body := b__law_of) D sc__law_of (by decide) (fun _ _ _ _ _ _ us hl => match us, hl with | [_, _], _ => rfl) ?_
  intro f cdv A outer s H E hr hq hc
  exact ds_one (ds_ret (de_ix (u1 hr) (de_var 1) (dk_of (de_hM h__law_draw hr hq (by decide) rfl (pv 0) (da_cons (de_len rfl n_len (dk_var 1)) (da_nil)))) (fun _ _ => rfl)))
/-! ### _law_odd -/
abbrev st__law_odd : Stmt := top 17
def b__law_odd : Rho → SR := seqS (setS 1 (lstD (consA (cst .non) (consA (cst (.bl true)) (consA (cst (.bl false)) (consA (cst (.int (0 : Nat))) (consA (cst (.int (7 : Nat))) (consA (un negD (cst (.int (3 : Nat)))) (consA (bin powD (cst (.int (10 : Nat))) (cst (.int (40 : Nat)))) (consA (cst (.str "")) (consA (cst (.str "base")) (consA (tupD (nilA)) (consA (tupD (consA (cst (.int (1 : Nat))) (consA (cst (.int (7 : Nat))) (nilA)))) (consA (lstD (nilA)) (consA (lstD (consA (cst (.int (2 : Nat))) (nilA))) (consA (frzR (dctO0)) (consA (frzR (dispO ((cst (.str "a"), cst (.int (1 : Nat))) :: ([])))) (nilA)))))))))))))))))) (retS (callM m__law_of 0 (consA (var 1) (nilA))))
def m__law_odd : FnM := runM 1 2 b__law_odd
theorem sc__law_odd : FnScope ["m", "some"] ["m"] (defScope st__law_odd) := ⟨rfl, rfl, rfl, by decide +kernel, rfl, by decide +kernel, by decide +kernel⟩
theorem p__law_odd (D : IsDef K mg "_law_odd" st__law_odd) (h__law_of : HasM P w K mg base "_law_of" ["m", "some"] m__law_of 2) : HasM P w K mg base "_law_odd" ["m"] m__law_odd 3 := by
  have nd := sc__law_odd.nd
  refine hasM (N := ["m", "some"]) (ps := ["m"]) (k := 2) (body := b__law_odd) D sc__law_odd (by decide) (fun _ _ _ _ _ _ us hl => match us, hl with | [_], _ => rfl) ?_
  intro f cdv A outer s H E hr hq hc
  exact ds_cons (ds_set 1 nd (de_lst (da_cons (de_non) (da_cons (de_bl) (da_cons (de_bl) (da_cons (de_int) (da_cons (de_int) (da_cons (de_neg (de_int)) (da_cons (de_pow (de_int) (dk_of (de_int))) (da_cons (de_str) (da_cons (de_str) (da_cons (de_tup (da_nil)) (da_cons (de_tup (da_cons (de_int) (da_cons (de_int) (da_nil)))) (da_cons (de_lst (da_nil)) (da_cons (de_lst (da_cons (de_int) (da_nil))) (da_cons (de_do (do_dct0)) (da_cons (de_do (do_disp (dpr_cons (de_str) (de_int) (dpr_nil)) rfl rfl (fun z => nomatch z) (by decide))) (da_nil)))))))))))))))))) (ds_one (ds_ret (de_hM h__law_of hr hq (by decide) rfl (pv 0) (da_cons (de_var 1) (da_nil)))))
/-! ### _law_fields -/
abbrev st__law_fields : Stmt := top 20
def b__law_fields : Rho → SR := seqS (setS 1 (frzR (lcO (itF (sl3 (var 0) (noP) (someP (cst (.int (5 : Nat)))))) (tgN 2) (yesT) (un (fldX "value" ["BadBase", "BadDenominator", "BadFraction", "BadDigits", "BadNumber", "BadSeen", "Nothing"]) (pkF 2)) [2]))) (seqS (setS 1 (bin addD (var 1) (lstD (consA (un (fldX "part" ["BadPaper"]) (bin ixD (var 0) (cst (.int (5 : Nat))))) (consA (un (fldX "place" ["BadText"]) (bin ixD (var 0) (cst (.int (6 : Nat))))) (consA (un (fldX "value" ["BadBase", "BadDenominator", "BadFraction", "BadDigits", "BadNumber", "BadSeen", "Nothing"]) (bin ixD (var 0) (cst (.int (7 : Nat))))) (consA (un (fldX "number" ["BadFacts"]) (bin ixD (var 0) (cst (.int (8 : Nat))))) (nilA)))))))) (retS (bin addD (var 1) (lstD (consA (un (fldX "most" ["TooGreat"]) (bin ixD (var 0) (cst (.int (9 : Nat))))) (consA (un (fldX "value" ["BadBase", "BadDenominator", "BadFraction", "BadDigits", "BadNumber", "BadSeen", "Nothing"]) (bin ixD (var 0) (cst (.int (10 : Nat))))) (nilA)))))))
def m__law_fields : Fn := runF 1 3 b__law_fields
theorem sc__law_fields : FnScope ["errors_so", "found", "error"] ["errors_so"] (defScope st__law_fields) := ⟨rfl, rfl, rfl, by decide +kernel, rfl, by decide +kernel, by decide +kernel⟩
theorem p__law_fields (D : IsDef K mg "_law_fields" st__law_fields) (f_value : FdOk K "value" ["BadBase", "BadDenominator", "BadFraction", "BadDigits", "BadNumber", "BadSeen", "Nothing"]) (f_most : FdOk K "most" ["TooGreat"]) (f_number : FdOk K "number" ["BadFacts"]) (f_place : FdOk K "place" ["BadText"]) (f_part : FdOk K "part" ["BadPaper"]) : Has P w K mg base "_law_fields" ["errors_so"] m__law_fields 1 := by
  have nd := sc__law_fields.nd
  refine has0 (N := ["errors_so", "found", "error"]) (ps := ["errors_so"]) (k := 0) (body := b__law_fields) D sc__law_fields (by decide) (fun _ _ _ _ _ _ us hl => match us, hl with | [_], _ => rfl) ?_
  intro f cdv A outer s H E hr hq hc
  exact ds_cons (ds_setLc 1 rfl nd (sw_true rfl rfl rfl (by decide +kernel)) (own := [("error", 2)]) (di_all (de_sl (de_var 0) (dp_none) (dp_some (de_int)))) (blkOk_by (by kernel_rfl)) (fun _ _ _ _ _ => dg_name 2 nd) (fun _ _ _ _ _ => dts_nil) (fun _ _ _ _ _ => de_fldX f_value (dk_var 2)) (by decide)) (ds_cons (ds_set 1 nd (de_add (de_var 1) (dk_of (de_lst (da_cons (de_fldX f_part (dk_of (de_ix (u1 hr) (de_var 0) (dk_of (de_int)) (fun _ _ => rfl)))) (da_cons (de_fldX f_place (dk_of (de_ix (u1 hr) (de_var 0) (dk_of (de_int)) (fun _ _ => rfl)))) (da_cons (de_fldX f_value (dk_of (de_ix (u1 hr) (de_var 0) (dk_of (de_int)) (fun _ _ => rfl)))) (da_cons (de_fldX f_number (dk_of (de_ix (u1 hr) (de_var 0) (dk_of (de_int)) (fun _ _ => rfl)))) (da_nil))))))))) (ds_one (ds_ret (de_add (de_var 1) (dk_of (de_lst (da_cons (de_fldX f_most (dk_of (de_ix (u1 hr) (de_var 0) (dk_of (de_int)) (fun _ _ => rfl)))) (da_cons (de_fldX f_value (dk_of (de_ix (u1 hr) (de_var 0) (dk_of (de_int)) (fun _ _ => rfl)))) (da_nil)))))))))
/-! ### _law_kinds -/
abbrev st__law_kinds : Stmt := top 21
def b__law_kinds : Rho → SR := seqS (setS 1 (lstD (consA (un (isX (mtL [("BadBase", true), ("BadDenominator", false), ("BadFraction", false), ("BadDigits", false), ("BadNumber", false), ("BadPaper", false), ("BadText", false), ("BadSeen", false), ("BadFacts", false), ("TooGreat", false), ("Nothing", false), ("WheelError", false)])) (pkF 0)) (consA (un (isX (mtL [("BadBase", false), ("BadDenominator", true), ("BadFraction", false), ("BadDigits", false), ("BadNumber", false), ("BadPaper", false), ("BadText", false), ("BadSeen", false), ("BadFacts", false), ("TooGreat", false), ("Nothing", false), ("WheelError", false)])) (pkF 0)) (consA (un (isX (mtL [("BadBase", false), ("BadDenominator", false), ("BadFraction", true), ("BadDigits", false), ("BadNumber", false), ("BadPaper", false), ("BadText", false), ("BadSeen", false), ("BadFacts", false), ("TooGreat", false), ("Nothing", false), ("WheelError", false)])) (pkF 0)) (nilA)))))) (seqS (setS 1 (bin addD (var 1) (lstD (consA (un (isX (mtL [("BadBase", false), ("BadDenominator", false), ("BadFraction", false), ("BadDigits", true), ("BadNumber", false), ("BadPaper", false), ("BadText", false), ("BadSeen", false), ("BadFacts", false), ("TooGreat", false), ("Nothing", false), ("WheelError", false)])) (pkF 0)) (consA (un (isX (mtL [("BadBase", false), ("BadDenominator", false), ("BadFraction", false), ("BadDigits", false), ("BadNumber", true), ("BadPaper", false), ("BadText", false), ("BadSeen", false), ("BadFacts", false), ("TooGreat", false), ("Nothing", false), ("WheelError", false)])) (pkF 0)) (consA (un (isX (mtL [("BadBase", false), ("BadDenominator", false), ("BadFraction", false), ("BadDigits", false), ("BadNumber", false), ("BadPaper", true), ("BadText", false), ("BadSeen", false), ("BadFacts", false), ("TooGreat", false), ("Nothing", false), ("WheelError", false)])) (pkF 0)) (nilA))))))) (seqS (setS 1 (bin addD (var 1) (lstD (consA (un (isX (mtL [("BadBase", false), ("BadDenominator", false), ("BadFraction", false), ("BadDigits", false), ("BadNumber", false), ("BadPaper", false), ("BadText", true), ("BadSeen", false), ("BadFacts", false), ("TooGreat", false), ("Nothing", false), ("WheelError", false)])) (pkF 0)) (consA (un (isX (mtL [("BadBase", false), ("BadDenominator", false), ("BadFraction", false), ("BadDigits", false), ("BadNumber", false), ("BadPaper", false), ("BadText", false), ("BadSeen", true), ("BadFacts", false), ("TooGreat", false), ("Nothing", false), ("WheelError", false)])) (pkF 0)) (consA (un (isX (mtL [("BadBase", false), ("BadDenominator", false), ("BadFraction", false), ("BadDigits", false), ("BadNumber", false), ("BadPaper", false), ("BadText", false), ("BadSeen", false), ("BadFacts", true), ("TooGreat", false), ("Nothing", false), ("WheelError", false)])) (pkF 0)) (nilA))))))) (retS (bin addD (var 1) (lstD (consA (un (isX (mtL [("BadBase", false), ("BadDenominator", false), ("BadFraction", false), ("BadDigits", false), ("BadNumber", false), ("BadPaper", false), ("BadText", false), ("BadSeen", false), ("BadFacts", false), ("TooGreat", true), ("Nothing", false), ("WheelError", false)])) (pkF 0)) (consA (un (isX (mtL [("BadBase", false), ("BadDenominator", false), ("BadFraction", false), ("BadDigits", false), ("BadNumber", false), ("BadPaper", false), ("BadText", false), ("BadSeen", false), ("BadFacts", false), ("TooGreat", false), ("Nothing", true), ("WheelError", false)])) (pkF 0)) (nilA))))))))
def m__law_kinds : Fn := runF 1 2 b__law_kinds
theorem sc__law_kinds : FnScope ["error", "found"] ["error"] (defScope st__law_kinds) := ⟨rfl, rfl, rfl, by decide +kernel, rfl, by decide +kernel, by decide +kernel⟩
theorem p__law_kinds (D : IsDef K mg "_law_kinds" st__law_kinds) (k_Nothing : KtOk K (mtL [("BadBase", false), ("BadDenominator", false), ("BadFraction", false), ("BadDigits", false), ("BadNumber", false), ("BadPaper", false), ("BadText", false), ("BadSeen", false), ("BadFacts", false), ("TooGreat", false), ("Nothing", true), ("WheelError", false)]) (He.ga K "Nothing")) (k_TooGreat : KtOk K (mtL [("BadBase", false), ("BadDenominator", false), ("BadFraction", false), ("BadDigits", false), ("BadNumber", false), ("BadPaper", false), ("BadText", false), ("BadSeen", false), ("BadFacts", false), ("TooGreat", true), ("Nothing", false), ("WheelError", false)]) (He.ga K "TooGreat")) (k_BadFacts : KtOk K (mtL [("BadBase", false), ("BadDenominator", false), ("BadFraction", false), ("BadDigits", false), ("BadNumber", false), ("BadPaper", false), ("BadText", false), ("BadSeen", false), ("BadFacts", true), ("TooGreat", false), ("Nothing", false), ("WheelError", false)]) (He.ga K "BadFacts")) (k_BadSeen : KtOk K (mtL [("BadBase", false), ("BadDenominator", false), ("BadFraction", false), ("BadDigits", false), ("BadNumber", false), ("BadPaper", false), ("BadText", false), ("BadSeen", true), ("BadFacts", false), ("TooGreat", false), ("Nothing", false), ("WheelError", false)]) (He.ga K "BadSeen")) (k_BadText : KtOk K (mtL [("BadBase", false), ("BadDenominator", false), ("BadFraction", false), ("BadDigits", false), ("BadNumber", false), ("BadPaper", false), ("BadText", true), ("BadSeen", false), ("BadFacts", false), ("TooGreat", false), ("Nothing", false), ("WheelError", false)]) (He.ga K "BadText")) (k_BadPaper : KtOk K (mtL [("BadBase", false), ("BadDenominator", false), ("BadFraction", false), ("BadDigits", false), ("BadNumber", false), ("BadPaper", true), ("BadText", false), ("BadSeen", false), ("BadFacts", false), ("TooGreat", false), ("Nothing", false), ("WheelError", false)]) (He.ga K "BadPaper")) (k_BadNumber : KtOk K (mtL [("BadBase", false), ("BadDenominator", false), ("BadFraction", false), ("BadDigits", false), ("BadNumber", true), ("BadPaper", false), ("BadText", false), ("BadSeen", false), ("BadFacts", false), ("TooGreat", false), ("Nothing", false), ("WheelError", false)]) (He.ga K "BadNumber")) (k_BadDigits : KtOk K (mtL [("BadBase", false), ("BadDenominator", false), ("BadFraction", false), ("BadDigits", true), ("BadNumber", false), ("BadPaper", false), ("BadText", false), ("BadSeen", false), ("BadFacts", false), ("TooGreat", false), ("Nothing", false), ("WheelError", false)]) (He.ga K "BadDigits")) (k_BadFraction : KtOk K (mtL [("BadBase", false), ("BadDenominator", false), ("BadFraction", true), ("BadDigits", false), ("BadNumber", false), ("BadPaper", false), ("BadText", false), ("BadSeen", false), ("BadFacts", false), ("TooGreat", false), ("Nothing", false), ("WheelError", false)]) (He.ga K "BadFraction")) (k_BadDenominator : KtOk K (mtL [("BadBase", false), ("BadDenominator", true), ("BadFraction", false), ("BadDigits", false), ("BadNumber", false), ("BadPaper", false), ("BadText", false), ("BadSeen", false), ("BadFacts", false), ("TooGreat", false), ("Nothing", false), ("WheelError", false)]) (He.ga K "BadDenominator")) (k_BadBase : KtOk K (mtL [("BadBase", true), ("BadDenominator", false), ("BadFraction", false), ("BadDigits", false), ("BadNumber", false), ("BadPaper", false), ("BadText", false), ("BadSeen", false), ("BadFacts", false), ("TooGreat", false), ("Nothing", false), ("WheelError", false)]) (He.ga K "BadBase")) (c_Nothing : mg "Nothing" = some (.ref (He.ga K "Nothing"))) (c_TooGreat : mg "TooGreat" = some (.ref (He.ga K "TooGreat"))) (c_BadFacts : mg "BadFacts" = some (.ref (He.ga K "BadFacts"))) (c_BadSeen : mg "BadSeen" = some (.ref (He.ga K "BadSeen"))) (c_BadText : mg "BadText" = some (.ref (He.ga K "BadText"))) (c_BadPaper : mg "BadPaper" = some (.ref (He.ga K "BadPaper"))) (c_BadNumber : mg "BadNumber" = some (.ref (He.ga K "BadNumber"))) (c_BadDigits : mg "BadDigits" = some (.ref (He.ga K "BadDigits"))) (c_BadFraction : mg "BadFraction" = some (.ref (He.ga K "BadFraction"))) (c_BadDenominator : mg "BadDenominator" = some (.ref (He.ga K "BadDenominator"))) (c_BadBase : mg "BadBase" = some (.ref (He.ga K "BadBase"))) (n_isinstance : mg "isinstance" = none) : Has P w K mg base "_law_kinds" ["error"] m__law_kinds 1 := by
  have nd := sc__law_kinds.nd
  refine has0 (N := ["error", "found"]) (ps := ["error"]) (k := 0) (body := b__law_kinds) D sc__law_kinds (by decide) (fun _ _ _ _ _ _ us hl => match us, hl with | [_], _ => rfl) ?_
  intro f cdv A outer s H E hr hq hc
  exact ds_cons (ds_set 1 nd (de_lst (da_cons (de_isX k_BadBase rfl n_isinstance rfl c_BadBase (dk_var 0)) (da_cons (de_isX k_BadDenominator rfl n_isinstance rfl c_BadDenominator (dk_var 0)) (da_cons (de_isX k_BadFraction rfl n_isinstance rfl c_BadFraction (dk_var 0)) (da_nil)))))) (ds_cons (ds_set 1 nd (de_add (de_var 1) (dk_of (de_lst (da_cons (de_isX k_BadDigits rfl n_isinstance rfl c_BadDigits (dk_var 0)) (da_cons (de_isX k_BadNumber rfl n_isinstance rfl c_BadNumber (dk_var 0)) (da_cons (de_isX k_BadPaper rfl n_isinstance rfl c_BadPaper (dk_var 0)) (da_nil)))))))) (ds_cons (ds_set 1 nd (de_add (de_var 1) (dk_of (de_lst (da_cons (de_isX k_BadText rfl n_isinstance rfl c_BadText (dk_var 0)) (da_cons (de_isX k_BadSeen rfl n_isinstance rfl c_BadSeen (dk_var 0)) (da_cons (de_isX k_BadFacts rfl n_isinstance rfl c_BadFacts (dk_var 0)) (da_nil)))))))) (ds_one (ds_ret (de_add (de_var 1) (dk_of (de_lst (da_cons (de_isX k_TooGreat rfl n_isinstance rfl c_TooGreat (dk_var 0)) (da_cons (de_isX k_Nothing rfl n_isinstance rfl c_Nothing (dk_var 0)) (da_nil))))))))))
/-! ### _law_elders -/
abbrev st__law_elders : Stmt := top 22
def b__law_elders : Rho → SR := seqS (setS 1 (lstD (consA (un (isX (mtL [("BadBase", true), ("BadDenominator", true), ("BadFraction", true), ("BadDigits", true), ("BadNumber", true), ("BadPaper", true), ("BadText", true), ("BadSeen", true), ("BadFacts", true), ("TooGreat", false), ("Nothing", false), ("WheelError", true)])) (pkF 0)) (consA (un (isX (mtL [("BadBase", true), ("BadDenominator", true), ("BadFraction", true), ("BadDigits", true), ("BadNumber", true), ("BadPaper", true), ("BadText", true), ("BadSeen", true), ("BadFacts", true), ("TooGreat", false), ("Nothing", false), ("WheelError", true)])) (pkF 0)) (consA (un (isX (mtL [("BadBase", false), ("BadDenominator", false), ("BadFraction", false), ("BadDigits", false), ("BadNumber", false), ("BadPaper", false), ("BadText", false), ("BadSeen", false), ("BadFacts", false), ("TooGreat", true), ("Nothing", false), ("WheelError", false)])) (pkF 0)) (nilA)))))) (seqS (setS 1 (bin addD (var 1) (lstD (consA (un (isX (mtL [("BadBase", false), ("BadDenominator", false), ("BadFraction", false), ("BadDigits", false), ("BadNumber", false), ("BadPaper", false), ("BadText", false), ("BadSeen", false), ("BadFacts", false), ("TooGreat", false), ("Nothing", true), ("WheelError", false)])) (pkF 0)) (consA (un (isX (mtL [("BadBase", false), ("BadDenominator", false), ("BadFraction", false), ("BadDigits", false), ("BadNumber", false), ("BadPaper", false), ("BadText", false), ("BadSeen", false), ("BadFacts", false), ("TooGreat", false), ("Nothing", false), ("WheelError", false)])) (pkF 0)) (nilA)))))) (retS (var 1)))
def m__law_elders : Fn := runF 1 2 b__law_elders
theorem sc__law_elders : FnScope ["error", "found"] ["error"] (defScope st__law_elders) := ⟨rfl, rfl, rfl, by decide +kernel, rfl, by decide +kernel, by decide +kernel⟩
theorem p__law_elders (D : IsDef K mg "_law_elders" st__law_elders) (k_WheelError : KtOk K (mtL [("BadBase", true), ("BadDenominator", true), ("BadFraction", true), ("BadDigits", true), ("BadNumber", true), ("BadPaper", true), ("BadText", true), ("BadSeen", true), ("BadFacts", true), ("TooGreat", false), ("Nothing", false), ("WheelError", true)]) (He.ga K "WheelError")) (c_WheelError : mg "WheelError" = some (.ref (He.ga K "WheelError"))) (kb_LookupError : KbOne K (mtL [("BadBase", false), ("BadDenominator", false), ("BadFraction", false), ("BadDigits", false), ("BadNumber", false), ("BadPaper", false), ("BadText", false), ("BadSeen", false), ("BadFacts", false), ("TooGreat", false), ("Nothing", true), ("WheelError", false)]) "LookupError") (kb_OverflowError : KbOne K (mtL [("BadBase", false), ("BadDenominator", false), ("BadFraction", false), ("BadDigits", false), ("BadNumber", false), ("BadPaper", false), ("BadText", false), ("BadSeen", false), ("BadFacts", false), ("TooGreat", true), ("Nothing", false), ("WheelError", false)]) "OverflowError") (kb_ValueError : KbOne K (mtL [("BadBase", true), ("BadDenominator", true), ("BadFraction", true), ("BadDigits", true), ("BadNumber", true), ("BadPaper", true), ("BadText", true), ("BadSeen", true), ("BadFacts", true), ("TooGreat", false), ("Nothing", false), ("WheelError", true)]) "ValueError") (kt_KeyError_IndexError_TypeError_RuntimeError : KbOk K (mtL [("BadBase", false), ("BadDenominator", false), ("BadFraction", false), ("BadDigits", false), ("BadNumber", false), ("BadPaper", false), ("BadText", false), ("BadSeen", false), ("BadFacts", false), ("TooGreat", false), ("Nothing", false), ("WheelError", false)]) ["KeyError", "IndexError", "TypeError", "RuntimeError"]) (n_RuntimeError : mg "RuntimeError" = none) (n_TypeError : mg "TypeError" = none) (n_IndexError : mg "IndexError" = none) (n_KeyError : mg "KeyError" = none) (n_isinstance : mg "isinstance" = none) (n_LookupError : mg "LookupError" = none) (n_OverflowError : mg "OverflowError" = none) (n_ValueError : mg "ValueError" = none) : Has P w K mg base "_law_elders" ["error"] m__law_elders 1 := by
  have nd := sc__law_elders.nd
  refine has0 (N := ["error", "found"]) (ps := ["error"]) (k := 0) (body := b__law_elders) D sc__law_elders (by decide) (fun _ _ _ _ _ _ us hl => match us, hl with | [_], _ => rfl) ?_
  intro f cdv A outer s H E hr hq hc
  exact ds_cons (ds_set 1 nd (de_lst (da_cons (de_isX k_WheelError rfl n_isinstance rfl c_WheelError (dk_var 0)) (da_cons (de_isB kb_ValueError rfl n_isinstance rfl n_ValueError (by decide +kernel) (dk_var 0)) (da_cons (de_isB kb_OverflowError rfl n_isinstance rfl n_OverflowError (by decide +kernel) (dk_var 0)) (da_nil)))))) (ds_cons (ds_set 1 nd (de_add (de_var 1) (dk_of (de_lst (da_cons (de_isB kb_LookupError rfl n_isinstance rfl n_LookupError (by decide +kernel) (dk_var 0)) (da_cons (de_isBT kt_KeyError_IndexError_TypeError_RuntimeError (by decide) rfl n_isinstance (pa_ty1 rfl n_KeyError (by decide +kernel) (pa_ty1 rfl n_IndexError (by decide +kernel) (pa_ty1 rfl n_TypeError (by decide +kernel) (pa_ty1 rfl n_RuntimeError (by decide +kernel) pa_ty0)))) (dk_var 0)) (da_nil))))))) (ds_one (ds_ret (de_var 1))))
/-! ### _law_right -/
abbrev st__law_right : Stmt := top 23
def b__law_right : Rho → SR := seqS (ifS (tstF (bin neD (un reprX (callF m__law_fields (consA (var 0) (nilA)))) (un reprX (bin mulD (lstD (consA (var 1) (nilA))) (cst (.int (11 : Nat))))))) (retS (cst (.bl false))) (skipS)) (seqS (forS (rngF enumD (consA (var 0) (nilA))) (tgT [2, 3]) (seqS (ifS (tstF (bin neD (callF m__law_kinds (consA (var 3) (nilA))) (frzR (lcO (rngF rngD1 (consA (cst (.int (11 : Nat))) (nilA))) (tgN 4) (yesT) (bin eqD (var 4) (pkF 2)) [4])))) (retS (cst (.bl false))) (skipS)) (ifS (tstF (bin neD (callF m__law_elders (consA (var 3) (nilA))) (lstD (consA (bin ltD (var 2) (cst (.int (9 : Nat)))) (consA (bin ltD (var 2) (cst (.int (9 : Nat)))) (consA (bin eqD (var 2) (cst (.int (9 : Nat)))) (consA (bin eqD (var 2) (cst (.int (10 : Nat)))) (consA (cst (.bl false)) (nilA))))))))) (retS (cst (.bl false))) (skipS)))) (retS (cst (.bl true))))
def m__law_right : Fn := runF 2 5 b__law_right
theorem sc__law_right : FnScope ["errors_so", "one", "at", "error", "k"] ["errors_so", "one"] (defScope st__law_right) := ⟨rfl, rfl, rfl, by decide +kernel, rfl, by decide +kernel, by decide +kernel⟩
theorem p__law_right (D : IsDef K mg "_law_right" st__law_right) (h__law_elders : Has P w K mg base "_law_elders" ["error"] m__law_elders 1) (h__law_kinds : Has P w K mg base "_law_kinds" ["error"] m__law_kinds 1) (h__law_fields : Has P w K mg base "_law_fields" ["errors_so"] m__law_fields 1) (sysk : SysK K) (n_enumerate : mg "enumerate" = none) (n_range : mg "range" = none) (n_repr : mg "repr" = none) : Has P w K mg base "_law_right" ["errors_so", "one"] m__law_right 2 := by
  have nd := sc__law_right.nd
  refine has0 (N := ["errors_so", "one", "at", "error", "k"]) (ps := ["errors_so", "one"]) (k := 1) (body := b__law_right) D sc__law_right (by decide) (fun _ _ _ _ _ _ us hl => match us, hl with | [_, _], _ => rfl) ?_
  intro f cdv A outer s H E hr hq hc
  exact ds_cons (ds_if (dt_cmp (opr_ne (u64 hr)) (opd_ne _) (nomark _) (de_reprX sysk (u64 hr) hq rfl n_repr (dk_of (de_h h__law_fields hr hq (by decide) rfl (da_cons (de_var 0) (da_nil))))) (dk_of (de_reprX sysk (u64 hr) hq rfl n_repr (dk_of (de_mul (de_lst (da_cons (de_var 1) (da_nil))) (dk_of (de_int))))))) (ds_one (ds_ret (de_bl))) (ds_nil)) (ds_cons (ds_for PassesOwn.never rfl (di_enum rfl n_enumerate (da_cons (de_var 0) (da_nil))) (dg_tup rfl (dgs_cons 2 nd (dgs_cons 3 nd (dgs_nil)))) (ds_cons (ds_if (dt_cmp (opr_ne (u64 hr)) (opd_ne _) (nomark _) (de_h h__law_kinds hr hq (by decide) rfl (da_cons (de_var 3) (da_nil))) (dk_of (de_do (do_lc rfl nd (own := [("k", 4)]) (di_range1 rfl n_range (da_cons (de_int) (da_nil))) (blkOk_by (by kernel_rfl)) (fun _ _ _ _ _ => dg_name 4 nd) (fun _ _ _ _ _ => dts_nil) (fun _ _ _ _ _ => de_cmp (opr_eq (u64 hr)) (opd_eq _) (nomark _) (de_var 4) (dk_var 2)) (by decide))))) (ds_one (ds_ret (de_bl))) (ds_nil)) (ds_one (ds_if (dt_cmp (opr_ne (u64 hr)) (opd_ne _) (nomark _) (de_h h__law_elders hr hq (by decide) rfl (da_cons (de_var 3) (da_nil))) (dk_of (de_lst (da_cons (de_cmp (op_lt) (opd_cmp _ _) (nomark _) (de_var 2) (dk_of (de_int))) (da_cons (de_cmp (op_lt) (opd_cmp _ _) (nomark _) (de_var 2) (dk_of (de_int))) (da_cons (de_cmp (opr_eq (u64 hr)) (opd_eq _) (nomark _) (de_var 2) (dk_of (de_int))) (da_cons (de_cmp (opr_eq (u64 hr)) (opd_eq _) (nomark _) (de_var 2) (dk_of (de_int))) (da_cons (de_bl) (da_nil))))))))) (ds_one (ds_ret (de_bl))) (ds_nil))))) (ds_one (ds_ret (de_bl))))
/-! ### _law_made -/
abbrev st__law_made : Stmt := top 18
def b__law_made : Rho → SR := seqS (setS 1 (lstD (consA (mkXF "BadBase" "value" (var 0)) (consA (mkXF "BadDenominator" "value" (var 0)) (consA (mkXF "BadFraction" "value" (var 0)) (consA (mkXF "BadDigits" "value" (var 0)) (consA (mkXF "BadNumber" "value" (var 0)) (consA (mkXF "BadPaper" "part" (var 0)) (nilA))))))))) (retS (bin addD (var 1) (lstD (consA (mkXF "BadText" "place" (var 0)) (consA (mkXF "BadSeen" "value" (var 0)) (consA (mkXF "BadFacts" "number" (var 0)) (consA (mkXF "TooGreat" "most" (var 0)) (consA (mkXF "Nothing" "value" (var 0)) (nilA)))))))))
def m__law_made : Fn := runF 1 2 b__law_made
theorem sc__law_made : FnScope ["one", "found"] ["one"] (defScope st__law_made) := ⟨rfl, rfl, rfl, by decide +kernel, rfl, by decide +kernel, by decide +kernel⟩
theorem p__law_made (D : IsDef K mg "_law_made" st__law_made) (x_Nothing : DWX.OwnX P K mg "Nothing" "value" "LookupError" "LookupError.__new__" "LookupError.__init__" DWX.leB (He.ga K "Nothing") (DWX.initAt K "Nothing")) (x_TooGreat : DWX.OwnX P K mg "TooGreat" "most" "OverflowError" "OverflowError.__new__" "OverflowError.__init__" DWX.oeB (He.ga K "TooGreat") (DWX.initAt K "TooGreat")) (x_BadFacts : DWX.OwnX P K mg "BadFacts" "number" "ValueError" "ValueError.__new__" "ValueError.__init__" DWX.veB (He.ga K "BadFacts") (DWX.initAt K "BadFacts")) (x_BadSeen : DWX.OwnX P K mg "BadSeen" "value" "ValueError" "ValueError.__new__" "ValueError.__init__" DWX.veB (He.ga K "BadSeen") (DWX.initAt K "BadSeen")) (x_BadText : DWX.OwnX P K mg "BadText" "place" "ValueError" "ValueError.__new__" "ValueError.__init__" DWX.veB (He.ga K "BadText") (DWX.initAt K "BadText")) (x_BadPaper : DWX.OwnX P K mg "BadPaper" "part" "ValueError" "ValueError.__new__" "ValueError.__init__" DWX.veB (He.ga K "BadPaper") (DWX.initAt K "BadPaper")) (x_BadNumber : DWX.OwnX P K mg "BadNumber" "value" "ValueError" "ValueError.__new__" "ValueError.__init__" DWX.veB (He.ga K "BadNumber") (DWX.initAt K "BadNumber")) (x_BadDigits : DWX.OwnX P K mg "BadDigits" "value" "ValueError" "ValueError.__new__" "ValueError.__init__" DWX.veB (He.ga K "BadDigits") (DWX.initAt K "BadDigits")) (x_BadFraction : DWX.OwnX P K mg "BadFraction" "value" "ValueError" "ValueError.__new__" "ValueError.__init__" DWX.veB (He.ga K "BadFraction") (DWX.initAt K "BadFraction")) (x_BadDenominator : DWX.OwnX P K mg "BadDenominator" "value" "ValueError" "ValueError.__new__" "ValueError.__init__" DWX.veB (He.ga K "BadDenominator") (DWX.initAt K "BadDenominator")) (x_BadBase : DWX.OwnX P K mg "BadBase" "value" "ValueError" "ValueError.__new__" "ValueError.__init__" DWX.veB (He.ga K "BadBase") (DWX.initAt K "BadBase")) : Has P w K mg base "_law_made" ["one"] m__law_made 1 := by
  have nd := sc__law_made.nd
  refine has0 (N := ["one", "found"]) (ps := ["one"]) (k := 0) (body := b__law_made) D sc__law_made (by decide) (fun _ _ _ _ _ _ us hl => match us, hl with | [_], _ => rfl) ?_
  intro f cdv A outer s H E hr hq hc
  exact ds_cons (ds_set 1 nd (de_lst (da_cons (de_mkX x_BadBase hr rfl (de_var 0)) (da_cons (de_mkX x_BadDenominator hr rfl (de_var 0)) (da_cons (de_mkX x_BadFraction hr rfl (de_var 0)) (da_cons (de_mkX x_BadDigits hr rfl (de_var 0)) (da_cons (de_mkX x_BadNumber hr rfl (de_var 0)) (da_cons (de_mkX x_BadPaper hr rfl (de_var 0)) (da_nil))))))))) (ds_one (ds_ret (de_add (de_var 1) (dk_of (de_lst (da_cons (de_mkX x_BadText hr rfl (de_var 0)) (da_cons (de_mkX x_BadSeen hr rfl (de_var 0)) (da_cons (de_mkX x_BadFacts hr rfl (de_var 0)) (da_cons (de_mkX x_TooGreat hr rfl (de_var 0)) (da_cons (de_mkX x_Nothing hr rfl (de_var 0)) (da_nil)))))))))))
/-! ### _law_named -/
abbrev st__law_named : Stmt := top 19
def b__law_named : Rho → SR := seqS (setS 1 (lstD (consA (mkXF "BadBase" "value" (var 0)) (consA (mkXF "BadDenominator" "value" (var 0)) (consA (mkXF "BadFraction" "value" (var 0)) (consA (mkXF "BadDigits" "value" (var 0)) (nilA))))))) (seqS (setS 1 (bin addD (var 1) (lstD (consA (mkXF "BadNumber" "value" (var 0)) (consA (mkXF "BadPaper" "part" (var 0)) (consA (mkXF "BadText" "place" (var 0)) (consA (mkXF "BadSeen" "value" (var 0)) (nilA)))))))) (retS (bin addD (var 1) (lstD (consA (mkXF "BadFacts" "number" (var 0)) (consA (mkXF "TooGreat" "most" (var 0)) (consA (mkXF "Nothing" "value" (var 0)) (nilA))))))))
def m__law_named : Fn := runF 1 2 b__law_named
theorem sc__law_named : FnScope ["one", "found"] ["one"] (defScope st__law_named) := ⟨rfl, rfl, rfl, by decide +kernel, rfl, by decide +kernel, by decide +kernel⟩
theorem p__law_named (D : IsDef K mg "_law_named" st__law_named) (x_Nothing : DWX.OwnX P K mg "Nothing" "value" "LookupError" "LookupError.__new__" "LookupError.__init__" DWX.leB (He.ga K "Nothing") (DWX.initAt K "Nothing")) (x_TooGreat : DWX.OwnX P K mg "TooGreat" "most" "OverflowError" "OverflowError.__new__" "OverflowError.__init__" DWX.oeB (He.ga K "TooGreat") (DWX.initAt K "TooGreat")) (x_BadFacts : DWX.OwnX P K mg "BadFacts" "number" "ValueError" "ValueError.__new__" "ValueError.__init__" DWX.veB (He.ga K "BadFacts") (DWX.initAt K "BadFacts")) (x_BadSeen : DWX.OwnX P K mg "BadSeen" "value" "ValueError" "ValueError.__new__" "ValueError.__init__" DWX.veB (He.ga K "BadSeen") (DWX.initAt K "BadSeen")) (x_BadText : DWX.OwnX P K mg "BadText" "place" "ValueError" "ValueError.__new__" "ValueError.__init__" DWX.veB (He.ga K "BadText") (DWX.initAt K "BadText")) (x_BadPaper : DWX.OwnX P K mg "BadPaper" "part" "ValueError" "ValueError.__new__" "ValueError.__init__" DWX.veB (He.ga K "BadPaper") (DWX.initAt K "BadPaper")) (x_BadNumber : DWX.OwnX P K mg "BadNumber" "value" "ValueError" "ValueError.__new__" "ValueError.__init__" DWX.veB (He.ga K "BadNumber") (DWX.initAt K "BadNumber")) (x_BadDigits : DWX.OwnX P K mg "BadDigits" "value" "ValueError" "ValueError.__new__" "ValueError.__init__" DWX.veB (He.ga K "BadDigits") (DWX.initAt K "BadDigits")) (x_BadFraction : DWX.OwnX P K mg "BadFraction" "value" "ValueError" "ValueError.__new__" "ValueError.__init__" DWX.veB (He.ga K "BadFraction") (DWX.initAt K "BadFraction")) (x_BadDenominator : DWX.OwnX P K mg "BadDenominator" "value" "ValueError" "ValueError.__new__" "ValueError.__init__" DWX.veB (He.ga K "BadDenominator") (DWX.initAt K "BadDenominator")) (x_BadBase : DWX.OwnX P K mg "BadBase" "value" "ValueError" "ValueError.__new__" "ValueError.__init__" DWX.veB (He.ga K "BadBase") (DWX.initAt K "BadBase")) : Has P w K mg base "_law_named" ["one"] m__law_named 1 := by
  have nd := sc__law_named.nd
  refine has0 (N := ["one", "found"]) (ps := ["one"]) (k := 0) (body := b__law_named) D sc__law_named (by decide) (fun _ _ _ _ _ _ us hl => match us, hl with | [_], _ => rfl) ?_
  intro f cdv A outer s H E hr hq hc
  exact ds_cons (ds_set 1 nd (de_lst (da_cons (de_mkK x_BadBase hr rfl (de_var 0)) (da_cons (de_mkK x_BadDenominator hr rfl (de_var 0)) (da_cons (de_mkK x_BadFraction hr rfl (de_var 0)) (da_cons (de_mkK x_BadDigits hr rfl (de_var 0)) (da_nil))))))) (ds_cons (ds_set 1 nd (de_add (de_var 1) (dk_of (de_lst (da_cons (de_mkK x_BadNumber hr rfl (de_var 0)) (da_cons (de_mkK x_BadPaper hr rfl (de_var 0)) (da_cons (de_mkK x_BadText hr rfl (de_var 0)) (da_cons (de_mkK x_BadSeen hr rfl (de_var 0)) (da_nil))))))))) (ds_one (ds_ret (de_add (de_var 1) (dk_of (de_lst (da_cons (de_mkK x_BadFacts hr rfl (de_var 0)) (da_cons (de_mkK x_TooGreat hr rfl (de_var 0)) (da_cons (de_mkK x_Nothing hr rfl (de_var 0)) (da_nil))))))))))
/-! ### law -/
abbrev st_law : Stmt := top 24
def b_law : Rho → SR := seqS (setOS 1 (callO m__law_begun (consA (var 0) (nilA)))) (seqS (forS (rngF rngD1 (consA (bin addD (cst (.int (3 : Nat))) (cb min2D (consA (un lenD (pkF 0)) (consA (cst (.int (6 : Nat))) (nilA))))) (nilA))) (tgN 2) (seqS (setS 4 (callM m__law_odd 1 (nilA))) (seqS (setS 5 (un reprX (pkF 4))) (ifS (orT (notT (truF (callF m__law_right (consA (callF m__law_made (consA (var 4) (nilA))) (consA (var 4) (nilA)))))) (orT (notT (truF (callF m__law_right (consA (callF m__law_named (consA (var 4) (nilA))) (consA (var 4) (nilA)))))) (tstF (bin neD (un reprX (pkF 4)) (pkF 5))))) (retS (cst (.bl false))) (skipS))))) (seqS (setS 3 (mkBF "WheelError" (cst (.str "no fraction")))) (seqS (ifS (orT (tstF (bin neD (callF m__law_kinds (consA (var 3) (nilA))) (bin mulD (lstD (consA (cst (.bl false)) (nilA))) (cst (.int (11 : Nat)))))) (tstF (bin neD (callF m__law_elders (consA (var 3) (nilA))) (lstD (consA (cst (.bl true)) (consA (cst (.bl true)) (consA (cst (.bl false)) (consA (cst (.bl false)) (consA (cst (.bl false)) (nilA)))))))))) (retS (cst (.bl false))) (skipS)) (retS (andV (bin eqD (un (strX ["WheelError"]) (pkF 3)) (cst (.str "no fraction"))) (callF m__law_right (consA (callF m__law_made (consA (tupD (consA (cst (.int (1 : Nat))) (consA (lstD (consA (cst (.int (2 : Nat))) (nilA))) (nilA)))) (nilA))) (consA (tupD (consA (cst (.int (1 : Nat))) (consA (lstD (consA (cst (.int (2 : Nat))) (nilA))) (nilA)))) (nilA)))))))))
def m_law : Fn := runF 1 6 b_law
theorem sc_law : FnScope ["script", "m", "lap", "bare", "one", "kept"] ["script"] (defScope st_law) := ⟨rfl, rfl, rfl, by decide +kernel, rfl, by decide +kernel, by decide +kernel⟩
theorem p_law {f : Addr} {fd : FuncData} (F : FunD K "law" "law" (defArgs st_law) (defBody st_law) (defScope st_law) [] [] f fd) (h__law_made : Has P w K mg base "_law_made" ["one"] m__law_made 1) (h__law_right : Has P w K mg base "_law_right" ["errors_so", "one"] m__law_right 2) (h__law_elders : Has P w K mg base "_law_elders" ["error"] m__law_elders 1) (h__law_kinds : Has P w K mg base "_law_kinds" ["error"] m__law_kinds 1) (h__law_named : Has P w K mg base "_law_named" ["one"] m__law_named 1) (h__law_odd : HasM P w K mg base "_law_odd" ["m"] m__law_odd 3) (h__law_begun : Has P w K mg base "_law_begun" ["script"] m__law_begun 1) (b_WheelError : OwnB K mg "WheelError" "ValueError" "ValueError.__new__" "ValueError.__init__" DWX.veB) (so : StOk K ["WheelError"]) (sysk : SysK K) (n_str : mg "str" = none) (n_len : mg "len" = none) (n_min : mg "min" = none) (n_range : mg "range" = none) (n_repr : mg "repr" = none) : FnG P w K mg base CX0 4 f fd ["script"] (spF ⟨K, mg⟩ m_law) := by
  have nd := sc_law.nd
  refine fnD0 (N := ["script", "m", "lap", "bare", "one", "kept"]) (ps := ["script"]) (k := 3) (body := b_law) F sc_law (by decide) ?_
  intro cdv A outer s H E hr hq hc
  exact ds_cons (ds_setO 1 nd (do_h h__law_begun hr hq (by decide) rfl (da_cons (de_var 0) (da_nil)))) (ds_cons (ds_for PassesOwn.never rfl (di_range1 rfl n_range (da_cons (de_add (de_int) (dk_of (de_min2 rfl rfl n_min (da_cons (de_len rfl n_len (dk_var 0)) (da_cons (de_int) (da_nil)))))) (da_nil))) (dg_name 2 nd) (ds_cons (ds_set 4 nd (de_hM h__law_odd hr hq (by decide) rfl (pv 1) (da_nil))) (ds_cons (ds_set 5 nd (de_reprX sysk (u64 hr) hq rfl n_repr (dk_var 4))) (ds_one (ds_if (dt_w (dw_or (dt_not (dt_tru (dk_of (de_h h__law_right hr hq (by decide) rfl (da_cons (de_h h__law_made hr hq (by decide) rfl (da_cons (de_var 4) (da_nil))) (da_cons (de_var 4) (da_nil))))))) (dw_or (dt_not (dt_tru (dk_of (de_h h__law_right hr hq (by decide) rfl (da_cons (de_h h__law_named hr hq (by decide) rfl (da_cons (de_var 4) (da_nil))) (da_cons (de_var 4) (da_nil))))))) (dw_or1 (dt_cmp (opr_ne (u64 hr)) (opd_ne _) (nomark _) (de_reprX sysk (u64 hr) hq rfl n_repr (dk_var 4)) (dk_var 5)))))) (ds_one (ds_ret (de_bl))) (ds_nil)))))) (ds_cons (ds_set 3 nd (de_mkB b_WheelError rfl (de_str))) (ds_cons (ds_if (dt_w (dw_or (dt_cmp (opr_ne (u64 hr)) (opd_ne _) (nomark _) (de_h h__law_kinds hr hq (by decide) rfl (da_cons (de_var 3) (da_nil))) (dk_of (de_mul (de_lst (da_cons (de_bl) (da_nil))) (dk_of (de_int))))) (dw_or1 (dt_cmp (opr_ne (u64 hr)) (opd_ne _) (nomark _) (de_h h__law_elders hr hq (by decide) rfl (da_cons (de_var 3) (da_nil))) (dk_of (de_lst (da_cons (de_bl) (da_cons (de_bl) (da_cons (de_bl) (da_cons (de_bl) (da_cons (de_bl) (da_nil)))))))))))) (ds_one (ds_ret (de_bl))) (ds_nil)) (ds_one (ds_ret (de_and (de_cmp (opr_eq (u64 hr)) (opd_eq _) (nomark _) (de_strX so (u64 hr) rfl n_str (dk_var 3)) (dk_of (de_str))) (de_one (de_h h__law_right hr hq (by decide) rfl (da_cons (de_h h__law_made hr hq (by decide) rfl (da_cons (de_tup (da_cons (de_int) (da_cons (de_lst (da_cons (de_int) (da_nil))) (da_nil)))) (da_nil))) (da_cons (de_tup (da_cons (de_int) (da_cons (de_lst (da_cons (de_int) (da_nil))) (da_nil)))) (da_nil)))))))))))
end
end LAW

set_option Elab.async false
set_option linter.all false
set_option autoImplicit false
set_option maxRecDepth 100000
set_option maxHeartbeats 4000000
namespace LAW
open PySem DW PL
open L2 (Key)
abbrev I (n : Int) : Option Sl := some (.fr (.int n))
abbrev V (d : Dt) : Option Sl := some (.fr d)
/-! numbers -/
abbrev fr2 (x n : Nat) : Dt := .tup [.int x, .int n]
/-! remainders -/
/-- the k-th remainder behind r -/
abbrev rst (b n r k : Nat) : Nat := r * b ^ k % n
abbrev dgs (b n r c : Nat) : List Dt := (List.range c).map fun k => .int (rst b n r k * b / n : Nat)
theorem rst_succ (b n r k : Nat) : rst b n r k * b % n = rst b n r (k + 1) := by
  show r * b ^ k % n * b % n = r * b ^ (k + 1) % n
  rw [Nat.pow_succ, Nat.mod_mul_mod, Nat.mul_assoc]
theorem rst_add (b n x i k : Nat) : rst b n x (i + k) = rst b n (rst b n x i) k := by
  show x * b ^ (i + k) % n = x * b ^ i % n * b ^ k % n
  rw [Nat.pow_add, Nat.mod_mul_mod, Nat.mul_assoc]
theorem dgs_succ (b n r c : Nat) : dgs b n r c ++ [.int (rst b n r c * b / n : Nat)] = dgs b n r (c + 1) := by
  show _ = (List.range (c + 1)).map _
  rw [List.range_succ, List.map_append]
  rfl
theorem atI_nat {xs : List Dt} {i : Nat} {d : Dt} (h : xs[i]? = some d) : L2.atI xs (i : Nat) = some d := by
  have hl : i < xs.length := (List.getElem?_eq_some_iff.mp h).1
  unfold L2.atI L2.ixN
  rw [if_pos (by omega), if_pos (by omega)]
  exact h
theorem range_get {n i : Nat} {d : Dt} (h : ((List.range n).map fun i => Dt.int (i : Nat))[i]? = some d) : i < n ∧ d = .int (i : Nat) := by
  rw [List.getElem?_map] at h
  obtain ⟨j, h1, h2⟩ := Option.map_eq_some_iff.mp h
  obtain ⟨h3, h4⟩ := List.getElem?_eq_some_iff.mp h1
  rw [List.length_range] at h3
  rw [List.getElem_range] at h4
  exact ⟨h3, by rw [← h2, ← h4]⟩
theorem rng1_ok {n : Nat} (h : n < 2 ^ 62) : rngD1 [.int n] = some ((List.range n).map fun i => Dt.int (i : Nat)) := by
  have e : (n : Int).toNat = n := rfl
  unfold rngD1
  dsimp only
  rw [if_pos ⟨by omega, by omega⟩, e]
/-! what can be told by repr, dicts too -/
theorem small_ok {i : Int} (h1 : -(2 ^ 63) < i) (h2 : i < 2 ^ 63) : i.natAbs.log2 < 1920 := by
  by_cases hn : i.natAbs = 0
  · rw [hn]; decide
  · exact Nat.lt_of_lt_of_le ((Nat.log2_lt (k := 63) hn).mpr (by omega)) (by decide)
structure ROk (d : Dt) (k w : Nat) : Prop where
  p : plainX d = true
  s : (toPy d).showable = true
  dp : (toPy d).depth ≤ k
  wt : wtX d ≤ w
structure ROkA (ds : List Dt) (k w : Nat) : Prop where
  p : plainXs ds = true
  s : PyData.showableAll (toPyAll ds) = true
  dp : PyData.depthAll (toPyAll ds) ≤ k
  wt : wtXs ds ≤ w
theorem ROk.repr {d : Dt} {k w : Nat} (h : ROk d k w) (hk : k ≤ 50) (hw : w ≤ 16000000) : reprX d = some (.str (toPy d).shown) := if_pos (by
  unfold reprOkX
  rw [h.p, h.s, decide_eq_true (Nat.le_trans h.dp hk), decide_eq_true (Nat.le_trans h.wt hw)]
  rfl)
theorem ROk.up {d : Dt} {k w k' w' : Nat} (h : ROk d k w) (hk : k ≤ k') (hw : w ≤ w') : ROk d k' w' := ⟨h.p, h.s, Nat.le_trans h.dp hk, Nat.le_trans h.wt hw⟩
theorem rok_nil (k : Nat) : ROkA [] k 0 := ⟨rfl, rfl, Nat.zero_le _, Nat.le_refl _⟩
theorem rok_cons {d : Dt} {ds : List Dt} {k w v : Nat} (h1 : ROk d k w) (h2 : ROkA ds k v) : ROkA (d :: ds) k (w + 2 + v) := by
  refine ⟨?_, ?_, ?_, ?_⟩
  · simp only [plainXs, h1.p, h2.p, Bool.and_self]
  · simp only [toPyAll, PyData.showableAll, h1.s, h2.s, Bool.and_self]
  · simp only [toPyAll, PyData.depthAll]
    have := h1.dp
    have := h2.dp
    omega
  · simp only [wtXs]
    have := h1.wt
    have := h2.wt
    omega
theorem rok_lst {ds : List Dt} {k w : Nat} (h : ROkA ds k w) : ROk (.lst ds) (k + 1) (w + 2) := by
  refine ⟨?_, ?_, ?_, ?_⟩
  · simp only [plainX, h.p]
  · simp only [toPy, PyData.showable, h.s]
  · simp only [toPy, PyData.depth]
    have := h.dp
    omega
  · simp only [wtX]
    have := h.wt
    omega
theorem rok_tup {ds : List Dt} {k w : Nat} (h : ROkA ds k w) : ROk (.tup ds) (k + 1) (w + 3) := by
  refine ⟨?_, ?_, ?_, ?_⟩
  · simp only [plainX, h.p]
  · simp only [toPy, PyData.showable, h.s]
  · simp only [toPy, PyData.depth]
    have := h.dp
    omega
  · simp only [wtX]
    have := h.wt
    omega
theorem rok_intB {i : Int} (k : Nat) (h1 : i.natAbs.log2 < 1920) : ROk (.int i) k 600 := ⟨rfl, by simp only [toPy, PyData.showable, decide_eq_true h1], by simp only [toPy, PyData.depth]; exact Nat.zero_le _, Nat.le_refl _⟩
theorem rok_int {i : Int} (k : Nat) (h1 : -(2 ^ 63) < i) (h2 : i < 2 ^ 63) : ROk (.int i) k 600 := rok_intB k (small_ok h1 h2)
theorem rok_nat {m : Nat} (k : Nat) (h : m < 2 ^ 63) : ROk (.int (m : Nat)) k 600 := rok_int k (by omega) (by omega)
theorem rok_bl (b : Bool) (k : Nat) : ROk (.bl b) k 5 := ⟨rfl, rfl, by simp only [toPy, PyData.depth]; exact Nat.zero_le _, Nat.le_refl _⟩
theorem rok_strL {x : Str} {w : Nat} (k : Nat) (h3 : wtX (.str x) ≤ w) : ROk (.str x) k w := ⟨rfl, rfl, by simp only [toPy, PyData.depth]; exact Nat.zero_le _, h3⟩
theorem rok_all {α : Type} (f : α → Dt) (k w : Nat) : ∀ (xs : List α), (∀ x ∈ xs, ROk (f x) k w) → ROkA (xs.map f) k ((w + 2) * xs.length)
  | [], _ => rok_nil k
  | x :: xs, h => by
    have := rok_cons (h x (List.mem_cons_self ..)) (rok_all f k w xs fun y hy => h y (List.mem_cons_of_mem _ hy))
    rw [List.length_cons, Nat.mul_succ, Nat.add_comm ((w + 2) * xs.length)]
    exact this
theorem rok_nl {ns : List Nat} {L : Nat} (k : Nat) (h : ∀ n ∈ ns, n < 2 ^ 63) (hl : ns.length ≤ L) : ROkA (nl ns) k (602 * L) := by
  have := rok_all (fun n : Nat => Dt.int (n : Nat)) k 600 ns fun n hn => rok_nat k (h n hn)
  exact ⟨this.p, this.s, this.dp, Nat.le_trans this.wt (Nat.mul_le_mul_left _ hl)⟩
theorem rok_app {xs ys : List Dt} {k w v : Nat} (h1 : ROkA xs k w) (h2 : ROkA ys k v) : ROkA (xs ++ ys) k (w + v) := by
  induction xs generalizing w with
  | nil => exact ⟨h2.p, h2.s, h2.dp, Nat.le_trans h2.wt (Nat.le_add_left _ _)⟩
  | cons x xs ih =>
    obtain ⟨a1, a2, a3, a4⟩ := h1
    simp only [plainXs, Bool.and_eq_true] at a1
    simp only [toPyAll, PyData.showableAll, Bool.and_eq_true] at a2
    simp only [toPyAll, PyData.depthAll] at a3
    simp only [wtXs] at a4
    have h3 := ih (w := wtXs xs) ⟨a1.2, a2.2, by omega, Nat.le_refl _⟩
    have h4 := rok_cons (d := x) (k := k) (w := wtX x) ⟨a1.1, a2.1, by omega, Nat.le_refl _⟩ h3
    exact ⟨h4.p, h4.s, h4.dp, by have := h4.wt; show wtXs (x :: (xs ++ ys)) ≤ w + v; omega⟩
theorem rok_fr {x n : Nat} (hx : x < n) (hn : n ≤ 5000) (k : Nat) : ROk (fr2 x n) (k + 1) 1207 := rok_tup (rok_cons (rok_nat k (by omega)) (rok_cons (rok_nat k (by omega)) (rok_nil k)))
/-! what can be compared -/
theorem ints_shape : ∀ ns : List Int, plainAll (ns.map .int) = true ∧ PyData.canLayAll0 (toPyAll (ns.map .int)) = true ∧ PyData.depthAll (toPyAll (ns.map .int)) = 0
  | [] => ⟨rfl, rfl, rfl⟩
  | n :: ns => by
    obtain ⟨h1, h2, h3⟩ := ints_shape ns
    refine ⟨?_, ?_, ?_⟩
    · simp only [List.map_cons, plainAll, plainD, h1, Bool.and_self]
    · simp only [List.map_cons, toPyAll, toPy, PyData.canLayAll0, PyData.canLay0, h2, Bool.and_self]
    · simp only [List.map_cons, toPyAll, toPy, PyData.depthAll, PyData.depth, h3, Nat.max_self]
theorem lst_shape (ns : List Int) : shp (.lst (ns.map .int)) = true := by
  obtain ⟨h1, h2, h3⟩ := ints_shape ns
  simp only [shp, plainD, h1, SeqAt.shaped, toPy, PyData.canLay0, h2, PyData.depth, h3, Bool.true_and]
  rfl
theorem ne_nil (n : Int) (ns : List Int) : neD (.lst ((n :: ns).map .int)) (.lst []) = some (.bl true) := by
  have h1 := lst_shape (n :: ns)
  have h2 := lst_shape []
  unfold neD
  dsimp only
  rw [if_pos ⟨h1, h2⟩]
  rfl
theorem eqv_ints : ∀ ns : List Int, PyData.eqvAll (toPyAll (ns.map .int)) (toPyAll (ns.map .int)) = true
  | [] => rfl
  | n :: ns => by simp only [List.map_cons, toPyAll, toPy, PyData.eqvAll, PyData.eqv, eqv_ints ns, BEq.rfl, Bool.and_self]
theorem eq_lst (ns : List Int) : eqD (.lst (ns.map .int)) (.lst (ns.map .int)) = some (.bl true) := by
  have h1 := lst_shape ns
  unfold eqD
  dsimp only
  rw [if_pos ⟨h1, h1⟩]
  simp only [eqt, toPy, PyData.eqv, eqv_ints]
/-! the law's own draws (cells, left, spot) -/
def ms (cs : List Int) (l p : Int) : List (Key × Dt) := [(.inr "cells", .lst (cs.map .int)), (.inr "left", .int l), (.inr "spot", .int p)]
theorem ms_c (cs : List Int) (l p : Int) : getK (ms cs l p) (.inr "cells") = some (.lst (cs.map .int)) := by kernel_rfl
theorem ms_l (cs : List Int) (l p : Int) : getK (ms cs l p) (.inr "left") = some (.int l) := by kernel_rfl
theorem ms_s (cs : List Int) (l p : Int) : getK (ms cs l p) (.inr "spot") = some (.int p) := by kernel_rfl
theorem ms_pl (cs : List Int) (l p x : Int) : putKD (ms cs l p) (.inr "left") (.int x) = ms cs x p := by kernel_rfl
theorem ms_ps (cs : List Int) (l p x : Int) : putKD (ms cs l p) (.inr "spot") (.int x) = ms cs l x := by kernel_rfl
theorem ms_len (cs : List Int) (l p : Int) : (ms cs l p).length < 1000000 := by show 3 < _; omega
theorem emod_nat {lim : Nat} (h0 : 0 < lim) (e : Int) : ∃ x : Nat, e % (lim : Int) = (x : Nat) ∧ x < lim :=
  ⟨(e % (lim : Int)).toNat, by rw [Int.toNat_of_nonneg (Int.emod_nonneg _ (by omega))], (Int.toNat_lt (Int.emod_nonneg _ (by omega))).mpr (Int.emod_lt_of_pos _ (by omega))⟩
theorem draw_ok {cs : List Int} {l p lim : Nat} (hc : cs ≠ []) (hp : p < 2 ^ 40) (h0 : 0 < lim) (hd : ∀ a : Int, fdivD (.int a) (.int lim) = some (.int (a / lim))) :
    ∃ x l' p' : Nat, m__law_draw (ms cs l p) [.int lim] = .ok (.fr (.int x)) (ms cs l' p') ∧ x < lim ∧ p' ≤ p + 1 := by
  have main := w_runM (P := fun d k => ∃ x l' p' : Nat, d = .int x ∧ k = ms cs l' p' ∧ x < lim ∧ p' ≤ p + 1) (np := 2) (nn := 6) (ds := [.int lim]) (kvs := ms cs l p) (bd := b__law_draw) rfl ?_
  · obtain ⟨d, k, h1, x, l', p', rfl, rfl, h2, h3⟩ := main
    exact ⟨x, l', p', h1, h2, h3⟩
  · have e0 : tstF (bin gtD (binP ixD 0 (cst (.str "left"))) (cst (.int 0))) (envM 6 (ms cs l p) [.int lim]) = .ok (decide ((0 : Int) < l)) (envM 6 (ms cs l p) [.int lim]) := e_tst (e_bin (e_binP rfl rfl rfl (ms_l cs l p)) rfl rfl)
    refine w_seq (w_if e0 (fun h => ?_) (fun h => ?_))
    · have hl : 0 < l := by have := of_decide_eq_true h; omega
      refine w_step (ρ1 := [some (.io (ms cs l p)), I lim, none, none, none, I (l % lim : Nat)]) (e_set (e_bin (e_un (e_binP rfl rfl rfl (ms_l cs l p)) rfl) rfl (o_mod (by omega))) rfl) ?_
      refine w_step (ρ1 := [some (.io (ms cs (l / lim : Nat) p)), I lim, none, none, none, I (l % lim : Nat)]) (e_dput (e_bin (e_binP rfl rfl rfl (ms_l cs l p)) rfl (hd l)) rfl rfl rfl rfl (ms_len cs l p) (by rw [ms_pl]; rfl)) ?_
      exact w_ret rfl ⟨_, _, rfl, rfl, l % lim, l / lim, p, rfl, rfl, Nat.mod_lt _ h0, by omega⟩
    · have hl : l = 0 := by have := of_decide_eq_false h; omega
      subst hl
      have hlen : 0 < cs.length := List.length_pos_iff.mpr hc
      refine w_nx (s := skipS) rfl ?_
      refine w_step (ρ1 := [some (.io (ms cs 0 p)), I lim, I (p + 1 : Nat), none, none, none]) (e_set (e_bin (e_binP rfl rfl rfl (ms_s cs 0 p)) rfl rfl) rfl) ?_
      refine w_step (ρ1 := [some (.io (ms cs 0 (p + 1 : Nat))), I lim, I (p + 1 : Nat), none, none, none]) (e_dput rfl rfl rfl rfl rfl (ms_len cs 0 p) (by rw [ms_ps]; rfl)) ?_
      have hi : (p + 1) % cs.length < cs.length := Nat.mod_lt _ hlen
      have hg : (cs.map Dt.int)[(p + 1) % cs.length]? = some (.int cs[(p + 1) % cs.length]) := by rw [List.getElem?_map, List.getElem?_eq_getElem hi]; rfl
      have hn : lenD (.lst (cs.map .int)) = some (.int (cs.length : Nat)) := by show some (Dt.int ((cs.map Dt.int).length : Int)) = _; rw [List.length_map]
      generalize cs[(p + 1) % cs.length] = cell at hg
      refine w_step (ρ1 := [some (.io (ms cs 0 (p + 1 : Nat))), I lim, I (p + 1 : Nat), I cell, none, none]) (e_set (e_bin (e_binP rfl rfl rfl (ms_c cs 0 _)) (e_bin (e_un rfl rfl) (e_un (e_binP rfl rfl rfl (ms_c cs 0 _)) hn) (o_mod (by omega))) (atI_nat hg)) rfl) ?_
      refine w_step (e_set (e_bin (e_un (e_bin (e_bin (e_bin (e_un rfl rfl) rfl (o_mod (by omega))) (e_bin rfl rfl (o_mulL (by omega) (by omega))) rfl) (e_bin (e_bin rfl rfl (o_mulL (by omega) (by omega))) rfl (o_mulR (by omega) (by omega))) rfl) rfl) rfl (o_mulR (by omega) (by omega))) rfl) ?_
      refine w_step (e_set (e_bin (e_un (e_bin (e_bin (e_un rfl rfl) rfl (o_mod (by omega))) (e_bin rfl rfl (o_mulL (by omega) (by omega))) rfl) rfl) rfl (o_mulR (by omega) (by omega))) rfl) ?_
      refine w_ret (e_bin (e_un (e_bin (e_bin (e_un rfl rfl) rfl (o_mod (by omega))) rfl (o_fdiv (by omega) (by omega))) rfl) rfl (o_mod (by omega))) ⟨_, _, rfl, rfl, ?_⟩
      exact (emod_nat h0 _).elim fun x hx => ⟨x, 0, p + 1, congrArg Dt.int hx.1, rfl, hx.2, Nat.le_refl _⟩
theorem draw63 {cs : List Int} {l p lim : Nat} (hc : cs ≠ []) (hp : p < 2 ^ 40) (h0 : 0 < lim) (h1 : lim < 2 ^ 63) : ∃ x l' p' : Nat, m__law_draw (ms cs l p) [.int lim] = .ok (.fr (.int x)) (ms cs l' p') ∧ x < lim ∧ p' ≤ p + 1 :=
  draw_ok hc hp h0 fun a => o_fdiv (by omega) (by omega)
theorem of_ok {cs : List Int} {l p : Nat} {ds : List Dt} (hc : cs ≠ []) (hp : p < 2 ^ 40) (h0 : ds ≠ []) (h1 : ds.length < 1000) : ∃ (d : Dt) (l' p' : Nat), m__law_of (ms cs l p) [.lst ds] = .ok (.fr d) (ms cs l' p') ∧ d ∈ ds ∧ p' ≤ p + 1 := by
  obtain ⟨x, l', p', h2, h3, h4⟩ := draw63 (l := l) hc hp (List.length_pos_iff.mpr h0) (by omega)
  have hg : ds[x]? = some ds[x] := List.getElem?_eq_getElem h3
  have main := w_runM (P := fun d k => d = ds[x] ∧ k = ms cs l' p') (np := 2) (nn := 2) (ds := [.lst ds]) (kvs := ms cs l p) (bd := b__law_of) rfl
    (w_ret (e_bin (ρ2 := [some (.io (ms cs l' p')), V (.lst ds)]) rfl (e_callM (k0 := ms cs l p) (k1 := ms cs l p) rfl (e_cons (e_un rfl rfl) rfl) rfl h2 rfl) (atI_nat hg)) ⟨_, _, rfl, rfl, rfl, rfl⟩)
  obtain ⟨d, k, h5, rfl, rfl⟩ := main
  exact ⟨_, l', p', h5, List.getElem_mem h3, h4⟩
theorem great_ok (S : List Int) : ∀ ns : List Int, lcL (tgN 2) (tstF (bin geD (var 2) (bin powD (cst (.int 10)) (cst (.int 18))))) (var 2) [2] (ns.map .int) [V (.scr S), none, none] = .ok ((ns.filter fun i => decide ((1000000000000000000 : Int) ≤ i)).map .int) [V (.scr S), none, none]
  | [] => rfl
  | n :: ns => by
    have ih := great_ok S ns
    have hq : powD (.int 10) (.int 18) = some (.int 1000000000000000000) := by kernel_rfl
    have hc : tstF (bin geD (var 2) (bin powD (cst (.int 10)) (cst (.int 18)))) [V (.scr S), none, I n] = .ok (decide ((1000000000000000000 : Int) ≤ n)) [V (.scr S), none, I n] := e_tst (e_bin rfl (e_bin rfl rfl hq) rfl)
    show lcL _ _ _ _ (Dt.int n :: ns.map .int) _ = _
    unfold lcL
    show (R.bind (tstF (bin geD (var 2) (bin powD (cst (.int 10)) (cst (.int 18)))) [V (.scr S), none, I n]) _) = _
    rw [hc]
    dsimp only [R.bind]
    by_cases h : (1000000000000000000 : Int) ≤ n
    · rw [decide_eq_true h, if_pos rfl, List.filter_cons_of_pos (by rw [decide_eq_true h])]
      show R.bind (lcL _ _ _ _ (ns.map .int) [V (.scr S), none, none]) _ = _
      rw [ih]
      rfl
    · rw [decide_eq_false h, if_neg Bool.false_ne_true, List.filter_cons_of_neg (by rw [decide_eq_false h]; exact Bool.false_ne_true)]
      exact ih
theorem begun_ok (ns : List Int) (hn : ns.length ≤ 63) : ∃ (cs : List Int) (l : Nat), cs ≠ [] ∧ m__law_begun [.scr ns] = .ok (.od (ms cs l (0 : Nat))) := by
  have e1 : setS 1 (frzR (lcO (itF (var 0)) (tgN 2) (tstF (bin geD (var 2) (bin powD (cst (.int 10)) (cst (.int 18))))) (var 2) [2])) (envOf 3 [.scr ns]) = .nx [V (.scr ns), V (.lst ((ns.filter fun i => decide ((1000000000000000000 : Int) ≤ i)).map .int)), none] := by
    refine e_set (e_frz (sl := .ol ((ns.filter fun i => decide ((1000000000000000000 : Int) ≤ i)).map .int)) (ρ1 := [V (.scr ns), none, none]) ?_ rfl) rfl
    unfold lcO
    rw [e_itF (f1 := var 0) (ρ := envOf 3 [.scr ns]) (ρ1 := envOf 3 [.scr ns]) (d := .scr ns) (ds := ns.map .int) rfl rfl]
    dsimp only [R.bind]
    rw [if_pos ⟨rfl, by rw [List.length_map]; omega⟩]
    show (match lcL _ _ _ _ (ns.map .int) [V (.scr ns), none, none] with | .ok ds ρ2 => R.ok (Sl.ol ds) ρ2 | _ => R.bad) = _
    rw [great_ok]
  generalize hgs : (ns.filter fun i => decide ((1000000000000000000 : Int) ≤ i)) = gs at e1
  have hpos : ∀ i ∈ gs, (0 : Int) ≤ i := fun i hi => by
    rw [← hgs] at hi
    have := of_decide_eq_true (List.mem_filter.mp hi).2
    omega
  have hl : ∃ l : Nat, ifE (tstF (bin neD (var 1) (lstD nilA))) (bin ixD (var 1) (cst (.int 0))) (cst (.int 0)) [V (.scr ns), V (.lst (gs.map .int)), none] = .ok (.int l) [V (.scr ns), V (.lst (gs.map .int)), none] := by
    cases gs with
    | nil => exact ⟨0, e_ifEF (e_tst (e_bin rfl (e_lst rfl (Nat.zero_le _)) (by kernel_rfl))) rfl⟩
    | cons g gs =>
      refine ⟨g.toNat, e_ifET (e_tst (e_bin (z := .bl true) rfl (e_lst rfl (Nat.zero_le _)) ?_)) (e_bin rfl rfl ?_)⟩
      · exact ne_nil g gs
      · refine (atI_nat (xs := (g :: gs).map Dt.int) (i := 0) (d := .int g) rfl).trans ?_
        rw [Int.toNat_of_nonneg (hpos g (List.mem_cons_self ..))]
  obtain ⟨l, hl⟩ := hl
  refine ⟨ns ++ [(ns.length : Int)], l, by simp, ?_⟩
  have hcat : addD (.lst (ns.map .int)) (.lst [.int (ns.length : Nat)]) = some (.lst ((ns ++ [(ns.length : Int)]).map .int)) := by
    show (if (ns.map Dt.int).length + 1 ≤ 1000000 then _ else _) = _
    rw [if_pos (by rw [List.length_map]; omega), List.map_append]
    rfl
  obtain ⟨s, h1, rfl⟩ := w_runF (P := fun s => s = .od (ms (ns ++ [(ns.length : Int)]) l (0 : Nat))) (np := 1) (nn := 3) (ds := [.scr ns]) (bd := b__law_begun) rfl (w_step e1 (w_retO (e_disp (ρ1 := [V (.scr ns), V (.lst (gs.map .int)), none])
    (e_pair (e_bin (e_un rfl rfl) (e_lst (e_cons (e_un rfl rfl) rfl) (by simp)) hcat) (e_pair hl (e_pair rfl e_pnil))) (by simp)) (by kernel_rfl)))
  exact h1
theorem laps_ok (ns : List Int) (a c : Nat) : ∃ q : Nat, q ≤ a + c ∧ a ≤ q ∧ min2D [.int (ns.length : Nat), .int (c : Nat)] = some (.int (q - a : Nat)) ∧ a + (q - a) = q := by
  refine ⟨a + min ns.length c, by omega, by omega, ?_, by omega⟩
  show some (Dt.int (if (c : Int) < (ns.length : Int) then (c : Int) else (ns.length : Int))) = _
  congr 2
  split <;> omega
theorem of_okB {cs : List Int} {l p : Nat} {ds : List Dt} (hc : cs ≠ []) (hp : p < 2 ^ 40) (h0 : ds ≠ []) (h1 : ds.length < 2 ^ 40) : ∃ (d : Dt) (l' p' : Nat), m__law_of (ms cs l p) [.lst ds] = .ok (.fr d) (ms cs l' p') ∧ d ∈ ds ∧ p' ≤ p + 1 := by
  obtain ⟨x, l', p', h2, h3, h4⟩ := draw63 (l := l) hc hp (List.length_pos_iff.mpr h0) (by omega)
  have hg : ds[x]? = some ds[x] := List.getElem?_eq_getElem h3
  refine ⟨_, l', p', ?_, List.getElem_mem h3, h4⟩
  simp -implicitDefEqProofs (disch := (first | omega | assumption)) only [PL.x_Rof, PL.x_cst, PL.x_var, PL.x_var1f, PL.x_var1l, PL.x_var1d, PL.x_pk, PL.x_pk1f, PL.x_pk1l, PL.x_pk1d, PL.x_pk1i, PL.x_pkF, PL.x_un1, PL.x_un, PL.x_truF, PL.x_bOf, PL.x_tstF, PL.x_notT, PL.x_bin1, PL.x_bin, PL.x_bp3, PL.x_bp2, PL.x_bp1, PL.x_binP, PL.x_andT, PL.x_orT, PL.x_and1t, PL.x_and1f, PL.x_or1t, PL.x_or1f, PL.x_andV, PL.x_orV, PL.x_andV1t, PL.x_andV1f, PL.x_orV1t, PL.x_orV1f, PL.x_ifE, PL.x_ifE1t, PL.x_ifE1f, PL.x_chainD, PL.x_ch1, PL.x_ch2, PL.x_ch3t, PL.x_ch3f, PL.x_nilA, PL.x_consA, PL.x_cons1, PL.x_cons2, PL.x_few, PL.x_mk1, PL.x_tupD, PL.x_lstD, PL.x_lstO, PL.x_dctO0, PL.x_frO, PL.x_cb, PL.x_noP, PL.x_iOf, PL.x_someP, PL.x_sl31, PL.x_sl32, PL.x_sl3, PL.x_slK1, PL.x_slK, PL.x_frF, PL.x_frS1, PL.x_frS2, PL.x_frS3, PL.x_cal1, PL.x_callF, PL.x_callO, PL.x_FMof, PL.x_cm1, PL.x_cm2, PL.x_cm3, PL.x_callM, PL.x_FMO, PL.x_cmo1, PL.x_cmo2, PL.x_callMO, PL.x_frzR, PL.x_itF, PL.x_rngF, PL.x_OLof, PL.x_lc2, PL.x_lc1, PL.x_lcO, PL.x_cat1, PL.x_catO, PL.x_cp1, PL.x_cp2, PL.x_cp3, PL.x_catPO, PL.x_SBn, PL.x_SBr, PL.x_skipS, PL.x_badS, PL.x_seqS, PL.x_nxO, PL.x_set1, PL.x_setS, PL.x_setO1f, PL.x_setO1l, PL.x_setO1d, PL.x_setOS, PL.x_ret1, PL.x_retO1, PL.x_exp1, PL.x_retS, PL.x_retOS, PL.x_exprS, PL.x_ifS, PL.x_if1t, PL.x_if1f, PL.x_asg1, PL.x_asgS, PL.x_argsP0, PL.x_ap1f, PL.x_ap1l, PL.x_ap1d, PL.x_ap2, PL.x_argsP, PL.x_par1, PL.x_parP, PL.x_putP0, PL.x_pp1, PL.x_putP, PL.x_app1, PL.x_app2, PL.x_nxB, PL.x_app3, PL.x_appS, PL.x_dp1, PL.x_dp2, PL.x_dp3, PL.x_dp4, PL.x_dputS, PL.x_keyI, PL.x_keyS, PL.x_up1, PL.x_up2, PL.x_up3, PL.x_updS, PL.x_for1, PL.x_forS, PL.x_RTr, PL.x_RTn, PL.x_rf1, PL.x_runF, PL.x_RMr, PL.x_RMn, PL.x_MIo, PL.x_ioOf, PL.x_rm1, PL.x_runM, PL.x_putR, PL.x_putR0f, PL.x_putR0l, PL.x_putR0d, PL.x_putR0n, PL.x_noIof, PL.x_noIol, PL.x_noIod, PL.x_noIon, PL.x_tgN, PL.x_tgT, PL.x_putAll0, PL.x_pa1, PL.x_putAll, PL.x_dAt, PL.x_dSlo, PL.x_dSli, PL.x_dPut, PL.x_dPuo, PL.x_dPui, PL.x_lAt, PL.x_lSl, PL.x_envOf, PL.x_envM, PL.x_toDl, PL.x_toDd, PL.x_toDf, PL.x_nof, PL.x_nol, PL.x_nod, PL.x_okW, PL.x_wipe0, PL.x_wipe, PL.x_yesT, PL.n_add, PL.n_mul, PL.n_mod, PL.n_div, PL.n_sub, PL.n_lt, PL.n_le, PL.n_eq, PL.d_t, PL.d_f, PL.y_add, PL.y_sub, PL.y_mod, PL.y_div, PL.y_mulL, PL.y_mulR, PL.y_lt, PL.y_le, PL.y_gt, PL.y_ge, PL.y_cmp, PL.y_eq, PL.y_ne, PL.y_int, PL.y_notD, PL.y_truB, PL.y_neg, PL.y_isi_n, PL.y_isi_b, PL.y_isi_i, PL.y_isi_s, PL.y_isi_l, PL.y_isi_t, PL.y_isi_d, PL.y_isi_c, PL.l_len, PL.l_lenT, PL.l_it, PL.l_itT, PL.l_tuple, PL.l_list, PL.l_listL, PL.l_ix, PL.l_ixT, PL.l_sum, PL.l_eq, PL.l_ne, PL.l_eq0, PL.l_ne0, PL.l_eqT, PL.l_in, PL.l_nin, PL.l_cat, PL.l_catT, PL.l_stp, PL.l_rng1, PL.l_rng2, PL.x_fb, PL.x_fb1, PL.l_eq00, PL.l_ne00, PL.l_eq01, PL.l_ne01, PL.l_lenS, PL.x_ODof, PL.x_dc2, PL.x_dc1, PL.x_dcO, PL.l_nin_tk, PL.l_in_tk, PL.l_min, PL.l_slT, PL.l_slL, PL.l_rng3, PL.x_rgl2, PL.x_rgl1, PL.x_rgList, PL.x_rgTup, PL.x_gp3, PL.x_gp2, PL.x_gp1, PL.x_getP, PL.x_mt2, PL.x_mt1, PL.x_meth1, PL.l_isL, PL.x_XRo, PL.x_XRe, PL.x_calX, PL.x_calXe, PL.x_callX, PL.x_rai1, PL.x_rai, PL.x_try3, PL.x_try2, PL.x_try2f, PL.x_try1, PL.x_try1r, PL.x_try1n, PL.x_tryR, PL.x_exu1, PL.x_exb1, PL.x_exc1, PL.x_exc2, PL.x_exm1, PL.x_exSB, PL.x_exr1, PL.x_exe1, PL.x_exi1, PL.x_exRT, PL.x_out3, PL.x_out2, PL.x_out1o, PL.x_out1e, PL.x_outF, PL.x_hidV, PL.x_hid1f, PL.x_hid1n, PL.x_hid1l, PL.x_hid1d, PL.x_hid1i, PL.x_hid0, PL.x_isX, PL.x_isX1, PL.l_enumT, PL.l_enumL, List.getElem?_cons_zero, List.getElem?_cons_succ, List.set_cons_zero, List.set_cons_succ, List.length_cons, List.length_nil, List.map_cons, List.map_nil, List.replicate_succ, List.replicate_zero, List.cons_append, List.nil_append, Nat.zero_add, Nat.add_zero, Nat.reduceAdd, Nat.reduceSub, Nat.reduceMul, Nat.reduceLT, Nat.reduceEqDiff, Bool.not_true, Bool.not_false, Bool.true_and, Bool.false_and, Bool.and_true, Bool.and_false, Bool.true_or, Bool.false_or, Bool.or_true, Bool.or_false, List.all_cons, List.all_nil, PL.nl_len, List.length_map, List.length_range, isiT, tyD, Option.map_some, Option.map_none, ne_eq, not_false_eq_true, not_true_eq_false, decide_true, decide_false, eq_self, implies_true, gt_iff_lt, ge_iff_le, m__law_of, b__law_of, h2, hg]
theorem of_nl {cs : List Int} {l p : Nat} {ns : List Nat} (hc : cs ≠ []) (hp : p < 2 ^ 40) (h0 : ns ≠ []) (h1 : ns.length < 2 ^ 40) : ∃ (x : Nat) (l' p' : Nat), m__law_of (ms cs l p) [.lst (nl ns)] = .ok (.fr (.int (x : Nat))) (ms cs l' p') ∧ x ∈ ns ∧ p' ≤ p + 1 := by
  obtain ⟨d, l', p', h2, h3, h4⟩ := of_okB (l := l) (ds := nl ns) hc hp (by cases ns with | nil => exact absurd rfl h0 | cons a b => exact fun z => nomatch z) (by rw [nl_len]; exact h1)
  obtain ⟨x, h5, rfl⟩ := List.mem_map.mp h3
  exact ⟨x, l', p', h2, h5, h4⟩
/-! the values, one by one -/
def odds : List Dt := [.non, .bl true, .bl false, .int (0 : Nat), .int (7 : Nat), .int (-((3 : Nat) : Int)), .int (10000000000000000000000000000000000000000 : Nat), .str "", .str "base", .tup [], .tup [.int (1 : Nat), .int (7 : Nat)], .lst [], .lst [.int (2 : Nat)], .dct [], .dct [(.inr "a", .int (1 : Nat))]]
def tr (r : FR) : Bool := match r with
  | .ok (.fr (.bl true)) => true
  | _ => false
theorem tr_ok {r : FR} (h : tr r = true) : r = .ok (.fr (.bl true)) := by
  unfold tr at h
  split at h
  · rfl
  · cases h
def via (r : FR) (f : Dt → FR) : Bool := match r with
  | .ok (.fr d) => tr (f d)
  | _ => false
theorem via_ok {r : FR} {f : Dt → FR} (h : via r f = true) : ∃ d, r = .ok (.fr d) ∧ f d = .ok (.fr (.bl true)) := by
  unfold via at h
  split at h
  · exact ⟨_, rfl, tr_ok h⟩
  · cases h
def sht (d : Dt) : Bool := match reprX d with
  | some (.str _) => true
  | _ => false
theorem sht_ok {d : Dt} (h : sht d = true) : ∃ s, reprX d = some (.str s) := by
  unfold sht at h
  split at h
  · rename_i s e
    exact ⟨s, e⟩
  · cases h
def chk (o : Dt) : Bool := sht o && (via (m__law_made [o]) (fun e => m__law_right [e, o]) && via (m__law_named [o]) (fun e => m__law_right [e, o]))
theorem chk_ok {o : Dt} (h : chk o = true) : ∃ s e1 e2, reprX o = some (.str s) ∧ m__law_made [o] = .ok (.fr e1) ∧ m__law_right [e1, o] = .ok (.fr (.bl true)) ∧ m__law_named [o] = .ok (.fr e2) ∧ m__law_right [e2, o] = .ok (.fr (.bl true)) := by
  unfold chk at h
  simp only [Bool.and_eq_true] at h
  obtain ⟨h1, h2, h3⟩ := h
  obtain ⟨s, e⟩ := sht_ok h1
  obtain ⟨e1, a1, a2⟩ := via_ok h2
  obtain ⟨e2, b1, b2⟩ := via_ok h3
  exact ⟨s, e1, e2, e, a1, a2, b1, b2⟩
theorem odd1 : chk (.non) = true := by decide +kernel
theorem odd2 : chk (.bl true) = true := by decide +kernel
theorem odd3 : chk (.bl false) = true := by decide +kernel
theorem odd4 : chk (.int (0 : Nat)) = true := by decide +kernel
theorem odd5 : chk (.int (7 : Nat)) = true := by decide +kernel
theorem odd6 : chk (.int (-((3 : Nat) : Int))) = true := by decide +kernel
theorem odd7 : chk (.int (10000000000000000000000000000000000000000 : Nat)) = true := by decide +kernel
theorem odd8 : chk (.str "") = true := by decide +kernel
theorem odd9 : chk (.str "base") = true := by decide +kernel
theorem oddA : chk (.tup []) = true := by decide +kernel
theorem oddB : chk (.tup [.int (1 : Nat), .int (7 : Nat)]) = true := by decide +kernel
theorem oddC : chk (.lst []) = true := by decide +kernel
theorem oddD : chk (.lst [.int (2 : Nat)]) = true := by decide +kernel
theorem oddE : chk (.dct []) = true := by decide +kernel
theorem oddF : chk (.dct [(.inr "a", .int (1 : Nat))]) = true := by decide +kernel
theorem odds_ok {o : Dt} (h : o ∈ odds) : chk o = true := by
  unfold odds at h
  simp only [List.mem_cons, List.not_mem_nil, or_false] at h
  rcases h with rfl | rfl | rfl | rfl | rfl | rfl | rfl | rfl | rfl | rfl | rfl | rfl | rfl | rfl | rfl
  · exact odd1
  · exact odd2
  · exact odd3
  · exact odd4
  · exact odd5
  · exact odd6
  · exact odd7
  · exact odd8
  · exact odd9
  · exact oddA
  · exact oddB
  · exact oddC
  · exact oddD
  · exact oddE
  · exact oddF
/-! by hand -/
def bareD : Dt := .xo "WheelError" "" (.str "no fraction")
def lstB : FR → Dt → Bool := fun r d => match r with
  | .ok (.fr e) => (match neD e d with
    | some (.bl false) => true
    | _ => false)
  | _ => false
theorem lstB_ok {r : FR} {d : Dt} (h : lstB r d = true) : ∃ e, r = .ok (.fr e) ∧ neD e d = some (.bl false) := by
  unfold lstB at h
  split at h
  · split at h
    · rename_i e2
      exact ⟨_, rfl, e2⟩
    · cases h
  · cases h
theorem bare1 : lstB (m__law_kinds [bareD]) (.lst [.bl false, .bl false, .bl false, .bl false, .bl false, .bl false, .bl false, .bl false, .bl false, .bl false, .bl false]) = true := by decide +kernel
theorem bare2 : lstB (m__law_elders [bareD]) (.lst [.bl true, .bl true, .bl false, .bl false, .bl false]) = true := by decide +kernel
theorem last1 : via (m__law_made [.tup [.int (1 : Nat), .lst [.int (2 : Nat)]]]) (fun e => m__law_right [e, .tup [.int (1 : Nat), .lst [.int (2 : Nat)]]]) = true := by decide +kernel
theorem mk_bare (ρ : Rho) : mkBF "WheelError" (cst (.str "no fraction")) ρ = .ok bareD ρ := rfl
theorem rep11 : mulD (.lst [.bl false]) (.int (11 : Nat)) = some (.lst [.bl false, .bl false, .bl false, .bl false, .bl false, .bl false, .bl false, .bl false, .bl false, .bl false, .bl false]) := by kernel_rfl
theorem ne_self (s : Str) : neD (.str s) (.str s) = some (.bl false) := by
  show some (Dt.bl (!decide (s = s))) = _
  rw [decide_eq_true rfl]
  rfl
theorem str_bare : strX ["WheelError"] bareD = some (.str "no fraction") := by kernel_rfl
theorem str_eq : eqD (.str "no fraction") (.str "no fraction") = some (.bl true) := by kernel_rfl
theorem odd_list (cs : List Int) (l p : Int) : setS 1 (lstD (consA (cst .non) (consA (cst (.bl true)) (consA (cst (.bl false)) (consA (cst (.int (0 : Nat))) (consA (cst (.int (7 : Nat))) (consA (un negD (cst (.int (3 : Nat)))) (consA (bin powD (cst (.int (10 : Nat))) (cst (.int (40 : Nat)))) (consA (cst (.str "")) (consA (cst (.str "base")) (consA (tupD (nilA)) (consA (tupD (consA (cst (.int (1 : Nat))) (consA (cst (.int (7 : Nat))) (nilA)))) (consA (lstD (nilA)) (consA (lstD (consA (cst (.int (2 : Nat))) (nilA))) (consA (frzR (dctO0)) (consA (frzR (dispO ((cst (.str "a"), cst (.int (1 : Nat))) :: ([])))) (nilA))))))))))))))))) [some (.io (ms cs l p)), none] = .nx [some (.io (ms cs l p)), V (.lst odds)] := by kernel_rfl
theorem odd_ok {cs : List Int} {l p : Nat} (hc : cs ≠ []) (hp : p < 2 ^ 40) : ∃ (d : Dt) (l' p' : Nat), m__law_odd (ms cs l p) [] = .ok (.fr d) (ms cs l' p') ∧ d ∈ odds ∧ p' ≤ p + 1 := by
  obtain ⟨d, l', p', h1, h2, h3⟩ := of_okB (l := l) (ds := odds) hc hp (fun z => nomatch z) (by decide)
  refine ⟨d, l', p', ?_, h2, h3⟩
  simp -implicitDefEqProofs (disch := (first | omega | assumption)) only [PL.x_Rof, PL.x_cst, PL.x_var, PL.x_var1f, PL.x_var1l, PL.x_var1d, PL.x_pk, PL.x_pk1f, PL.x_pk1l, PL.x_pk1d, PL.x_pk1i, PL.x_pkF, PL.x_un1, PL.x_un, PL.x_truF, PL.x_bOf, PL.x_tstF, PL.x_notT, PL.x_bin1, PL.x_bin, PL.x_bp3, PL.x_bp2, PL.x_bp1, PL.x_binP, PL.x_andT, PL.x_orT, PL.x_and1t, PL.x_and1f, PL.x_or1t, PL.x_or1f, PL.x_andV, PL.x_orV, PL.x_andV1t, PL.x_andV1f, PL.x_orV1t, PL.x_orV1f, PL.x_ifE, PL.x_ifE1t, PL.x_ifE1f, PL.x_chainD, PL.x_ch1, PL.x_ch2, PL.x_ch3t, PL.x_ch3f, PL.x_nilA, PL.x_consA, PL.x_cons1, PL.x_cons2, PL.x_few, PL.x_mk1, PL.x_tupD, PL.x_lstD, PL.x_lstO, PL.x_dctO0, PL.x_frO, PL.x_cb, PL.x_noP, PL.x_iOf, PL.x_someP, PL.x_sl31, PL.x_sl32, PL.x_sl3, PL.x_slK1, PL.x_slK, PL.x_frF, PL.x_frS1, PL.x_frS2, PL.x_frS3, PL.x_cal1, PL.x_callF, PL.x_callO, PL.x_FMof, PL.x_cm1, PL.x_cm2, PL.x_cm3, PL.x_callM, PL.x_FMO, PL.x_cmo1, PL.x_cmo2, PL.x_callMO, PL.x_frzR, PL.x_itF, PL.x_rngF, PL.x_OLof, PL.x_lc2, PL.x_lc1, PL.x_lcO, PL.x_cat1, PL.x_catO, PL.x_cp1, PL.x_cp2, PL.x_cp3, PL.x_catPO, PL.x_SBn, PL.x_SBr, PL.x_skipS, PL.x_badS, PL.x_seqS, PL.x_nxO, PL.x_set1, PL.x_setS, PL.x_setO1f, PL.x_setO1l, PL.x_setO1d, PL.x_setOS, PL.x_ret1, PL.x_retO1, PL.x_exp1, PL.x_retS, PL.x_retOS, PL.x_exprS, PL.x_ifS, PL.x_if1t, PL.x_if1f, PL.x_asg1, PL.x_asgS, PL.x_argsP0, PL.x_ap1f, PL.x_ap1l, PL.x_ap1d, PL.x_ap2, PL.x_argsP, PL.x_par1, PL.x_parP, PL.x_putP0, PL.x_pp1, PL.x_putP, PL.x_app1, PL.x_app2, PL.x_nxB, PL.x_app3, PL.x_appS, PL.x_dp1, PL.x_dp2, PL.x_dp3, PL.x_dp4, PL.x_dputS, PL.x_keyI, PL.x_keyS, PL.x_up1, PL.x_up2, PL.x_up3, PL.x_updS, PL.x_for1, PL.x_forS, PL.x_RTr, PL.x_RTn, PL.x_rf1, PL.x_runF, PL.x_RMr, PL.x_RMn, PL.x_MIo, PL.x_ioOf, PL.x_rm1, PL.x_runM, PL.x_putR, PL.x_putR0f, PL.x_putR0l, PL.x_putR0d, PL.x_putR0n, PL.x_noIof, PL.x_noIol, PL.x_noIod, PL.x_noIon, PL.x_tgN, PL.x_tgT, PL.x_putAll0, PL.x_pa1, PL.x_putAll, PL.x_dAt, PL.x_dSlo, PL.x_dSli, PL.x_dPut, PL.x_dPuo, PL.x_dPui, PL.x_lAt, PL.x_lSl, PL.x_envOf, PL.x_envM, PL.x_toDl, PL.x_toDd, PL.x_toDf, PL.x_nof, PL.x_nol, PL.x_nod, PL.x_okW, PL.x_wipe0, PL.x_wipe, PL.x_yesT, PL.n_add, PL.n_mul, PL.n_mod, PL.n_div, PL.n_sub, PL.n_lt, PL.n_le, PL.n_eq, PL.d_t, PL.d_f, PL.y_add, PL.y_sub, PL.y_mod, PL.y_div, PL.y_mulL, PL.y_mulR, PL.y_lt, PL.y_le, PL.y_gt, PL.y_ge, PL.y_cmp, PL.y_eq, PL.y_ne, PL.y_int, PL.y_notD, PL.y_truB, PL.y_neg, PL.y_isi_n, PL.y_isi_b, PL.y_isi_i, PL.y_isi_s, PL.y_isi_l, PL.y_isi_t, PL.y_isi_d, PL.y_isi_c, PL.l_len, PL.l_lenT, PL.l_it, PL.l_itT, PL.l_tuple, PL.l_list, PL.l_listL, PL.l_ix, PL.l_ixT, PL.l_sum, PL.l_eq, PL.l_ne, PL.l_eq0, PL.l_ne0, PL.l_eqT, PL.l_in, PL.l_nin, PL.l_cat, PL.l_catT, PL.l_stp, PL.l_rng1, PL.l_rng2, PL.x_fb, PL.x_fb1, PL.l_eq00, PL.l_ne00, PL.l_eq01, PL.l_ne01, PL.l_lenS, PL.x_ODof, PL.x_dc2, PL.x_dc1, PL.x_dcO, PL.l_nin_tk, PL.l_in_tk, PL.l_min, PL.l_slT, PL.l_slL, PL.l_rng3, PL.x_rgl2, PL.x_rgl1, PL.x_rgList, PL.x_rgTup, PL.x_gp3, PL.x_gp2, PL.x_gp1, PL.x_getP, PL.x_mt2, PL.x_mt1, PL.x_meth1, PL.l_isL, PL.x_XRo, PL.x_XRe, PL.x_calX, PL.x_calXe, PL.x_callX, PL.x_rai1, PL.x_rai, PL.x_try3, PL.x_try2, PL.x_try2f, PL.x_try1, PL.x_try1r, PL.x_try1n, PL.x_tryR, PL.x_exu1, PL.x_exb1, PL.x_exc1, PL.x_exc2, PL.x_exm1, PL.x_exSB, PL.x_exr1, PL.x_exe1, PL.x_exi1, PL.x_exRT, PL.x_out3, PL.x_out2, PL.x_out1o, PL.x_out1e, PL.x_outF, PL.x_hidV, PL.x_hid1f, PL.x_hid1n, PL.x_hid1l, PL.x_hid1d, PL.x_hid1i, PL.x_hid0, PL.x_isX, PL.x_isX1, PL.l_enumT, PL.l_enumL, List.getElem?_cons_zero, List.getElem?_cons_succ, List.set_cons_zero, List.set_cons_succ, List.length_cons, List.length_nil, List.map_cons, List.map_nil, List.replicate_succ, List.replicate_zero, List.cons_append, List.nil_append, Nat.zero_add, Nat.add_zero, Nat.reduceAdd, Nat.reduceSub, Nat.reduceMul, Nat.reduceLT, Nat.reduceEqDiff, Bool.not_true, Bool.not_false, Bool.true_and, Bool.false_and, Bool.and_true, Bool.and_false, Bool.true_or, Bool.false_or, Bool.or_true, Bool.or_false, List.all_cons, List.all_nil, PL.nl_len, List.length_map, List.length_range, isiT, tyD, Option.map_some, Option.map_none, ne_eq, not_false_eq_true, not_true_eq_false, decide_true, decide_false, eq_self, implies_true, gt_iff_lt, ge_iff_le, m__law_odd, b__law_odd, ↓odd_list, h1]
theorem law_true (ns : List Int) (hn : ns.length ≤ 63) : m_law [.scr ns] = .ok (.fr (.bl true)) := by
  obtain ⟨cs, l, hc, hb⟩ := begun_ok ns hn
  obtain ⟨q, hq, hq1, hq2, hq3⟩ := laps_ok ns 3 6
  simp -implicitDefEqProofs (disch := (first | omega | assumption)) only [PL.x_Rof, PL.x_cst, PL.x_var, PL.x_var1f, PL.x_var1l, PL.x_var1d, PL.x_pk, PL.x_pk1f, PL.x_pk1l, PL.x_pk1d, PL.x_pk1i, PL.x_pkF, PL.x_un1, PL.x_un, PL.x_truF, PL.x_bOf, PL.x_tstF, PL.x_notT, PL.x_bin1, PL.x_bin, PL.x_bp3, PL.x_bp2, PL.x_bp1, PL.x_binP, PL.x_andT, PL.x_orT, PL.x_and1t, PL.x_and1f, PL.x_or1t, PL.x_or1f, PL.x_andV, PL.x_orV, PL.x_andV1t, PL.x_andV1f, PL.x_orV1t, PL.x_orV1f, PL.x_ifE, PL.x_ifE1t, PL.x_ifE1f, PL.x_chainD, PL.x_ch1, PL.x_ch2, PL.x_ch3t, PL.x_ch3f, PL.x_nilA, PL.x_consA, PL.x_cons1, PL.x_cons2, PL.x_few, PL.x_mk1, PL.x_tupD, PL.x_lstD, PL.x_lstO, PL.x_dctO0, PL.x_frO, PL.x_cb, PL.x_noP, PL.x_iOf, PL.x_someP, PL.x_sl31, PL.x_sl32, PL.x_sl3, PL.x_slK1, PL.x_slK, PL.x_frF, PL.x_frS1, PL.x_frS2, PL.x_frS3, PL.x_cal1, PL.x_callF, PL.x_callO, PL.x_FMof, PL.x_cm1, PL.x_cm2, PL.x_cm3, PL.x_callM, PL.x_FMO, PL.x_cmo1, PL.x_cmo2, PL.x_callMO, PL.x_frzR, PL.x_itF, PL.x_rngF, PL.x_OLof, PL.x_lc2, PL.x_lc1, PL.x_lcO, PL.x_cat1, PL.x_catO, PL.x_cp1, PL.x_cp2, PL.x_cp3, PL.x_catPO, PL.x_SBn, PL.x_SBr, PL.x_skipS, PL.x_badS, PL.x_seqS, PL.x_nxO, PL.x_set1, PL.x_setS, PL.x_setO1f, PL.x_setO1l, PL.x_setO1d, PL.x_setOS, PL.x_ret1, PL.x_retO1, PL.x_exp1, PL.x_retS, PL.x_retOS, PL.x_exprS, PL.x_ifS, PL.x_if1t, PL.x_if1f, PL.x_asg1, PL.x_asgS, PL.x_argsP0, PL.x_ap1f, PL.x_ap1l, PL.x_ap1d, PL.x_ap2, PL.x_argsP, PL.x_par1, PL.x_parP, PL.x_putP0, PL.x_pp1, PL.x_putP, PL.x_app1, PL.x_app2, PL.x_nxB, PL.x_app3, PL.x_appS, PL.x_dp1, PL.x_dp2, PL.x_dp3, PL.x_dp4, PL.x_dputS, PL.x_keyI, PL.x_keyS, PL.x_up1, PL.x_up2, PL.x_up3, PL.x_updS, PL.x_for1, PL.x_forS, PL.x_RTr, PL.x_RTn, PL.x_rf1, PL.x_runF, PL.x_RMr, PL.x_RMn, PL.x_MIo, PL.x_ioOf, PL.x_rm1, PL.x_runM, PL.x_putR, PL.x_putR0f, PL.x_putR0l, PL.x_putR0d, PL.x_putR0n, PL.x_noIof, PL.x_noIol, PL.x_noIod, PL.x_noIon, PL.x_tgN, PL.x_tgT, PL.x_putAll0, PL.x_pa1, PL.x_putAll, PL.x_dAt, PL.x_dSlo, PL.x_dSli, PL.x_dPut, PL.x_dPuo, PL.x_dPui, PL.x_lAt, PL.x_lSl, PL.x_envOf, PL.x_envM, PL.x_toDl, PL.x_toDd, PL.x_toDf, PL.x_nof, PL.x_nol, PL.x_nod, PL.x_okW, PL.x_wipe0, PL.x_wipe, PL.x_yesT, PL.n_add, PL.n_mul, PL.n_mod, PL.n_div, PL.n_sub, PL.n_lt, PL.n_le, PL.n_eq, PL.d_t, PL.d_f, PL.y_add, PL.y_sub, PL.y_mod, PL.y_div, PL.y_mulL, PL.y_mulR, PL.y_lt, PL.y_le, PL.y_gt, PL.y_ge, PL.y_cmp, PL.y_eq, PL.y_ne, PL.y_int, PL.y_notD, PL.y_truB, PL.y_neg, PL.y_isi_n, PL.y_isi_b, PL.y_isi_i, PL.y_isi_s, PL.y_isi_l, PL.y_isi_t, PL.y_isi_d, PL.y_isi_c, PL.l_len, PL.l_lenT, PL.l_it, PL.l_itT, PL.l_tuple, PL.l_list, PL.l_listL, PL.l_ix, PL.l_ixT, PL.l_sum, PL.l_eq, PL.l_ne, PL.l_eq0, PL.l_ne0, PL.l_eqT, PL.l_in, PL.l_nin, PL.l_cat, PL.l_catT, PL.l_stp, PL.l_rng1, PL.l_rng2, PL.x_fb, PL.x_fb1, PL.l_eq00, PL.l_ne00, PL.l_eq01, PL.l_ne01, PL.l_lenS, PL.x_ODof, PL.x_dc2, PL.x_dc1, PL.x_dcO, PL.l_nin_tk, PL.l_in_tk, PL.l_min, PL.l_slT, PL.l_slL, PL.l_rng3, PL.x_rgl2, PL.x_rgl1, PL.x_rgList, PL.x_rgTup, PL.x_gp3, PL.x_gp2, PL.x_gp1, PL.x_getP, PL.x_mt2, PL.x_mt1, PL.x_meth1, PL.l_isL, PL.x_XRo, PL.x_XRe, PL.x_calX, PL.x_calXe, PL.x_callX, PL.x_rai1, PL.x_rai, PL.x_try3, PL.x_try2, PL.x_try2f, PL.x_try1, PL.x_try1r, PL.x_try1n, PL.x_tryR, PL.x_exu1, PL.x_exb1, PL.x_exc1, PL.x_exc2, PL.x_exm1, PL.x_exSB, PL.x_exr1, PL.x_exe1, PL.x_exi1, PL.x_exRT, PL.x_out3, PL.x_out2, PL.x_out1o, PL.x_out1e, PL.x_outF, PL.x_hidV, PL.x_hid1f, PL.x_hid1n, PL.x_hid1l, PL.x_hid1d, PL.x_hid1i, PL.x_hid0, PL.x_isX, PL.x_isX1, PL.l_enumT, PL.l_enumL, List.getElem?_cons_zero, List.getElem?_cons_succ, List.set_cons_zero, List.set_cons_succ, List.length_cons, List.length_nil, List.map_cons, List.map_nil, List.replicate_succ, List.replicate_zero, List.cons_append, List.nil_append, Nat.zero_add, Nat.add_zero, Nat.reduceAdd, Nat.reduceSub, Nat.reduceMul, Nat.reduceLT, Nat.reduceEqDiff, Bool.not_true, Bool.not_false, Bool.true_and, Bool.false_and, Bool.and_true, Bool.and_false, Bool.true_or, Bool.false_or, Bool.or_true, Bool.or_false, List.all_cons, List.all_nil, PL.nl_len, List.length_map, List.length_range, isiT, tyD, Option.map_some, Option.map_none, ne_eq, not_false_eq_true, not_true_eq_false, decide_true, decide_false, eq_self, implies_true, gt_iff_lt, ge_iff_le, m_law, b_law, hb, l_lenS, hq2, hq3]
  refine rt_for (fun k ρ => ∃ (l p : Nat) (e2 e4 e5 : Option Sl), ρ = [V (.scr ns), some (.od (ms cs l p)), e2, none, e4, e5] ∧ p ≤ k) ⟨l, 0, none, none, none, rfl, Nat.zero_le _⟩ ?_ ?_
  · rintro i c ρ hi ⟨l, p, e2, e4, e5, rfl, hp⟩
    have hi' : i < q := by have := (List.getElem?_eq_some_iff.mp hi).1; rwa [List.length_range] at this
    obtain ⟨d, l1, p1, h1, h2, h3⟩ := odd_ok (l := l) (p := p) hc (by omega)
    obtain ⟨s, e1, e2', hr, a1, a2, b1, b2⟩ := chk_ok (odds_ok h2)
    refine ⟨_, ?_, l1, p1, I c, V d, V (.str s), rfl, by omega⟩
    simp -implicitDefEqProofs (disch := (first | omega | assumption)) only [PL.x_Rof, PL.x_cst, PL.x_var, PL.x_var1f, PL.x_var1l, PL.x_var1d, PL.x_pk, PL.x_pk1f, PL.x_pk1l, PL.x_pk1d, PL.x_pk1i, PL.x_pkF, PL.x_un1, PL.x_un, PL.x_truF, PL.x_bOf, PL.x_tstF, PL.x_notT, PL.x_bin1, PL.x_bin, PL.x_bp3, PL.x_bp2, PL.x_bp1, PL.x_binP, PL.x_andT, PL.x_orT, PL.x_and1t, PL.x_and1f, PL.x_or1t, PL.x_or1f, PL.x_andV, PL.x_orV, PL.x_andV1t, PL.x_andV1f, PL.x_orV1t, PL.x_orV1f, PL.x_ifE, PL.x_ifE1t, PL.x_ifE1f, PL.x_chainD, PL.x_ch1, PL.x_ch2, PL.x_ch3t, PL.x_ch3f, PL.x_nilA, PL.x_consA, PL.x_cons1, PL.x_cons2, PL.x_few, PL.x_mk1, PL.x_tupD, PL.x_lstD, PL.x_lstO, PL.x_dctO0, PL.x_frO, PL.x_cb, PL.x_noP, PL.x_iOf, PL.x_someP, PL.x_sl31, PL.x_sl32, PL.x_sl3, PL.x_slK1, PL.x_slK, PL.x_frF, PL.x_frS1, PL.x_frS2, PL.x_frS3, PL.x_cal1, PL.x_callF, PL.x_callO, PL.x_FMof, PL.x_cm1, PL.x_cm2, PL.x_cm3, PL.x_callM, PL.x_FMO, PL.x_cmo1, PL.x_cmo2, PL.x_callMO, PL.x_frzR, PL.x_itF, PL.x_rngF, PL.x_OLof, PL.x_lc2, PL.x_lc1, PL.x_lcO, PL.x_cat1, PL.x_catO, PL.x_cp1, PL.x_cp2, PL.x_cp3, PL.x_catPO, PL.x_SBn, PL.x_SBr, PL.x_skipS, PL.x_badS, PL.x_seqS, PL.x_nxO, PL.x_set1, PL.x_setS, PL.x_setO1f, PL.x_setO1l, PL.x_setO1d, PL.x_setOS, PL.x_ret1, PL.x_retO1, PL.x_exp1, PL.x_retS, PL.x_retOS, PL.x_exprS, PL.x_ifS, PL.x_if1t, PL.x_if1f, PL.x_asg1, PL.x_asgS, PL.x_argsP0, PL.x_ap1f, PL.x_ap1l, PL.x_ap1d, PL.x_ap2, PL.x_argsP, PL.x_par1, PL.x_parP, PL.x_putP0, PL.x_pp1, PL.x_putP, PL.x_app1, PL.x_app2, PL.x_nxB, PL.x_app3, PL.x_appS, PL.x_dp1, PL.x_dp2, PL.x_dp3, PL.x_dp4, PL.x_dputS, PL.x_keyI, PL.x_keyS, PL.x_up1, PL.x_up2, PL.x_up3, PL.x_updS, PL.x_for1, PL.x_forS, PL.x_RTr, PL.x_RTn, PL.x_rf1, PL.x_runF, PL.x_RMr, PL.x_RMn, PL.x_MIo, PL.x_ioOf, PL.x_rm1, PL.x_runM, PL.x_putR, PL.x_putR0f, PL.x_putR0l, PL.x_putR0d, PL.x_putR0n, PL.x_noIof, PL.x_noIol, PL.x_noIod, PL.x_noIon, PL.x_tgN, PL.x_tgT, PL.x_putAll0, PL.x_pa1, PL.x_putAll, PL.x_dAt, PL.x_dSlo, PL.x_dSli, PL.x_dPut, PL.x_dPuo, PL.x_dPui, PL.x_lAt, PL.x_lSl, PL.x_envOf, PL.x_envM, PL.x_toDl, PL.x_toDd, PL.x_toDf, PL.x_nof, PL.x_nol, PL.x_nod, PL.x_okW, PL.x_wipe0, PL.x_wipe, PL.x_yesT, PL.n_add, PL.n_mul, PL.n_mod, PL.n_div, PL.n_sub, PL.n_lt, PL.n_le, PL.n_eq, PL.d_t, PL.d_f, PL.y_add, PL.y_sub, PL.y_mod, PL.y_div, PL.y_mulL, PL.y_mulR, PL.y_lt, PL.y_le, PL.y_gt, PL.y_ge, PL.y_cmp, PL.y_eq, PL.y_ne, PL.y_int, PL.y_notD, PL.y_truB, PL.y_neg, PL.y_isi_n, PL.y_isi_b, PL.y_isi_i, PL.y_isi_s, PL.y_isi_l, PL.y_isi_t, PL.y_isi_d, PL.y_isi_c, PL.l_len, PL.l_lenT, PL.l_it, PL.l_itT, PL.l_tuple, PL.l_list, PL.l_listL, PL.l_ix, PL.l_ixT, PL.l_sum, PL.l_eq, PL.l_ne, PL.l_eq0, PL.l_ne0, PL.l_eqT, PL.l_in, PL.l_nin, PL.l_cat, PL.l_catT, PL.l_stp, PL.l_rng1, PL.l_rng2, PL.x_fb, PL.x_fb1, PL.l_eq00, PL.l_ne00, PL.l_eq01, PL.l_ne01, PL.l_lenS, PL.x_ODof, PL.x_dc2, PL.x_dc1, PL.x_dcO, PL.l_nin_tk, PL.l_in_tk, PL.l_min, PL.l_slT, PL.l_slL, PL.l_rng3, PL.x_rgl2, PL.x_rgl1, PL.x_rgList, PL.x_rgTup, PL.x_gp3, PL.x_gp2, PL.x_gp1, PL.x_getP, PL.x_mt2, PL.x_mt1, PL.x_meth1, PL.l_isL, PL.x_XRo, PL.x_XRe, PL.x_calX, PL.x_calXe, PL.x_callX, PL.x_rai1, PL.x_rai, PL.x_try3, PL.x_try2, PL.x_try2f, PL.x_try1, PL.x_try1r, PL.x_try1n, PL.x_tryR, PL.x_exu1, PL.x_exb1, PL.x_exc1, PL.x_exc2, PL.x_exm1, PL.x_exSB, PL.x_exr1, PL.x_exe1, PL.x_exi1, PL.x_exRT, PL.x_out3, PL.x_out2, PL.x_out1o, PL.x_out1e, PL.x_outF, PL.x_hidV, PL.x_hid1f, PL.x_hid1n, PL.x_hid1l, PL.x_hid1d, PL.x_hid1i, PL.x_hid0, PL.x_isX, PL.x_isX1, PL.l_enumT, PL.l_enumL, List.getElem?_cons_zero, List.getElem?_cons_succ, List.set_cons_zero, List.set_cons_succ, List.length_cons, List.length_nil, List.map_cons, List.map_nil, List.replicate_succ, List.replicate_zero, List.cons_append, List.nil_append, Nat.zero_add, Nat.add_zero, Nat.reduceAdd, Nat.reduceSub, Nat.reduceMul, Nat.reduceLT, Nat.reduceEqDiff, Bool.not_true, Bool.not_false, Bool.true_and, Bool.false_and, Bool.and_true, Bool.and_false, Bool.true_or, Bool.false_or, Bool.or_true, Bool.or_false, List.all_cons, List.all_nil, PL.nl_len, List.length_map, List.length_range, isiT, tyD, Option.map_some, Option.map_none, ne_eq, not_false_eq_true, not_true_eq_false, decide_true, decide_false, eq_self, implies_true, gt_iff_lt, ge_iff_le, x_fb, x_fb1, h1, hr, a1, a2, b1, b2, ne_self]
  · rintro ρ ⟨l, p, e2, e4, e5, rfl, hp⟩
    obtain ⟨d1, a1, a2⟩ := lstB_ok bare1
    obtain ⟨d2, b1, b2⟩ := lstB_ok bare2
    obtain ⟨d3, c1, c2⟩ := via_ok last1
    simp -implicitDefEqProofs (disch := (first | omega | assumption)) only [PL.x_Rof, PL.x_cst, PL.x_var, PL.x_var1f, PL.x_var1l, PL.x_var1d, PL.x_pk, PL.x_pk1f, PL.x_pk1l, PL.x_pk1d, PL.x_pk1i, PL.x_pkF, PL.x_un1, PL.x_un, PL.x_truF, PL.x_bOf, PL.x_tstF, PL.x_notT, PL.x_bin1, PL.x_bin, PL.x_bp3, PL.x_bp2, PL.x_bp1, PL.x_binP, PL.x_andT, PL.x_orT, PL.x_and1t, PL.x_and1f, PL.x_or1t, PL.x_or1f, PL.x_andV, PL.x_orV, PL.x_andV1t, PL.x_andV1f, PL.x_orV1t, PL.x_orV1f, PL.x_ifE, PL.x_ifE1t, PL.x_ifE1f, PL.x_chainD, PL.x_ch1, PL.x_ch2, PL.x_ch3t, PL.x_ch3f, PL.x_nilA, PL.x_consA, PL.x_cons1, PL.x_cons2, PL.x_few, PL.x_mk1, PL.x_tupD, PL.x_lstD, PL.x_lstO, PL.x_dctO0, PL.x_frO, PL.x_cb, PL.x_noP, PL.x_iOf, PL.x_someP, PL.x_sl31, PL.x_sl32, PL.x_sl3, PL.x_slK1, PL.x_slK, PL.x_frF, PL.x_frS1, PL.x_frS2, PL.x_frS3, PL.x_cal1, PL.x_callF, PL.x_callO, PL.x_FMof, PL.x_cm1, PL.x_cm2, PL.x_cm3, PL.x_callM, PL.x_FMO, PL.x_cmo1, PL.x_cmo2, PL.x_callMO, PL.x_frzR, PL.x_itF, PL.x_rngF, PL.x_OLof, PL.x_lc2, PL.x_lc1, PL.x_lcO, PL.x_cat1, PL.x_catO, PL.x_cp1, PL.x_cp2, PL.x_cp3, PL.x_catPO, PL.x_SBn, PL.x_SBr, PL.x_skipS, PL.x_badS, PL.x_seqS, PL.x_nxO, PL.x_set1, PL.x_setS, PL.x_setO1f, PL.x_setO1l, PL.x_setO1d, PL.x_setOS, PL.x_ret1, PL.x_retO1, PL.x_exp1, PL.x_retS, PL.x_retOS, PL.x_exprS, PL.x_ifS, PL.x_if1t, PL.x_if1f, PL.x_asg1, PL.x_asgS, PL.x_argsP0, PL.x_ap1f, PL.x_ap1l, PL.x_ap1d, PL.x_ap2, PL.x_argsP, PL.x_par1, PL.x_parP, PL.x_putP0, PL.x_pp1, PL.x_putP, PL.x_app1, PL.x_app2, PL.x_nxB, PL.x_app3, PL.x_appS, PL.x_dp1, PL.x_dp2, PL.x_dp3, PL.x_dp4, PL.x_dputS, PL.x_keyI, PL.x_keyS, PL.x_up1, PL.x_up2, PL.x_up3, PL.x_updS, PL.x_for1, PL.x_forS, PL.x_RTr, PL.x_RTn, PL.x_rf1, PL.x_runF, PL.x_RMr, PL.x_RMn, PL.x_MIo, PL.x_ioOf, PL.x_rm1, PL.x_runM, PL.x_putR, PL.x_putR0f, PL.x_putR0l, PL.x_putR0d, PL.x_putR0n, PL.x_noIof, PL.x_noIol, PL.x_noIod, PL.x_noIon, PL.x_tgN, PL.x_tgT, PL.x_putAll0, PL.x_pa1, PL.x_putAll, PL.x_dAt, PL.x_dSlo, PL.x_dSli, PL.x_dPut, PL.x_dPuo, PL.x_dPui, PL.x_lAt, PL.x_lSl, PL.x_envOf, PL.x_envM, PL.x_toDl, PL.x_toDd, PL.x_toDf, PL.x_nof, PL.x_nol, PL.x_nod, PL.x_okW, PL.x_wipe0, PL.x_wipe, PL.x_yesT, PL.n_add, PL.n_mul, PL.n_mod, PL.n_div, PL.n_sub, PL.n_lt, PL.n_le, PL.n_eq, PL.d_t, PL.d_f, PL.y_add, PL.y_sub, PL.y_mod, PL.y_div, PL.y_mulL, PL.y_mulR, PL.y_lt, PL.y_le, PL.y_gt, PL.y_ge, PL.y_cmp, PL.y_eq, PL.y_ne, PL.y_int, PL.y_notD, PL.y_truB, PL.y_neg, PL.y_isi_n, PL.y_isi_b, PL.y_isi_i, PL.y_isi_s, PL.y_isi_l, PL.y_isi_t, PL.y_isi_d, PL.y_isi_c, PL.l_len, PL.l_lenT, PL.l_it, PL.l_itT, PL.l_tuple, PL.l_list, PL.l_listL, PL.l_ix, PL.l_ixT, PL.l_sum, PL.l_eq, PL.l_ne, PL.l_eq0, PL.l_ne0, PL.l_eqT, PL.l_in, PL.l_nin, PL.l_cat, PL.l_catT, PL.l_stp, PL.l_rng1, PL.l_rng2, PL.x_fb, PL.x_fb1, PL.l_eq00, PL.l_ne00, PL.l_eq01, PL.l_ne01, PL.l_lenS, PL.x_ODof, PL.x_dc2, PL.x_dc1, PL.x_dcO, PL.l_nin_tk, PL.l_in_tk, PL.l_min, PL.l_slT, PL.l_slL, PL.l_rng3, PL.x_rgl2, PL.x_rgl1, PL.x_rgList, PL.x_rgTup, PL.x_gp3, PL.x_gp2, PL.x_gp1, PL.x_getP, PL.x_mt2, PL.x_mt1, PL.x_meth1, PL.l_isL, PL.x_XRo, PL.x_XRe, PL.x_calX, PL.x_calXe, PL.x_callX, PL.x_rai1, PL.x_rai, PL.x_try3, PL.x_try2, PL.x_try2f, PL.x_try1, PL.x_try1r, PL.x_try1n, PL.x_tryR, PL.x_exu1, PL.x_exb1, PL.x_exc1, PL.x_exc2, PL.x_exm1, PL.x_exSB, PL.x_exr1, PL.x_exe1, PL.x_exi1, PL.x_exRT, PL.x_out3, PL.x_out2, PL.x_out1o, PL.x_out1e, PL.x_outF, PL.x_hidV, PL.x_hid1f, PL.x_hid1n, PL.x_hid1l, PL.x_hid1d, PL.x_hid1i, PL.x_hid0, PL.x_isX, PL.x_isX1, PL.l_enumT, PL.l_enumL, List.getElem?_cons_zero, List.getElem?_cons_succ, List.set_cons_zero, List.set_cons_succ, List.length_cons, List.length_nil, List.map_cons, List.map_nil, List.replicate_succ, List.replicate_zero, List.cons_append, List.nil_append, Nat.zero_add, Nat.add_zero, Nat.reduceAdd, Nat.reduceSub, Nat.reduceMul, Nat.reduceLT, Nat.reduceEqDiff, Bool.not_true, Bool.not_false, Bool.true_and, Bool.false_and, Bool.and_true, Bool.and_false, Bool.true_or, Bool.false_or, Bool.or_true, Bool.or_false, List.all_cons, List.all_nil, PL.nl_len, List.length_map, List.length_range, isiT, tyD, Option.map_some, Option.map_none, ne_eq, not_false_eq_true, not_true_eq_false, decide_true, decide_false, eq_self, implies_true, gt_iff_lt, ge_iff_le, mk_bare, a1, a2, b1, b2, c1, c2, rep11, str_bare, ↓str_eq]
end LAW

section
open PySem PySem.Spec PyProof.Rows L2 DW
namespace LAW
def dd__law_begun : He.DefD := ⟨("_law_begun", none), "_law_begun", "_law_begun", defArgs st__law_begun, defBody st__law_begun, defScope st__law_begun, [], []⟩
def dd__law_draw : He.DefD := ⟨("_law_draw", none), "_law_draw", "_law_draw", defArgs st__law_draw, defBody st__law_draw, defScope st__law_draw, [], []⟩
def dd__law_of : He.DefD := ⟨("_law_of", none), "_law_of", "_law_of", defArgs st__law_of, defBody st__law_of, defScope st__law_of, [], []⟩
def dd__law_odd : He.DefD := ⟨("_law_odd", none), "_law_odd", "_law_odd", defArgs st__law_odd, defBody st__law_odd, defScope st__law_odd, [], []⟩
def dd__law_fields : He.DefD := ⟨("_law_fields", none), "_law_fields", "_law_fields", defArgs st__law_fields, defBody st__law_fields, defScope st__law_fields, [], []⟩
def dd__law_kinds : He.DefD := ⟨("_law_kinds", none), "_law_kinds", "_law_kinds", defArgs st__law_kinds, defBody st__law_kinds, defScope st__law_kinds, [], []⟩
def dd__law_elders : He.DefD := ⟨("_law_elders", none), "_law_elders", "_law_elders", defArgs st__law_elders, defBody st__law_elders, defScope st__law_elders, [], []⟩
def dd__law_right : He.DefD := ⟨("_law_right", none), "_law_right", "_law_right", defArgs st__law_right, defBody st__law_right, defScope st__law_right, [], []⟩
def dd__law_made : He.DefD := ⟨("_law_made", none), "_law_made", "_law_made", defArgs st__law_made, defBody st__law_made, defScope st__law_made, [], []⟩
def dd__law_named : He.DefD := ⟨("_law_named", none), "_law_named", "_law_named", defArgs st__law_named, defBody st__law_named, defScope st__law_named, [], []⟩
def dd_law : He.DefD := ⟨("law", none), "law", "law", defArgs st_law, defBody st_law, defScope st_law, [], []⟩
def fnL : List He.DefD := [dd__law_begun, dd__law_draw, dd__law_of, dd__law_odd, dd__law_fields, dd__law_kinds, dd__law_elders, dd__law_right, dd__law_made, dd__law_named, dd_law]
def faL : List He.Fa := [.glo "_law_begun", .glo "_law_draw", .glo "_law_of", .glo "_law_odd", .glo "_law_fields", .glo "_law_kinds", .glo "_law_elders", .glo "_law_right", .glo "_law_made", .glo "_law_named", .glo "law", .free "len", .free "list", .free "int", .free "isinstance", .free "RuntimeError", .free "TypeError", .free "IndexError", .free "KeyError", .free "LookupError", .free "OverflowError", .free "ValueError", .free "enumerate", .free "range", .free "repr", .free "str", .free "min"]
def names0 : List Str := ["WheelError", "BadBase", "BadDenominator", "BadFraction", "BadDigits", "BadNumber", "BadPaper", "BadText", "BadSeen", "BadFacts", "TooGreat", "Nothing", "_law_begun", "_law_draw", "_law_of", "_law_odd", "_law_made", "_law_named", "_law_fields", "_law_kinds", "_law_elders", "_law_right"]
def names : List Str := names0
abbrev RR : PySem.W.OpenRow := PySem.W.OpenLaw.row PySem.Challenge.rw_wheelnines_k01_errors
def dx_BadBase : DWX.XD := ⟨"BadBase", "value", DWX.clsInit (top 2), "ValueError", "ValueError.__new__", "ValueError.__init__", DWX.veB⟩
theorem tx_BadBase : DWX.TxtOk (DWX.clsInit (top 2)) "value" := ⟨_, _, _, _, _, _, _, _, _, _, _, _, _, _, rfl, rfl, rfl, fun _ => rfl⟩
def dx_BadDenominator : DWX.XD := ⟨"BadDenominator", "value", DWX.clsInit (top 3), "ValueError", "ValueError.__new__", "ValueError.__init__", DWX.veB⟩
theorem tx_BadDenominator : DWX.TxtOk (DWX.clsInit (top 3)) "value" := ⟨_, _, _, _, _, _, _, _, _, _, _, _, _, _, rfl, rfl, rfl, fun _ => rfl⟩
def dx_BadFraction : DWX.XD := ⟨"BadFraction", "value", DWX.clsInit (top 4), "ValueError", "ValueError.__new__", "ValueError.__init__", DWX.veB⟩
theorem tx_BadFraction : DWX.TxtOk (DWX.clsInit (top 4)) "value" := ⟨_, _, _, _, _, _, _, _, _, _, _, _, _, _, rfl, rfl, rfl, fun _ => rfl⟩
def dx_BadDigits : DWX.XD := ⟨"BadDigits", "value", DWX.clsInit (top 5), "ValueError", "ValueError.__new__", "ValueError.__init__", DWX.veB⟩
theorem tx_BadDigits : DWX.TxtOk (DWX.clsInit (top 5)) "value" := ⟨_, _, _, _, _, _, _, _, _, _, _, _, _, _, rfl, rfl, rfl, fun _ => rfl⟩
def dx_BadNumber : DWX.XD := ⟨"BadNumber", "value", DWX.clsInit (top 6), "ValueError", "ValueError.__new__", "ValueError.__init__", DWX.veB⟩
theorem tx_BadNumber : DWX.TxtOk (DWX.clsInit (top 6)) "value" := ⟨_, _, _, _, _, _, _, _, _, _, _, _, _, _, rfl, rfl, rfl, fun _ => rfl⟩
def dx_BadPaper : DWX.XD := ⟨"BadPaper", "part", DWX.clsInit (top 7), "ValueError", "ValueError.__new__", "ValueError.__init__", DWX.veB⟩
theorem tx_BadPaper : DWX.TxtOk (DWX.clsInit (top 7)) "part" := ⟨_, _, _, _, _, _, _, _, _, _, _, _, _, _, rfl, rfl, rfl, fun _ => rfl⟩
def dx_BadText : DWX.XD := ⟨"BadText", "place", DWX.clsInit (top 8), "ValueError", "ValueError.__new__", "ValueError.__init__", DWX.veB⟩
theorem tx_BadText : DWX.TxtOk (DWX.clsInit (top 8)) "place" := ⟨_, _, _, _, _, _, _, _, _, _, _, _, _, _, rfl, rfl, rfl, fun _ => rfl⟩
def dx_BadSeen : DWX.XD := ⟨"BadSeen", "value", DWX.clsInit (top 9), "ValueError", "ValueError.__new__", "ValueError.__init__", DWX.veB⟩
theorem tx_BadSeen : DWX.TxtOk (DWX.clsInit (top 9)) "value" := ⟨_, _, _, _, _, _, _, _, _, _, _, _, _, _, rfl, rfl, rfl, fun _ => rfl⟩
def dx_BadFacts : DWX.XD := ⟨"BadFacts", "number", DWX.clsInit (top 10), "ValueError", "ValueError.__new__", "ValueError.__init__", DWX.veB⟩
theorem tx_BadFacts : DWX.TxtOk (DWX.clsInit (top 10)) "number" := ⟨_, _, _, _, _, _, _, _, _, _, _, _, _, _, rfl, rfl, rfl, fun _ => rfl⟩
def dx_TooGreat : DWX.XD := ⟨"TooGreat", "most", DWX.clsInit (top 11), "OverflowError", "OverflowError.__new__", "OverflowError.__init__", DWX.oeB⟩
theorem tx_TooGreat : DWX.TxtOk (DWX.clsInit (top 11)) "most" := ⟨_, _, _, _, _, _, _, _, _, _, _, _, _, _, rfl, rfl, rfl, fun _ => rfl⟩
def dx_Nothing : DWX.XD := ⟨"Nothing", "value", DWX.clsInit (top 12), "LookupError", "LookupError.__new__", "LookupError.__init__", DWX.leB⟩
theorem tx_Nothing : DWX.TxtOk (DWX.clsInit (top 12)) "value" := ⟨_, _, _, _, _, _, _, _, _, _, _, _, _, _, rfl, rfl, rfl, fun _ => rfl⟩
def xsL : List DWX.XD := [dx_BadBase, dx_BadDenominator, dx_BadFraction, dx_BadDigits, dx_BadNumber, dx_BadPaper, dx_BadText, dx_BadSeen, dx_BadFacts, dx_TooGreat, dx_Nothing]
def fileL : Str := PySem.Challenge.pw_wheelnines_k01_errors.main.file
def tfL : List He.Defn := []
theorem tf_mem {n : Str} (h : n ∈ DW.lamNames) : ((n, none) : He.Defn) ∈ tfL := by
  have e : tfL = DW.lamNames.map fun n => ((n, none) : He.Defn) := rfl
  rw [e]
  exact List.mem_map.mpr ⟨n, h, rfl⟩
def xcL : List Str := ["BadBase", "BadDenominator", "BadFraction", "BadDigits", "BadNumber", "BadPaper", "BadText", "BadSeen", "BadFacts", "TooGreat", "Nothing", "WheelError"]
def cnL : List Str := ["Nothing", "TooGreat", "BadFacts", "BadSeen", "BadText", "BadPaper", "BadNumber", "BadDigits", "BadFraction", "BadDenominator", "BadBase", "WheelError"]
def kitL : List (Str × Str × Bool) := [(("BadBase" : Str), ("Nothing" : Str), false), (("BadDenominator" : Str), ("Nothing" : Str), false), (("BadFraction" : Str), ("Nothing" : Str), false), (("BadDigits" : Str), ("Nothing" : Str), false), (("BadNumber" : Str), ("Nothing" : Str), false), (("BadPaper" : Str), ("Nothing" : Str), false), (("BadText" : Str), ("Nothing" : Str), false), (("BadSeen" : Str), ("Nothing" : Str), false), (("BadFacts" : Str), ("Nothing" : Str), false), (("TooGreat" : Str), ("Nothing" : Str), false), (("Nothing" : Str), ("Nothing" : Str), true), (("WheelError" : Str), ("Nothing" : Str), false), (("BadBase" : Str), ("TooGreat" : Str), false), (("BadDenominator" : Str), ("TooGreat" : Str), false), (("BadFraction" : Str), ("TooGreat" : Str), false), (("BadDigits" : Str), ("TooGreat" : Str), false), (("BadNumber" : Str), ("TooGreat" : Str), false), (("BadPaper" : Str), ("TooGreat" : Str), false), (("BadText" : Str), ("TooGreat" : Str), false), (("BadSeen" : Str), ("TooGreat" : Str), false), (("BadFacts" : Str), ("TooGreat" : Str), false), (("TooGreat" : Str), ("TooGreat" : Str), true), (("Nothing" : Str), ("TooGreat" : Str), false), (("WheelError" : Str), ("TooGreat" : Str), false), (("BadBase" : Str), ("BadFacts" : Str), false), (("BadDenominator" : Str), ("BadFacts" : Str), false), (("BadFraction" : Str), ("BadFacts" : Str), false), (("BadDigits" : Str), ("BadFacts" : Str), false), (("BadNumber" : Str), ("BadFacts" : Str), false), (("BadPaper" : Str), ("BadFacts" : Str), false), (("BadText" : Str), ("BadFacts" : Str), false), (("BadSeen" : Str), ("BadFacts" : Str), false), (("BadFacts" : Str), ("BadFacts" : Str), true), (("TooGreat" : Str), ("BadFacts" : Str), false), (("Nothing" : Str), ("BadFacts" : Str), false), (("WheelError" : Str), ("BadFacts" : Str), false), (("BadBase" : Str), ("BadSeen" : Str), false), (("BadDenominator" : Str), ("BadSeen" : Str), false), (("BadFraction" : Str), ("BadSeen" : Str), false), (("BadDigits" : Str), ("BadSeen" : Str), false), (("BadNumber" : Str), ("BadSeen" : Str), false), (("BadPaper" : Str), ("BadSeen" : Str), false), (("BadText" : Str), ("BadSeen" : Str), false), (("BadSeen" : Str), ("BadSeen" : Str), true), (("BadFacts" : Str), ("BadSeen" : Str), false), (("TooGreat" : Str), ("BadSeen" : Str), false), (("Nothing" : Str), ("BadSeen" : Str), false), (("WheelError" : Str), ("BadSeen" : Str), false), (("BadBase" : Str), ("BadText" : Str), false), (("BadDenominator" : Str), ("BadText" : Str), false), (("BadFraction" : Str), ("BadText" : Str), false), (("BadDigits" : Str), ("BadText" : Str), false), (("BadNumber" : Str), ("BadText" : Str), false), (("BadPaper" : Str), ("BadText" : Str), false), (("BadText" : Str), ("BadText" : Str), true), (("BadSeen" : Str), ("BadText" : Str), false), (("BadFacts" : Str), ("BadText" : Str), false), (("TooGreat" : Str), ("BadText" : Str), false), (("Nothing" : Str), ("BadText" : Str), false), (("WheelError" : Str), ("BadText" : Str), false), (("BadBase" : Str), ("BadPaper" : Str), false), (("BadDenominator" : Str), ("BadPaper" : Str), false), (("BadFraction" : Str), ("BadPaper" : Str), false), (("BadDigits" : Str), ("BadPaper" : Str), false), (("BadNumber" : Str), ("BadPaper" : Str), false), (("BadPaper" : Str), ("BadPaper" : Str), true), (("BadText" : Str), ("BadPaper" : Str), false), (("BadSeen" : Str), ("BadPaper" : Str), false), (("BadFacts" : Str), ("BadPaper" : Str), false), (("TooGreat" : Str), ("BadPaper" : Str), false), (("Nothing" : Str), ("BadPaper" : Str), false), (("WheelError" : Str), ("BadPaper" : Str), false), (("BadBase" : Str), ("BadNumber" : Str), false), (("BadDenominator" : Str), ("BadNumber" : Str), false), (("BadFraction" : Str), ("BadNumber" : Str), false), (("BadDigits" : Str), ("BadNumber" : Str), false), (("BadNumber" : Str), ("BadNumber" : Str), true), (("BadPaper" : Str), ("BadNumber" : Str), false), (("BadText" : Str), ("BadNumber" : Str), false), (("BadSeen" : Str), ("BadNumber" : Str), false), (("BadFacts" : Str), ("BadNumber" : Str), false), (("TooGreat" : Str), ("BadNumber" : Str), false), (("Nothing" : Str), ("BadNumber" : Str), false), (("WheelError" : Str), ("BadNumber" : Str), false), (("BadBase" : Str), ("BadDigits" : Str), false), (("BadDenominator" : Str), ("BadDigits" : Str), false), (("BadFraction" : Str), ("BadDigits" : Str), false), (("BadDigits" : Str), ("BadDigits" : Str), true), (("BadNumber" : Str), ("BadDigits" : Str), false), (("BadPaper" : Str), ("BadDigits" : Str), false), (("BadText" : Str), ("BadDigits" : Str), false), (("BadSeen" : Str), ("BadDigits" : Str), false), (("BadFacts" : Str), ("BadDigits" : Str), false), (("TooGreat" : Str), ("BadDigits" : Str), false), (("Nothing" : Str), ("BadDigits" : Str), false), (("WheelError" : Str), ("BadDigits" : Str), false), (("BadBase" : Str), ("BadFraction" : Str), false), (("BadDenominator" : Str), ("BadFraction" : Str), false), (("BadFraction" : Str), ("BadFraction" : Str), true), (("BadDigits" : Str), ("BadFraction" : Str), false), (("BadNumber" : Str), ("BadFraction" : Str), false), (("BadPaper" : Str), ("BadFraction" : Str), false), (("BadText" : Str), ("BadFraction" : Str), false), (("BadSeen" : Str), ("BadFraction" : Str), false), (("BadFacts" : Str), ("BadFraction" : Str), false), (("TooGreat" : Str), ("BadFraction" : Str), false), (("Nothing" : Str), ("BadFraction" : Str), false), (("WheelError" : Str), ("BadFraction" : Str), false), (("BadBase" : Str), ("BadDenominator" : Str), false), (("BadDenominator" : Str), ("BadDenominator" : Str), true), (("BadFraction" : Str), ("BadDenominator" : Str), false), (("BadDigits" : Str), ("BadDenominator" : Str), false), (("BadNumber" : Str), ("BadDenominator" : Str), false), (("BadPaper" : Str), ("BadDenominator" : Str), false), (("BadText" : Str), ("BadDenominator" : Str), false), (("BadSeen" : Str), ("BadDenominator" : Str), false), (("BadFacts" : Str), ("BadDenominator" : Str), false), (("TooGreat" : Str), ("BadDenominator" : Str), false), (("Nothing" : Str), ("BadDenominator" : Str), false), (("WheelError" : Str), ("BadDenominator" : Str), false), (("BadBase" : Str), ("BadBase" : Str), true), (("BadDenominator" : Str), ("BadBase" : Str), false), (("BadFraction" : Str), ("BadBase" : Str), false), (("BadDigits" : Str), ("BadBase" : Str), false), (("BadNumber" : Str), ("BadBase" : Str), false), (("BadPaper" : Str), ("BadBase" : Str), false), (("BadText" : Str), ("BadBase" : Str), false), (("BadSeen" : Str), ("BadBase" : Str), false), (("BadFacts" : Str), ("BadBase" : Str), false), (("TooGreat" : Str), ("BadBase" : Str), false), (("Nothing" : Str), ("BadBase" : Str), false), (("WheelError" : Str), ("BadBase" : Str), false), (("BadBase" : Str), ("WheelError" : Str), true), (("BadDenominator" : Str), ("WheelError" : Str), true), (("BadFraction" : Str), ("WheelError" : Str), true), (("BadDigits" : Str), ("WheelError" : Str), true), (("BadNumber" : Str), ("WheelError" : Str), true), (("BadPaper" : Str), ("WheelError" : Str), true), (("BadText" : Str), ("WheelError" : Str), true), (("BadSeen" : Str), ("WheelError" : Str), true), (("BadFacts" : Str), ("WheelError" : Str), true), (("TooGreat" : Str), ("WheelError" : Str), false), (("Nothing" : Str), ("WheelError" : Str), false), (("WheelError" : Str), ("WheelError" : Str), true)]
def kbL : List (Str × String × Bool) := [(("BadBase" : Str), "LookupError", false), (("BadDenominator" : Str), "LookupError", false), (("BadFraction" : Str), "LookupError", false), (("BadDigits" : Str), "LookupError", false), (("BadNumber" : Str), "LookupError", false), (("BadPaper" : Str), "LookupError", false), (("BadText" : Str), "LookupError", false), (("BadSeen" : Str), "LookupError", false), (("BadFacts" : Str), "LookupError", false), (("TooGreat" : Str), "LookupError", false), (("Nothing" : Str), "LookupError", true), (("WheelError" : Str), "LookupError", false), (("BadBase" : Str), "OverflowError", false), (("BadDenominator" : Str), "OverflowError", false), (("BadFraction" : Str), "OverflowError", false), (("BadDigits" : Str), "OverflowError", false), (("BadNumber" : Str), "OverflowError", false), (("BadPaper" : Str), "OverflowError", false), (("BadText" : Str), "OverflowError", false), (("BadSeen" : Str), "OverflowError", false), (("BadFacts" : Str), "OverflowError", false), (("TooGreat" : Str), "OverflowError", true), (("Nothing" : Str), "OverflowError", false), (("WheelError" : Str), "OverflowError", false), (("BadBase" : Str), "ValueError", true), (("BadDenominator" : Str), "ValueError", true), (("BadFraction" : Str), "ValueError", true), (("BadDigits" : Str), "ValueError", true), (("BadNumber" : Str), "ValueError", true), (("BadPaper" : Str), "ValueError", true), (("BadText" : Str), "ValueError", true), (("BadSeen" : Str), "ValueError", true), (("BadFacts" : Str), "ValueError", true), (("TooGreat" : Str), "ValueError", false), (("Nothing" : Str), "ValueError", false), (("WheelError" : Str), "ValueError", true)]
def ktL : List (Str × List String × Bool) := [(("BadBase" : Str), ["KeyError", "IndexError", "TypeError", "RuntimeError"], false), (("BadDenominator" : Str), ["KeyError", "IndexError", "TypeError", "RuntimeError"], false), (("BadFraction" : Str), ["KeyError", "IndexError", "TypeError", "RuntimeError"], false), (("BadDigits" : Str), ["KeyError", "IndexError", "TypeError", "RuntimeError"], false), (("BadNumber" : Str), ["KeyError", "IndexError", "TypeError", "RuntimeError"], false), (("BadPaper" : Str), ["KeyError", "IndexError", "TypeError", "RuntimeError"], false), (("BadText" : Str), ["KeyError", "IndexError", "TypeError", "RuntimeError"], false), (("BadSeen" : Str), ["KeyError", "IndexError", "TypeError", "RuntimeError"], false), (("BadFacts" : Str), ["KeyError", "IndexError", "TypeError", "RuntimeError"], false), (("TooGreat" : Str), ["KeyError", "IndexError", "TypeError", "RuntimeError"], false), (("Nothing" : Str), ["KeyError", "IndexError", "TypeError", "RuntimeError"], false), (("WheelError" : Str), ["KeyError", "IndexError", "TypeError", "RuntimeError"], false)]
def exL : PySem.W.Frag → Bool := fun K => exC xcL cnL kitL kbL ktL K && ((ownBB K "WheelError" "ValueError.__new__" "ValueError.__init__" DWX.veB))
def tsL : List He.Tab := []
abbrev hk : PySem.W.Hook := DWX.hookE 5 faL fnL tsL tfL fileL xsL exL
def ob (s : PySem.W.SharedT) : DWX.AlE := DWX.obsE 5 faL fnL tsL tfL fileL xsL exL (HandSHeadRun.getT s)
theorem ob_eq (s : PySem.W.SharedT) : ob s = hk.obs s.abs := DWX.obsE_eq (HandSHeadRun.getT_eq s)
theorem run (w : World) : HandSHeadRun.RunEq RR (PySem.W.view RR.prog [24]) hk ob 20000 names w := by
  intro os
  kernel_rfl
theorem facts {P : Program} {w : World} {K : PySem.W.Frag} {h : Heap} {mg : Str → Option Value} (X : K.In h) (G : h.Ns mainGlobals mg) (ce : DWX.SaysE faL fnL tsL tfL fileL xsL exL w h K) (hfile : (P.main.file : Str) = fileL) (htop : (P.main.scope.names.lookup ("super" : Str)).isSome = false) (base : Heap) {f : Addr} {fd : FuncData} (F : FunD K "law" "law" (defArgs st_law) (defBody st_law) (defScope st_law) [] [] f fd) : FnG P w K mg base CX0 4 f fd ["script"] (spF ⟨K, mg⟩ m_law) := by
  have c : He.SaysD faL fnL K := ce.t.d
  have i_BadBase : dx_BadBase ∈ xsL := List.mem_of_getElem? (i := 0) rfl
  have x_BadBase : DWX.OwnX P K mg "BadBase" "value" "ValueError" "ValueError.__new__" "ValueError.__init__" DWX.veB (He.ga K "BadBase") (DWX.initAt K "BadBase") := DWX.XD.own (d := dx_BadBase) X G (ce.ok _ i_BadBase) (ce.txt _ i_BadBase) tx_BadBase PySem.F.excBase_ValueError PySem.W.kxs_ValueError PySem.F.store_ValueError DWX.fld_value hfile htop
  have i_BadDenominator : dx_BadDenominator ∈ xsL := List.mem_of_getElem? (i := 1) rfl
  have x_BadDenominator : DWX.OwnX P K mg "BadDenominator" "value" "ValueError" "ValueError.__new__" "ValueError.__init__" DWX.veB (He.ga K "BadDenominator") (DWX.initAt K "BadDenominator") := DWX.XD.own (d := dx_BadDenominator) X G (ce.ok _ i_BadDenominator) (ce.txt _ i_BadDenominator) tx_BadDenominator PySem.F.excBase_ValueError PySem.W.kxs_ValueError PySem.F.store_ValueError DWX.fld_value hfile htop
  have i_BadFraction : dx_BadFraction ∈ xsL := List.mem_of_getElem? (i := 2) rfl
  have x_BadFraction : DWX.OwnX P K mg "BadFraction" "value" "ValueError" "ValueError.__new__" "ValueError.__init__" DWX.veB (He.ga K "BadFraction") (DWX.initAt K "BadFraction") := DWX.XD.own (d := dx_BadFraction) X G (ce.ok _ i_BadFraction) (ce.txt _ i_BadFraction) tx_BadFraction PySem.F.excBase_ValueError PySem.W.kxs_ValueError PySem.F.store_ValueError DWX.fld_value hfile htop
  have i_BadDigits : dx_BadDigits ∈ xsL := List.mem_of_getElem? (i := 3) rfl
  have x_BadDigits : DWX.OwnX P K mg "BadDigits" "value" "ValueError" "ValueError.__new__" "ValueError.__init__" DWX.veB (He.ga K "BadDigits") (DWX.initAt K "BadDigits") := DWX.XD.own (d := dx_BadDigits) X G (ce.ok _ i_BadDigits) (ce.txt _ i_BadDigits) tx_BadDigits PySem.F.excBase_ValueError PySem.W.kxs_ValueError PySem.F.store_ValueError DWX.fld_value hfile htop
  have i_BadNumber : dx_BadNumber ∈ xsL := List.mem_of_getElem? (i := 4) rfl
  have x_BadNumber : DWX.OwnX P K mg "BadNumber" "value" "ValueError" "ValueError.__new__" "ValueError.__init__" DWX.veB (He.ga K "BadNumber") (DWX.initAt K "BadNumber") := DWX.XD.own (d := dx_BadNumber) X G (ce.ok _ i_BadNumber) (ce.txt _ i_BadNumber) tx_BadNumber PySem.F.excBase_ValueError PySem.W.kxs_ValueError PySem.F.store_ValueError DWX.fld_value hfile htop
  have i_BadPaper : dx_BadPaper ∈ xsL := List.mem_of_getElem? (i := 5) rfl
  have x_BadPaper : DWX.OwnX P K mg "BadPaper" "part" "ValueError" "ValueError.__new__" "ValueError.__init__" DWX.veB (He.ga K "BadPaper") (DWX.initAt K "BadPaper") := DWX.XD.own (d := dx_BadPaper) X G (ce.ok _ i_BadPaper) (ce.txt _ i_BadPaper) tx_BadPaper PySem.F.excBase_ValueError PySem.W.kxs_ValueError PySem.F.store_ValueError DWX.fld_part hfile htop
  have i_BadText : dx_BadText ∈ xsL := List.mem_of_getElem? (i := 6) rfl
  have x_BadText : DWX.OwnX P K mg "BadText" "place" "ValueError" "ValueError.__new__" "ValueError.__init__" DWX.veB (He.ga K "BadText") (DWX.initAt K "BadText") := DWX.XD.own (d := dx_BadText) X G (ce.ok _ i_BadText) (ce.txt _ i_BadText) tx_BadText PySem.F.excBase_ValueError PySem.W.kxs_ValueError PySem.F.store_ValueError DWX.fld_place hfile htop
  have i_BadSeen : dx_BadSeen ∈ xsL := List.mem_of_getElem? (i := 7) rfl
  have x_BadSeen : DWX.OwnX P K mg "BadSeen" "value" "ValueError" "ValueError.__new__" "ValueError.__init__" DWX.veB (He.ga K "BadSeen") (DWX.initAt K "BadSeen") := DWX.XD.own (d := dx_BadSeen) X G (ce.ok _ i_BadSeen) (ce.txt _ i_BadSeen) tx_BadSeen PySem.F.excBase_ValueError PySem.W.kxs_ValueError PySem.F.store_ValueError DWX.fld_value hfile htop
  have i_BadFacts : dx_BadFacts ∈ xsL := List.mem_of_getElem? (i := 8) rfl
  have x_BadFacts : DWX.OwnX P K mg "BadFacts" "number" "ValueError" "ValueError.__new__" "ValueError.__init__" DWX.veB (He.ga K "BadFacts") (DWX.initAt K "BadFacts") := DWX.XD.own (d := dx_BadFacts) X G (ce.ok _ i_BadFacts) (ce.txt _ i_BadFacts) tx_BadFacts PySem.F.excBase_ValueError PySem.W.kxs_ValueError PySem.F.store_ValueError DWX.fld_number hfile htop
  have i_TooGreat : dx_TooGreat ∈ xsL := List.mem_of_getElem? (i := 9) rfl
  have x_TooGreat : DWX.OwnX P K mg "TooGreat" "most" "OverflowError" "OverflowError.__new__" "OverflowError.__init__" DWX.oeB (He.ga K "TooGreat") (DWX.initAt K "TooGreat") := DWX.XD.own (d := dx_TooGreat) X G (ce.ok _ i_TooGreat) (ce.txt _ i_TooGreat) tx_TooGreat PySem.F.excBase_OverflowError PySem.W.kxs_OverflowError PySem.F.store_OverflowError DWX.fld_most hfile htop
  have i_Nothing : dx_Nothing ∈ xsL := List.mem_of_getElem? (i := 10) rfl
  have x_Nothing : DWX.OwnX P K mg "Nothing" "value" "LookupError" "LookupError.__new__" "LookupError.__init__" DWX.leB (He.ga K "Nothing") (DWX.initAt K "Nothing") := DWX.XD.own (d := dx_Nothing) X G (ce.ok _ i_Nothing) (ce.txt _ i_Nothing) tx_Nothing PySem.F.excBase_LookupError PySem.W.kxs_LookupError PySem.F.store_LookupError DWX.fld_value hfile htop
  obtain ⟨eb0, ebb⟩ := Bool.and_eq_true_iff.mp (show (exC xcL cnL kitL kbL ktL K && _) = true from ce.ex)
  have eb := exC_ok eb0
  have sysk : SysK K := Option.isSome_iff_exists.mp eb.sys
  have c_Nothing : mg "Nothing" = some (.ref (He.ga K "Nothing")) := PySem.W.mg_of X G (eb.cn _ (List.mem_of_getElem? (i := 0) rfl))
  have c_TooGreat : mg "TooGreat" = some (.ref (He.ga K "TooGreat")) := PySem.W.mg_of X G (eb.cn _ (List.mem_of_getElem? (i := 1) rfl))
  have c_BadFacts : mg "BadFacts" = some (.ref (He.ga K "BadFacts")) := PySem.W.mg_of X G (eb.cn _ (List.mem_of_getElem? (i := 2) rfl))
  have c_BadSeen : mg "BadSeen" = some (.ref (He.ga K "BadSeen")) := PySem.W.mg_of X G (eb.cn _ (List.mem_of_getElem? (i := 3) rfl))
  have c_BadText : mg "BadText" = some (.ref (He.ga K "BadText")) := PySem.W.mg_of X G (eb.cn _ (List.mem_of_getElem? (i := 4) rfl))
  have c_BadPaper : mg "BadPaper" = some (.ref (He.ga K "BadPaper")) := PySem.W.mg_of X G (eb.cn _ (List.mem_of_getElem? (i := 5) rfl))
  have c_BadNumber : mg "BadNumber" = some (.ref (He.ga K "BadNumber")) := PySem.W.mg_of X G (eb.cn _ (List.mem_of_getElem? (i := 6) rfl))
  have c_BadDigits : mg "BadDigits" = some (.ref (He.ga K "BadDigits")) := PySem.W.mg_of X G (eb.cn _ (List.mem_of_getElem? (i := 7) rfl))
  have c_BadFraction : mg "BadFraction" = some (.ref (He.ga K "BadFraction")) := PySem.W.mg_of X G (eb.cn _ (List.mem_of_getElem? (i := 8) rfl))
  have c_BadDenominator : mg "BadDenominator" = some (.ref (He.ga K "BadDenominator")) := PySem.W.mg_of X G (eb.cn _ (List.mem_of_getElem? (i := 9) rfl))
  have c_BadBase : mg "BadBase" = some (.ref (He.ga K "BadBase")) := PySem.W.mg_of X G (eb.cn _ (List.mem_of_getElem? (i := 10) rfl))
  have c_WheelError : mg "WheelError" = some (.ref (He.ga K "WheelError")) := PySem.W.mg_of X G (eb.cn _ (List.mem_of_getElem? (i := 11) rfl))
  have k_Nothing : KtOk K (mtL [("BadBase", false), ("BadDenominator", false), ("BadFraction", false), ("BadDigits", false), ("BadNumber", false), ("BadPaper", false), ("BadText", false), ("BadSeen", false), ("BadFacts", false), ("TooGreat", false), ("Nothing", true), ("WheelError", false)]) (He.ga K "Nothing") := kt_cons (eb.xc _ (List.mem_of_getElem? (i := 0) rfl)) (eb.kit ("BadBase", "Nothing", false) (List.mem_of_getElem? (i := 0) rfl)) (kt_cons (eb.xc _ (List.mem_of_getElem? (i := 1) rfl)) (eb.kit ("BadDenominator", "Nothing", false) (List.mem_of_getElem? (i := 1) rfl)) (kt_cons (eb.xc _ (List.mem_of_getElem? (i := 2) rfl)) (eb.kit ("BadFraction", "Nothing", false) (List.mem_of_getElem? (i := 2) rfl)) (kt_cons (eb.xc _ (List.mem_of_getElem? (i := 3) rfl)) (eb.kit ("BadDigits", "Nothing", false) (List.mem_of_getElem? (i := 3) rfl)) (kt_cons (eb.xc _ (List.mem_of_getElem? (i := 4) rfl)) (eb.kit ("BadNumber", "Nothing", false) (List.mem_of_getElem? (i := 4) rfl)) (kt_cons (eb.xc _ (List.mem_of_getElem? (i := 5) rfl)) (eb.kit ("BadPaper", "Nothing", false) (List.mem_of_getElem? (i := 5) rfl)) (kt_cons (eb.xc _ (List.mem_of_getElem? (i := 6) rfl)) (eb.kit ("BadText", "Nothing", false) (List.mem_of_getElem? (i := 6) rfl)) (kt_cons (eb.xc _ (List.mem_of_getElem? (i := 7) rfl)) (eb.kit ("BadSeen", "Nothing", false) (List.mem_of_getElem? (i := 7) rfl)) (kt_cons (eb.xc _ (List.mem_of_getElem? (i := 8) rfl)) (eb.kit ("BadFacts", "Nothing", false) (List.mem_of_getElem? (i := 8) rfl)) (kt_cons (eb.xc _ (List.mem_of_getElem? (i := 9) rfl)) (eb.kit ("TooGreat", "Nothing", false) (List.mem_of_getElem? (i := 9) rfl)) (kt_cons (eb.xc _ (List.mem_of_getElem? (i := 10) rfl)) (eb.kit ("Nothing", "Nothing", true) (List.mem_of_getElem? (i := 10) rfl)) (kt_cons (eb.xc _ (List.mem_of_getElem? (i := 11) rfl)) (eb.kit ("WheelError", "Nothing", false) (List.mem_of_getElem? (i := 11) rfl)) (kt_nil))))))))))))
  have k_TooGreat : KtOk K (mtL [("BadBase", false), ("BadDenominator", false), ("BadFraction", false), ("BadDigits", false), ("BadNumber", false), ("BadPaper", false), ("BadText", false), ("BadSeen", false), ("BadFacts", false), ("TooGreat", true), ("Nothing", false), ("WheelError", false)]) (He.ga K "TooGreat") := kt_cons (eb.xc _ (List.mem_of_getElem? (i := 0) rfl)) (eb.kit ("BadBase", "TooGreat", false) (List.mem_of_getElem? (i := 12) rfl)) (kt_cons (eb.xc _ (List.mem_of_getElem? (i := 1) rfl)) (eb.kit ("BadDenominator", "TooGreat", false) (List.mem_of_getElem? (i := 13) rfl)) (kt_cons (eb.xc _ (List.mem_of_getElem? (i := 2) rfl)) (eb.kit ("BadFraction", "TooGreat", false) (List.mem_of_getElem? (i := 14) rfl)) (kt_cons (eb.xc _ (List.mem_of_getElem? (i := 3) rfl)) (eb.kit ("BadDigits", "TooGreat", false) (List.mem_of_getElem? (i := 15) rfl)) (kt_cons (eb.xc _ (List.mem_of_getElem? (i := 4) rfl)) (eb.kit ("BadNumber", "TooGreat", false) (List.mem_of_getElem? (i := 16) rfl)) (kt_cons (eb.xc _ (List.mem_of_getElem? (i := 5) rfl)) (eb.kit ("BadPaper", "TooGreat", false) (List.mem_of_getElem? (i := 17) rfl)) (kt_cons (eb.xc _ (List.mem_of_getElem? (i := 6) rfl)) (eb.kit ("BadText", "TooGreat", false) (List.mem_of_getElem? (i := 18) rfl)) (kt_cons (eb.xc _ (List.mem_of_getElem? (i := 7) rfl)) (eb.kit ("BadSeen", "TooGreat", false) (List.mem_of_getElem? (i := 19) rfl)) (kt_cons (eb.xc _ (List.mem_of_getElem? (i := 8) rfl)) (eb.kit ("BadFacts", "TooGreat", false) (List.mem_of_getElem? (i := 20) rfl)) (kt_cons (eb.xc _ (List.mem_of_getElem? (i := 9) rfl)) (eb.kit ("TooGreat", "TooGreat", true) (List.mem_of_getElem? (i := 21) rfl)) (kt_cons (eb.xc _ (List.mem_of_getElem? (i := 10) rfl)) (eb.kit ("Nothing", "TooGreat", false) (List.mem_of_getElem? (i := 22) rfl)) (kt_cons (eb.xc _ (List.mem_of_getElem? (i := 11) rfl)) (eb.kit ("WheelError", "TooGreat", false) (List.mem_of_getElem? (i := 23) rfl)) (kt_nil))))))))))))
  have k_BadFacts : KtOk K (mtL [("BadBase", false), ("BadDenominator", false), ("BadFraction", false), ("BadDigits", false), ("BadNumber", false), ("BadPaper", false), ("BadText", false), ("BadSeen", false), ("BadFacts", true), ("TooGreat", false), ("Nothing", false), ("WheelError", false)]) (He.ga K "BadFacts") := kt_cons (eb.xc _ (List.mem_of_getElem? (i := 0) rfl)) (eb.kit ("BadBase", "BadFacts", false) (List.mem_of_getElem? (i := 24) rfl)) (kt_cons (eb.xc _ (List.mem_of_getElem? (i := 1) rfl)) (eb.kit ("BadDenominator", "BadFacts", false) (List.mem_of_getElem? (i := 25) rfl)) (kt_cons (eb.xc _ (List.mem_of_getElem? (i := 2) rfl)) (eb.kit ("BadFraction", "BadFacts", false) (List.mem_of_getElem? (i := 26) rfl)) (kt_cons (eb.xc _ (List.mem_of_getElem? (i := 3) rfl)) (eb.kit ("BadDigits", "BadFacts", false) (List.mem_of_getElem? (i := 27) rfl)) (kt_cons (eb.xc _ (List.mem_of_getElem? (i := 4) rfl)) (eb.kit ("BadNumber", "BadFacts", false) (List.mem_of_getElem? (i := 28) rfl)) (kt_cons (eb.xc _ (List.mem_of_getElem? (i := 5) rfl)) (eb.kit ("BadPaper", "BadFacts", false) (List.mem_of_getElem? (i := 29) rfl)) (kt_cons (eb.xc _ (List.mem_of_getElem? (i := 6) rfl)) (eb.kit ("BadText", "BadFacts", false) (List.mem_of_getElem? (i := 30) rfl)) (kt_cons (eb.xc _ (List.mem_of_getElem? (i := 7) rfl)) (eb.kit ("BadSeen", "BadFacts", false) (List.mem_of_getElem? (i := 31) rfl)) (kt_cons (eb.xc _ (List.mem_of_getElem? (i := 8) rfl)) (eb.kit ("BadFacts", "BadFacts", true) (List.mem_of_getElem? (i := 32) rfl)) (kt_cons (eb.xc _ (List.mem_of_getElem? (i := 9) rfl)) (eb.kit ("TooGreat", "BadFacts", false) (List.mem_of_getElem? (i := 33) rfl)) (kt_cons (eb.xc _ (List.mem_of_getElem? (i := 10) rfl)) (eb.kit ("Nothing", "BadFacts", false) (List.mem_of_getElem? (i := 34) rfl)) (kt_cons (eb.xc _ (List.mem_of_getElem? (i := 11) rfl)) (eb.kit ("WheelError", "BadFacts", false) (List.mem_of_getElem? (i := 35) rfl)) (kt_nil))))))))))))
  have k_BadSeen : KtOk K (mtL [("BadBase", false), ("BadDenominator", false), ("BadFraction", false), ("BadDigits", false), ("BadNumber", false), ("BadPaper", false), ("BadText", false), ("BadSeen", true), ("BadFacts", false), ("TooGreat", false), ("Nothing", false), ("WheelError", false)]) (He.ga K "BadSeen") := kt_cons (eb.xc _ (List.mem_of_getElem? (i := 0) rfl)) (eb.kit ("BadBase", "BadSeen", false) (List.mem_of_getElem? (i := 36) rfl)) (kt_cons (eb.xc _ (List.mem_of_getElem? (i := 1) rfl)) (eb.kit ("BadDenominator", "BadSeen", false) (List.mem_of_getElem? (i := 37) rfl)) (kt_cons (eb.xc _ (List.mem_of_getElem? (i := 2) rfl)) (eb.kit ("BadFraction", "BadSeen", false) (List.mem_of_getElem? (i := 38) rfl)) (kt_cons (eb.xc _ (List.mem_of_getElem? (i := 3) rfl)) (eb.kit ("BadDigits", "BadSeen", false) (List.mem_of_getElem? (i := 39) rfl)) (kt_cons (eb.xc _ (List.mem_of_getElem? (i := 4) rfl)) (eb.kit ("BadNumber", "BadSeen", false) (List.mem_of_getElem? (i := 40) rfl)) (kt_cons (eb.xc _ (List.mem_of_getElem? (i := 5) rfl)) (eb.kit ("BadPaper", "BadSeen", false) (List.mem_of_getElem? (i := 41) rfl)) (kt_cons (eb.xc _ (List.mem_of_getElem? (i := 6) rfl)) (eb.kit ("BadText", "BadSeen", false) (List.mem_of_getElem? (i := 42) rfl)) (kt_cons (eb.xc _ (List.mem_of_getElem? (i := 7) rfl)) (eb.kit ("BadSeen", "BadSeen", true) (List.mem_of_getElem? (i := 43) rfl)) (kt_cons (eb.xc _ (List.mem_of_getElem? (i := 8) rfl)) (eb.kit ("BadFacts", "BadSeen", false) (List.mem_of_getElem? (i := 44) rfl)) (kt_cons (eb.xc _ (List.mem_of_getElem? (i := 9) rfl)) (eb.kit ("TooGreat", "BadSeen", false) (List.mem_of_getElem? (i := 45) rfl)) (kt_cons (eb.xc _ (List.mem_of_getElem? (i := 10) rfl)) (eb.kit ("Nothing", "BadSeen", false) (List.mem_of_getElem? (i := 46) rfl)) (kt_cons (eb.xc _ (List.mem_of_getElem? (i := 11) rfl)) (eb.kit ("WheelError", "BadSeen", false) (List.mem_of_getElem? (i := 47) rfl)) (kt_nil))))))))))))
  have k_BadText : KtOk K (mtL [("BadBase", false), ("BadDenominator", false), ("BadFraction", false), ("BadDigits", false), ("BadNumber", false), ("BadPaper", false), ("BadText", true), ("BadSeen", false), ("BadFacts", false), ("TooGreat", false), ("Nothing", false), ("WheelError", false)]) (He.ga K "BadText") := kt_cons (eb.xc _ (List.mem_of_getElem? (i := 0) rfl)) (eb.kit ("BadBase", "BadText", false) (List.mem_of_getElem? (i := 48) rfl)) (kt_cons (eb.xc _ (List.mem_of_getElem? (i := 1) rfl)) (eb.kit ("BadDenominator", "BadText", false) (List.mem_of_getElem? (i := 49) rfl)) (kt_cons (eb.xc _ (List.mem_of_getElem? (i := 2) rfl)) (eb.kit ("BadFraction", "BadText", false) (List.mem_of_getElem? (i := 50) rfl)) (kt_cons (eb.xc _ (List.mem_of_getElem? (i := 3) rfl)) (eb.kit ("BadDigits", "BadText", false) (List.mem_of_getElem? (i := 51) rfl)) (kt_cons (eb.xc _ (List.mem_of_getElem? (i := 4) rfl)) (eb.kit ("BadNumber", "BadText", false) (List.mem_of_getElem? (i := 52) rfl)) (kt_cons (eb.xc _ (List.mem_of_getElem? (i := 5) rfl)) (eb.kit ("BadPaper", "BadText", false) (List.mem_of_getElem? (i := 53) rfl)) (kt_cons (eb.xc _ (List.mem_of_getElem? (i := 6) rfl)) (eb.kit ("BadText", "BadText", true) (List.mem_of_getElem? (i := 54) rfl)) (kt_cons (eb.xc _ (List.mem_of_getElem? (i := 7) rfl)) (eb.kit ("BadSeen", "BadText", false) (List.mem_of_getElem? (i := 55) rfl)) (kt_cons (eb.xc _ (List.mem_of_getElem? (i := 8) rfl)) (eb.kit ("BadFacts", "BadText", false) (List.mem_of_getElem? (i := 56) rfl)) (kt_cons (eb.xc _ (List.mem_of_getElem? (i := 9) rfl)) (eb.kit ("TooGreat", "BadText", false) (List.mem_of_getElem? (i := 57) rfl)) (kt_cons (eb.xc _ (List.mem_of_getElem? (i := 10) rfl)) (eb.kit ("Nothing", "BadText", false) (List.mem_of_getElem? (i := 58) rfl)) (kt_cons (eb.xc _ (List.mem_of_getElem? (i := 11) rfl)) (eb.kit ("WheelError", "BadText", false) (List.mem_of_getElem? (i := 59) rfl)) (kt_nil))))))))))))
  have k_BadPaper : KtOk K (mtL [("BadBase", false), ("BadDenominator", false), ("BadFraction", false), ("BadDigits", false), ("BadNumber", false), ("BadPaper", true), ("BadText", false), ("BadSeen", false), ("BadFacts", false), ("TooGreat", false), ("Nothing", false), ("WheelError", false)]) (He.ga K "BadPaper") := kt_cons (eb.xc _ (List.mem_of_getElem? (i := 0) rfl)) (eb.kit ("BadBase", "BadPaper", false) (List.mem_of_getElem? (i := 60) rfl)) (kt_cons (eb.xc _ (List.mem_of_getElem? (i := 1) rfl)) (eb.kit ("BadDenominator", "BadPaper", false) (List.mem_of_getElem? (i := 61) rfl)) (kt_cons (eb.xc _ (List.mem_of_getElem? (i := 2) rfl)) (eb.kit ("BadFraction", "BadPaper", false) (List.mem_of_getElem? (i := 62) rfl)) (kt_cons (eb.xc _ (List.mem_of_getElem? (i := 3) rfl)) (eb.kit ("BadDigits", "BadPaper", false) (List.mem_of_getElem? (i := 63) rfl)) (kt_cons (eb.xc _ (List.mem_of_getElem? (i := 4) rfl)) (eb.kit ("BadNumber", "BadPaper", false) (List.mem_of_getElem? (i := 64) rfl)) (kt_cons (eb.xc _ (List.mem_of_getElem? (i := 5) rfl)) (eb.kit ("BadPaper", "BadPaper", true) (List.mem_of_getElem? (i := 65) rfl)) (kt_cons (eb.xc _ (List.mem_of_getElem? (i := 6) rfl)) (eb.kit ("BadText", "BadPaper", false) (List.mem_of_getElem? (i := 66) rfl)) (kt_cons (eb.xc _ (List.mem_of_getElem? (i := 7) rfl)) (eb.kit ("BadSeen", "BadPaper", false) (List.mem_of_getElem? (i := 67) rfl)) (kt_cons (eb.xc _ (List.mem_of_getElem? (i := 8) rfl)) (eb.kit ("BadFacts", "BadPaper", false) (List.mem_of_getElem? (i := 68) rfl)) (kt_cons (eb.xc _ (List.mem_of_getElem? (i := 9) rfl)) (eb.kit ("TooGreat", "BadPaper", false) (List.mem_of_getElem? (i := 69) rfl)) (kt_cons (eb.xc _ (List.mem_of_getElem? (i := 10) rfl)) (eb.kit ("Nothing", "BadPaper", false) (List.mem_of_getElem? (i := 70) rfl)) (kt_cons (eb.xc _ (List.mem_of_getElem? (i := 11) rfl)) (eb.kit ("WheelError", "BadPaper", false) (List.mem_of_getElem? (i := 71) rfl)) (kt_nil))))))))))))
  have k_BadNumber : KtOk K (mtL [("BadBase", false), ("BadDenominator", false), ("BadFraction", false), ("BadDigits", false), ("BadNumber", true), ("BadPaper", false), ("BadText", false), ("BadSeen", false), ("BadFacts", false), ("TooGreat", false), ("Nothing", false), ("WheelError", false)]) (He.ga K "BadNumber") := kt_cons (eb.xc _ (List.mem_of_getElem? (i := 0) rfl)) (eb.kit ("BadBase", "BadNumber", false) (List.mem_of_getElem? (i := 72) rfl)) (kt_cons (eb.xc _ (List.mem_of_getElem? (i := 1) rfl)) (eb.kit ("BadDenominator", "BadNumber", false) (List.mem_of_getElem? (i := 73) rfl)) (kt_cons (eb.xc _ (List.mem_of_getElem? (i := 2) rfl)) (eb.kit ("BadFraction", "BadNumber", false) (List.mem_of_getElem? (i := 74) rfl)) (kt_cons (eb.xc _ (List.mem_of_getElem? (i := 3) rfl)) (eb.kit ("BadDigits", "BadNumber", false) (List.mem_of_getElem? (i := 75) rfl)) (kt_cons (eb.xc _ (List.mem_of_getElem? (i := 4) rfl)) (eb.kit ("BadNumber", "BadNumber", true) (List.mem_of_getElem? (i := 76) rfl)) (kt_cons (eb.xc _ (List.mem_of_getElem? (i := 5) rfl)) (eb.kit ("BadPaper", "BadNumber", false) (List.mem_of_getElem? (i := 77) rfl)) (kt_cons (eb.xc _ (List.mem_of_getElem? (i := 6) rfl)) (eb.kit ("BadText", "BadNumber", false) (List.mem_of_getElem? (i := 78) rfl)) (kt_cons (eb.xc _ (List.mem_of_getElem? (i := 7) rfl)) (eb.kit ("BadSeen", "BadNumber", false) (List.mem_of_getElem? (i := 79) rfl)) (kt_cons (eb.xc _ (List.mem_of_getElem? (i := 8) rfl)) (eb.kit ("BadFacts", "BadNumber", false) (List.mem_of_getElem? (i := 80) rfl)) (kt_cons (eb.xc _ (List.mem_of_getElem? (i := 9) rfl)) (eb.kit ("TooGreat", "BadNumber", false) (List.mem_of_getElem? (i := 81) rfl)) (kt_cons (eb.xc _ (List.mem_of_getElem? (i := 10) rfl)) (eb.kit ("Nothing", "BadNumber", false) (List.mem_of_getElem? (i := 82) rfl)) (kt_cons (eb.xc _ (List.mem_of_getElem? (i := 11) rfl)) (eb.kit ("WheelError", "BadNumber", false) (List.mem_of_getElem? (i := 83) rfl)) (kt_nil))))))))))))
  have k_BadDigits : KtOk K (mtL [("BadBase", false), ("BadDenominator", false), ("BadFraction", false), ("BadDigits", true), ("BadNumber", false), ("BadPaper", false), ("BadText", false), ("BadSeen", false), ("BadFacts", false), ("TooGreat", false), ("Nothing", false), ("WheelError", false)]) (He.ga K "BadDigits") := kt_cons (eb.xc _ (List.mem_of_getElem? (i := 0) rfl)) (eb.kit ("BadBase", "BadDigits", false) (List.mem_of_getElem? (i := 84) rfl)) (kt_cons (eb.xc _ (List.mem_of_getElem? (i := 1) rfl)) (eb.kit ("BadDenominator", "BadDigits", false) (List.mem_of_getElem? (i := 85) rfl)) (kt_cons (eb.xc _ (List.mem_of_getElem? (i := 2) rfl)) (eb.kit ("BadFraction", "BadDigits", false) (List.mem_of_getElem? (i := 86) rfl)) (kt_cons (eb.xc _ (List.mem_of_getElem? (i := 3) rfl)) (eb.kit ("BadDigits", "BadDigits", true) (List.mem_of_getElem? (i := 87) rfl)) (kt_cons (eb.xc _ (List.mem_of_getElem? (i := 4) rfl)) (eb.kit ("BadNumber", "BadDigits", false) (List.mem_of_getElem? (i := 88) rfl)) (kt_cons (eb.xc _ (List.mem_of_getElem? (i := 5) rfl)) (eb.kit ("BadPaper", "BadDigits", false) (List.mem_of_getElem? (i := 89) rfl)) (kt_cons (eb.xc _ (List.mem_of_getElem? (i := 6) rfl)) (eb.kit ("BadText", "BadDigits", false) (List.mem_of_getElem? (i := 90) rfl)) (kt_cons (eb.xc _ (List.mem_of_getElem? (i := 7) rfl)) (eb.kit ("BadSeen", "BadDigits", false) (List.mem_of_getElem? (i := 91) rfl)) (kt_cons (eb.xc _ (List.mem_of_getElem? (i := 8) rfl)) (eb.kit ("BadFacts", "BadDigits", false) (List.mem_of_getElem? (i := 92) rfl)) (kt_cons (eb.xc _ (List.mem_of_getElem? (i := 9) rfl)) (eb.kit ("TooGreat", "BadDigits", false) (List.mem_of_getElem? (i := 93) rfl)) (kt_cons (eb.xc _ (List.mem_of_getElem? (i := 10) rfl)) (eb.kit ("Nothing", "BadDigits", false) (List.mem_of_getElem? (i := 94) rfl)) (kt_cons (eb.xc _ (List.mem_of_getElem? (i := 11) rfl)) (eb.kit ("WheelError", "BadDigits", false) (List.mem_of_getElem? (i := 95) rfl)) (kt_nil))))))))))))
  have k_BadFraction : KtOk K (mtL [("BadBase", false), ("BadDenominator", false), ("BadFraction", true), ("BadDigits", false), ("BadNumber", false), ("BadPaper", false), ("BadText", false), ("BadSeen", false), ("BadFacts", false), ("TooGreat", false), ("Nothing", false), ("WheelError", false)]) (He.ga K "BadFraction") := kt_cons (eb.xc _ (List.mem_of_getElem? (i := 0) rfl)) (eb.kit ("BadBase", "BadFraction", false) (List.mem_of_getElem? (i := 96) rfl)) (kt_cons (eb.xc _ (List.mem_of_getElem? (i := 1) rfl)) (eb.kit ("BadDenominator", "BadFraction", false) (List.mem_of_getElem? (i := 97) rfl)) (kt_cons (eb.xc _ (List.mem_of_getElem? (i := 2) rfl)) (eb.kit ("BadFraction", "BadFraction", true) (List.mem_of_getElem? (i := 98) rfl)) (kt_cons (eb.xc _ (List.mem_of_getElem? (i := 3) rfl)) (eb.kit ("BadDigits", "BadFraction", false) (List.mem_of_getElem? (i := 99) rfl)) (kt_cons (eb.xc _ (List.mem_of_getElem? (i := 4) rfl)) (eb.kit ("BadNumber", "BadFraction", false) (List.mem_of_getElem? (i := 100) rfl)) (kt_cons (eb.xc _ (List.mem_of_getElem? (i := 5) rfl)) (eb.kit ("BadPaper", "BadFraction", false) (List.mem_of_getElem? (i := 101) rfl)) (kt_cons (eb.xc _ (List.mem_of_getElem? (i := 6) rfl)) (eb.kit ("BadText", "BadFraction", false) (List.mem_of_getElem? (i := 102) rfl)) (kt_cons (eb.xc _ (List.mem_of_getElem? (i := 7) rfl)) (eb.kit ("BadSeen", "BadFraction", false) (List.mem_of_getElem? (i := 103) rfl)) (kt_cons (eb.xc _ (List.mem_of_getElem? (i := 8) rfl)) (eb.kit ("BadFacts", "BadFraction", false) (List.mem_of_getElem? (i := 104) rfl)) (kt_cons (eb.xc _ (List.mem_of_getElem? (i := 9) rfl)) (eb.kit ("TooGreat", "BadFraction", false) (List.mem_of_getElem? (i := 105) rfl)) (kt_cons (eb.xc _ (List.mem_of_getElem? (i := 10) rfl)) (eb.kit ("Nothing", "BadFraction", false) (List.mem_of_getElem? (i := 106) rfl)) (kt_cons (eb.xc _ (List.mem_of_getElem? (i := 11) rfl)) (eb.kit ("WheelError", "BadFraction", false) (List.mem_of_getElem? (i := 107) rfl)) (kt_nil))))))))))))
  have k_BadDenominator : KtOk K (mtL [("BadBase", false), ("BadDenominator", true), ("BadFraction", false), ("BadDigits", false), ("BadNumber", false), ("BadPaper", false), ("BadText", false), ("BadSeen", false), ("BadFacts", false), ("TooGreat", false), ("Nothing", false), ("WheelError", false)]) (He.ga K "BadDenominator") := kt_cons (eb.xc _ (List.mem_of_getElem? (i := 0) rfl)) (eb.kit ("BadBase", "BadDenominator", false) (List.mem_of_getElem? (i := 108) rfl)) (kt_cons (eb.xc _ (List.mem_of_getElem? (i := 1) rfl)) (eb.kit ("BadDenominator", "BadDenominator", true) (List.mem_of_getElem? (i := 109) rfl)) (kt_cons (eb.xc _ (List.mem_of_getElem? (i := 2) rfl)) (eb.kit ("BadFraction", "BadDenominator", false) (List.mem_of_getElem? (i := 110) rfl)) (kt_cons (eb.xc _ (List.mem_of_getElem? (i := 3) rfl)) (eb.kit ("BadDigits", "BadDenominator", false) (List.mem_of_getElem? (i := 111) rfl)) (kt_cons (eb.xc _ (List.mem_of_getElem? (i := 4) rfl)) (eb.kit ("BadNumber", "BadDenominator", false) (List.mem_of_getElem? (i := 112) rfl)) (kt_cons (eb.xc _ (List.mem_of_getElem? (i := 5) rfl)) (eb.kit ("BadPaper", "BadDenominator", false) (List.mem_of_getElem? (i := 113) rfl)) (kt_cons (eb.xc _ (List.mem_of_getElem? (i := 6) rfl)) (eb.kit ("BadText", "BadDenominator", false) (List.mem_of_getElem? (i := 114) rfl)) (kt_cons (eb.xc _ (List.mem_of_getElem? (i := 7) rfl)) (eb.kit ("BadSeen", "BadDenominator", false) (List.mem_of_getElem? (i := 115) rfl)) (kt_cons (eb.xc _ (List.mem_of_getElem? (i := 8) rfl)) (eb.kit ("BadFacts", "BadDenominator", false) (List.mem_of_getElem? (i := 116) rfl)) (kt_cons (eb.xc _ (List.mem_of_getElem? (i := 9) rfl)) (eb.kit ("TooGreat", "BadDenominator", false) (List.mem_of_getElem? (i := 117) rfl)) (kt_cons (eb.xc _ (List.mem_of_getElem? (i := 10) rfl)) (eb.kit ("Nothing", "BadDenominator", false) (List.mem_of_getElem? (i := 118) rfl)) (kt_cons (eb.xc _ (List.mem_of_getElem? (i := 11) rfl)) (eb.kit ("WheelError", "BadDenominator", false) (List.mem_of_getElem? (i := 119) rfl)) (kt_nil))))))))))))
  have k_BadBase : KtOk K (mtL [("BadBase", true), ("BadDenominator", false), ("BadFraction", false), ("BadDigits", false), ("BadNumber", false), ("BadPaper", false), ("BadText", false), ("BadSeen", false), ("BadFacts", false), ("TooGreat", false), ("Nothing", false), ("WheelError", false)]) (He.ga K "BadBase") := kt_cons (eb.xc _ (List.mem_of_getElem? (i := 0) rfl)) (eb.kit ("BadBase", "BadBase", true) (List.mem_of_getElem? (i := 120) rfl)) (kt_cons (eb.xc _ (List.mem_of_getElem? (i := 1) rfl)) (eb.kit ("BadDenominator", "BadBase", false) (List.mem_of_getElem? (i := 121) rfl)) (kt_cons (eb.xc _ (List.mem_of_getElem? (i := 2) rfl)) (eb.kit ("BadFraction", "BadBase", false) (List.mem_of_getElem? (i := 122) rfl)) (kt_cons (eb.xc _ (List.mem_of_getElem? (i := 3) rfl)) (eb.kit ("BadDigits", "BadBase", false) (List.mem_of_getElem? (i := 123) rfl)) (kt_cons (eb.xc _ (List.mem_of_getElem? (i := 4) rfl)) (eb.kit ("BadNumber", "BadBase", false) (List.mem_of_getElem? (i := 124) rfl)) (kt_cons (eb.xc _ (List.mem_of_getElem? (i := 5) rfl)) (eb.kit ("BadPaper", "BadBase", false) (List.mem_of_getElem? (i := 125) rfl)) (kt_cons (eb.xc _ (List.mem_of_getElem? (i := 6) rfl)) (eb.kit ("BadText", "BadBase", false) (List.mem_of_getElem? (i := 126) rfl)) (kt_cons (eb.xc _ (List.mem_of_getElem? (i := 7) rfl)) (eb.kit ("BadSeen", "BadBase", false) (List.mem_of_getElem? (i := 127) rfl)) (kt_cons (eb.xc _ (List.mem_of_getElem? (i := 8) rfl)) (eb.kit ("BadFacts", "BadBase", false) (List.mem_of_getElem? (i := 128) rfl)) (kt_cons (eb.xc _ (List.mem_of_getElem? (i := 9) rfl)) (eb.kit ("TooGreat", "BadBase", false) (List.mem_of_getElem? (i := 129) rfl)) (kt_cons (eb.xc _ (List.mem_of_getElem? (i := 10) rfl)) (eb.kit ("Nothing", "BadBase", false) (List.mem_of_getElem? (i := 130) rfl)) (kt_cons (eb.xc _ (List.mem_of_getElem? (i := 11) rfl)) (eb.kit ("WheelError", "BadBase", false) (List.mem_of_getElem? (i := 131) rfl)) (kt_nil))))))))))))
  have k_WheelError : KtOk K (mtL [("BadBase", true), ("BadDenominator", true), ("BadFraction", true), ("BadDigits", true), ("BadNumber", true), ("BadPaper", true), ("BadText", true), ("BadSeen", true), ("BadFacts", true), ("TooGreat", false), ("Nothing", false), ("WheelError", true)]) (He.ga K "WheelError") := kt_cons (eb.xc _ (List.mem_of_getElem? (i := 0) rfl)) (eb.kit ("BadBase", "WheelError", true) (List.mem_of_getElem? (i := 132) rfl)) (kt_cons (eb.xc _ (List.mem_of_getElem? (i := 1) rfl)) (eb.kit ("BadDenominator", "WheelError", true) (List.mem_of_getElem? (i := 133) rfl)) (kt_cons (eb.xc _ (List.mem_of_getElem? (i := 2) rfl)) (eb.kit ("BadFraction", "WheelError", true) (List.mem_of_getElem? (i := 134) rfl)) (kt_cons (eb.xc _ (List.mem_of_getElem? (i := 3) rfl)) (eb.kit ("BadDigits", "WheelError", true) (List.mem_of_getElem? (i := 135) rfl)) (kt_cons (eb.xc _ (List.mem_of_getElem? (i := 4) rfl)) (eb.kit ("BadNumber", "WheelError", true) (List.mem_of_getElem? (i := 136) rfl)) (kt_cons (eb.xc _ (List.mem_of_getElem? (i := 5) rfl)) (eb.kit ("BadPaper", "WheelError", true) (List.mem_of_getElem? (i := 137) rfl)) (kt_cons (eb.xc _ (List.mem_of_getElem? (i := 6) rfl)) (eb.kit ("BadText", "WheelError", true) (List.mem_of_getElem? (i := 138) rfl)) (kt_cons (eb.xc _ (List.mem_of_getElem? (i := 7) rfl)) (eb.kit ("BadSeen", "WheelError", true) (List.mem_of_getElem? (i := 139) rfl)) (kt_cons (eb.xc _ (List.mem_of_getElem? (i := 8) rfl)) (eb.kit ("BadFacts", "WheelError", true) (List.mem_of_getElem? (i := 140) rfl)) (kt_cons (eb.xc _ (List.mem_of_getElem? (i := 9) rfl)) (eb.kit ("TooGreat", "WheelError", false) (List.mem_of_getElem? (i := 141) rfl)) (kt_cons (eb.xc _ (List.mem_of_getElem? (i := 10) rfl)) (eb.kit ("Nothing", "WheelError", false) (List.mem_of_getElem? (i := 142) rfl)) (kt_cons (eb.xc _ (List.mem_of_getElem? (i := 11) rfl)) (eb.kit ("WheelError", "WheelError", true) (List.mem_of_getElem? (i := 143) rfl)) (kt_nil))))))))))))
  have kb_LookupError : KbOne K (mtL [("BadBase", false), ("BadDenominator", false), ("BadFraction", false), ("BadDigits", false), ("BadNumber", false), ("BadPaper", false), ("BadText", false), ("BadSeen", false), ("BadFacts", false), ("TooGreat", false), ("Nothing", true), ("WheelError", false)]) "LookupError" := kbo_cons (eb.xc _ (List.mem_of_getElem? (i := 0) rfl)) (eb.kb ("BadBase", "LookupError", false) (List.mem_of_getElem? (i := 0) rfl)) (kbo_cons (eb.xc _ (List.mem_of_getElem? (i := 1) rfl)) (eb.kb ("BadDenominator", "LookupError", false) (List.mem_of_getElem? (i := 1) rfl)) (kbo_cons (eb.xc _ (List.mem_of_getElem? (i := 2) rfl)) (eb.kb ("BadFraction", "LookupError", false) (List.mem_of_getElem? (i := 2) rfl)) (kbo_cons (eb.xc _ (List.mem_of_getElem? (i := 3) rfl)) (eb.kb ("BadDigits", "LookupError", false) (List.mem_of_getElem? (i := 3) rfl)) (kbo_cons (eb.xc _ (List.mem_of_getElem? (i := 4) rfl)) (eb.kb ("BadNumber", "LookupError", false) (List.mem_of_getElem? (i := 4) rfl)) (kbo_cons (eb.xc _ (List.mem_of_getElem? (i := 5) rfl)) (eb.kb ("BadPaper", "LookupError", false) (List.mem_of_getElem? (i := 5) rfl)) (kbo_cons (eb.xc _ (List.mem_of_getElem? (i := 6) rfl)) (eb.kb ("BadText", "LookupError", false) (List.mem_of_getElem? (i := 6) rfl)) (kbo_cons (eb.xc _ (List.mem_of_getElem? (i := 7) rfl)) (eb.kb ("BadSeen", "LookupError", false) (List.mem_of_getElem? (i := 7) rfl)) (kbo_cons (eb.xc _ (List.mem_of_getElem? (i := 8) rfl)) (eb.kb ("BadFacts", "LookupError", false) (List.mem_of_getElem? (i := 8) rfl)) (kbo_cons (eb.xc _ (List.mem_of_getElem? (i := 9) rfl)) (eb.kb ("TooGreat", "LookupError", false) (List.mem_of_getElem? (i := 9) rfl)) (kbo_cons (eb.xc _ (List.mem_of_getElem? (i := 10) rfl)) (eb.kb ("Nothing", "LookupError", true) (List.mem_of_getElem? (i := 10) rfl)) (kbo_cons (eb.xc _ (List.mem_of_getElem? (i := 11) rfl)) (eb.kb ("WheelError", "LookupError", false) (List.mem_of_getElem? (i := 11) rfl)) (kbo_nil))))))))))))
  have kb_OverflowError : KbOne K (mtL [("BadBase", false), ("BadDenominator", false), ("BadFraction", false), ("BadDigits", false), ("BadNumber", false), ("BadPaper", false), ("BadText", false), ("BadSeen", false), ("BadFacts", false), ("TooGreat", true), ("Nothing", false), ("WheelError", false)]) "OverflowError" := kbo_cons (eb.xc _ (List.mem_of_getElem? (i := 0) rfl)) (eb.kb ("BadBase", "OverflowError", false) (List.mem_of_getElem? (i := 12) rfl)) (kbo_cons (eb.xc _ (List.mem_of_getElem? (i := 1) rfl)) (eb.kb ("BadDenominator", "OverflowError", false) (List.mem_of_getElem? (i := 13) rfl)) (kbo_cons (eb.xc _ (List.mem_of_getElem? (i := 2) rfl)) (eb.kb ("BadFraction", "OverflowError", false) (List.mem_of_getElem? (i := 14) rfl)) (kbo_cons (eb.xc _ (List.mem_of_getElem? (i := 3) rfl)) (eb.kb ("BadDigits", "OverflowError", false) (List.mem_of_getElem? (i := 15) rfl)) (kbo_cons (eb.xc _ (List.mem_of_getElem? (i := 4) rfl)) (eb.kb ("BadNumber", "OverflowError", false) (List.mem_of_getElem? (i := 16) rfl)) (kbo_cons (eb.xc _ (List.mem_of_getElem? (i := 5) rfl)) (eb.kb ("BadPaper", "OverflowError", false) (List.mem_of_getElem? (i := 17) rfl)) (kbo_cons (eb.xc _ (List.mem_of_getElem? (i := 6) rfl)) (eb.kb ("BadText", "OverflowError", false) (List.mem_of_getElem? (i := 18) rfl)) (kbo_cons (eb.xc _ (List.mem_of_getElem? (i := 7) rfl)) (eb.kb ("BadSeen", "OverflowError", false) (List.mem_of_getElem? (i := 19) rfl)) (kbo_cons (eb.xc _ (List.mem_of_getElem? (i := 8) rfl)) (eb.kb ("BadFacts", "OverflowError", false) (List.mem_of_getElem? (i := 20) rfl)) (kbo_cons (eb.xc _ (List.mem_of_getElem? (i := 9) rfl)) (eb.kb ("TooGreat", "OverflowError", true) (List.mem_of_getElem? (i := 21) rfl)) (kbo_cons (eb.xc _ (List.mem_of_getElem? (i := 10) rfl)) (eb.kb ("Nothing", "OverflowError", false) (List.mem_of_getElem? (i := 22) rfl)) (kbo_cons (eb.xc _ (List.mem_of_getElem? (i := 11) rfl)) (eb.kb ("WheelError", "OverflowError", false) (List.mem_of_getElem? (i := 23) rfl)) (kbo_nil))))))))))))
  have kb_ValueError : KbOne K (mtL [("BadBase", true), ("BadDenominator", true), ("BadFraction", true), ("BadDigits", true), ("BadNumber", true), ("BadPaper", true), ("BadText", true), ("BadSeen", true), ("BadFacts", true), ("TooGreat", false), ("Nothing", false), ("WheelError", true)]) "ValueError" := kbo_cons (eb.xc _ (List.mem_of_getElem? (i := 0) rfl)) (eb.kb ("BadBase", "ValueError", true) (List.mem_of_getElem? (i := 24) rfl)) (kbo_cons (eb.xc _ (List.mem_of_getElem? (i := 1) rfl)) (eb.kb ("BadDenominator", "ValueError", true) (List.mem_of_getElem? (i := 25) rfl)) (kbo_cons (eb.xc _ (List.mem_of_getElem? (i := 2) rfl)) (eb.kb ("BadFraction", "ValueError", true) (List.mem_of_getElem? (i := 26) rfl)) (kbo_cons (eb.xc _ (List.mem_of_getElem? (i := 3) rfl)) (eb.kb ("BadDigits", "ValueError", true) (List.mem_of_getElem? (i := 27) rfl)) (kbo_cons (eb.xc _ (List.mem_of_getElem? (i := 4) rfl)) (eb.kb ("BadNumber", "ValueError", true) (List.mem_of_getElem? (i := 28) rfl)) (kbo_cons (eb.xc _ (List.mem_of_getElem? (i := 5) rfl)) (eb.kb ("BadPaper", "ValueError", true) (List.mem_of_getElem? (i := 29) rfl)) (kbo_cons (eb.xc _ (List.mem_of_getElem? (i := 6) rfl)) (eb.kb ("BadText", "ValueError", true) (List.mem_of_getElem? (i := 30) rfl)) (kbo_cons (eb.xc _ (List.mem_of_getElem? (i := 7) rfl)) (eb.kb ("BadSeen", "ValueError", true) (List.mem_of_getElem? (i := 31) rfl)) (kbo_cons (eb.xc _ (List.mem_of_getElem? (i := 8) rfl)) (eb.kb ("BadFacts", "ValueError", true) (List.mem_of_getElem? (i := 32) rfl)) (kbo_cons (eb.xc _ (List.mem_of_getElem? (i := 9) rfl)) (eb.kb ("TooGreat", "ValueError", false) (List.mem_of_getElem? (i := 33) rfl)) (kbo_cons (eb.xc _ (List.mem_of_getElem? (i := 10) rfl)) (eb.kb ("Nothing", "ValueError", false) (List.mem_of_getElem? (i := 34) rfl)) (kbo_cons (eb.xc _ (List.mem_of_getElem? (i := 11) rfl)) (eb.kb ("WheelError", "ValueError", true) (List.mem_of_getElem? (i := 35) rfl)) (kbo_nil))))))))))))
  have kt_KeyError_IndexError_TypeError_RuntimeError : KbOk K (mtL [("BadBase", false), ("BadDenominator", false), ("BadFraction", false), ("BadDigits", false), ("BadNumber", false), ("BadPaper", false), ("BadText", false), ("BadSeen", false), ("BadFacts", false), ("TooGreat", false), ("Nothing", false), ("WheelError", false)]) ["KeyError", "IndexError", "TypeError", "RuntimeError"] := kbt_cons (eb.xc _ (List.mem_of_getElem? (i := 0) rfl)) (eb.kt ("BadBase", ["KeyError", "IndexError", "TypeError", "RuntimeError"], false) (List.mem_of_getElem? (i := 0) rfl)) (kbt_cons (eb.xc _ (List.mem_of_getElem? (i := 1) rfl)) (eb.kt ("BadDenominator", ["KeyError", "IndexError", "TypeError", "RuntimeError"], false) (List.mem_of_getElem? (i := 1) rfl)) (kbt_cons (eb.xc _ (List.mem_of_getElem? (i := 2) rfl)) (eb.kt ("BadFraction", ["KeyError", "IndexError", "TypeError", "RuntimeError"], false) (List.mem_of_getElem? (i := 2) rfl)) (kbt_cons (eb.xc _ (List.mem_of_getElem? (i := 3) rfl)) (eb.kt ("BadDigits", ["KeyError", "IndexError", "TypeError", "RuntimeError"], false) (List.mem_of_getElem? (i := 3) rfl)) (kbt_cons (eb.xc _ (List.mem_of_getElem? (i := 4) rfl)) (eb.kt ("BadNumber", ["KeyError", "IndexError", "TypeError", "RuntimeError"], false) (List.mem_of_getElem? (i := 4) rfl)) (kbt_cons (eb.xc _ (List.mem_of_getElem? (i := 5) rfl)) (eb.kt ("BadPaper", ["KeyError", "IndexError", "TypeError", "RuntimeError"], false) (List.mem_of_getElem? (i := 5) rfl)) (kbt_cons (eb.xc _ (List.mem_of_getElem? (i := 6) rfl)) (eb.kt ("BadText", ["KeyError", "IndexError", "TypeError", "RuntimeError"], false) (List.mem_of_getElem? (i := 6) rfl)) (kbt_cons (eb.xc _ (List.mem_of_getElem? (i := 7) rfl)) (eb.kt ("BadSeen", ["KeyError", "IndexError", "TypeError", "RuntimeError"], false) (List.mem_of_getElem? (i := 7) rfl)) (kbt_cons (eb.xc _ (List.mem_of_getElem? (i := 8) rfl)) (eb.kt ("BadFacts", ["KeyError", "IndexError", "TypeError", "RuntimeError"], false) (List.mem_of_getElem? (i := 8) rfl)) (kbt_cons (eb.xc _ (List.mem_of_getElem? (i := 9) rfl)) (eb.kt ("TooGreat", ["KeyError", "IndexError", "TypeError", "RuntimeError"], false) (List.mem_of_getElem? (i := 9) rfl)) (kbt_cons (eb.xc _ (List.mem_of_getElem? (i := 10) rfl)) (eb.kt ("Nothing", ["KeyError", "IndexError", "TypeError", "RuntimeError"], false) (List.mem_of_getElem? (i := 10) rfl)) (kbt_cons (eb.xc _ (List.mem_of_getElem? (i := 11) rfl)) (eb.kt ("WheelError", ["KeyError", "IndexError", "TypeError", "RuntimeError"], false) (List.mem_of_getElem? (i := 11) rfl)) (kbt_nil))))))))))))
  have f_value : FdOk K "value" ["BadBase", "BadDenominator", "BadFraction", "BadDigits", "BadNumber", "BadSeen", "Nothing"] := fd_cons x_BadBase.xf x_BadBase.no (fd_cons x_BadDenominator.xf x_BadDenominator.no (fd_cons x_BadFraction.xf x_BadFraction.no (fd_cons x_BadDigits.xf x_BadDigits.no (fd_cons x_BadNumber.xf x_BadNumber.no (fd_cons x_BadSeen.xf x_BadSeen.no (fd_cons x_Nothing.xf x_Nothing.no (fd_nil)))))))
  have f_most : FdOk K "most" ["TooGreat"] := fd_cons x_TooGreat.xf x_TooGreat.no (fd_nil)
  have f_number : FdOk K "number" ["BadFacts"] := fd_cons x_BadFacts.xf x_BadFacts.no (fd_nil)
  have f_place : FdOk K "place" ["BadText"] := fd_cons x_BadText.xf x_BadText.no (fd_nil)
  have f_part : FdOk K "part" ["BadPaper"] := fd_cons x_BadPaper.xf x_BadPaper.no (fd_nil)
  have b_WheelError : OwnB K mg "WheelError" "ValueError" "ValueError.__new__" "ValueError.__init__" DWX.veB := ownBB_ok X G PySem.F.excBase_ValueError ebb
  have so : StOk K ["WheelError"] := fun c hc => by
    rw [List.mem_singleton.mp hc]
    exact ⟨b_WheelError.st, b_WheelError.sb⟩
  have D__law_begun : IsDef K mg "_law_begun" st__law_begun := by
    obtain ⟨fd, F⟩ := c.def_ 0 (d := dd__law_begun) rfl
    exact ⟨_, fd, F, He.glo_ok X G (c.fact 0 (f := .glo "_law_begun") rfl)⟩
  have D__law_draw : IsDef K mg "_law_draw" st__law_draw := by
    obtain ⟨fd, F⟩ := c.def_ 1 (d := dd__law_draw) rfl
    exact ⟨_, fd, F, He.glo_ok X G (c.fact 1 (f := .glo "_law_draw") rfl)⟩
  have D__law_of : IsDef K mg "_law_of" st__law_of := by
    obtain ⟨fd, F⟩ := c.def_ 2 (d := dd__law_of) rfl
    exact ⟨_, fd, F, He.glo_ok X G (c.fact 2 (f := .glo "_law_of") rfl)⟩
  have D__law_odd : IsDef K mg "_law_odd" st__law_odd := by
    obtain ⟨fd, F⟩ := c.def_ 3 (d := dd__law_odd) rfl
    exact ⟨_, fd, F, He.glo_ok X G (c.fact 3 (f := .glo "_law_odd") rfl)⟩
  have D__law_fields : IsDef K mg "_law_fields" st__law_fields := by
    obtain ⟨fd, F⟩ := c.def_ 4 (d := dd__law_fields) rfl
    exact ⟨_, fd, F, He.glo_ok X G (c.fact 4 (f := .glo "_law_fields") rfl)⟩
  have D__law_kinds : IsDef K mg "_law_kinds" st__law_kinds := by
    obtain ⟨fd, F⟩ := c.def_ 5 (d := dd__law_kinds) rfl
    exact ⟨_, fd, F, He.glo_ok X G (c.fact 5 (f := .glo "_law_kinds") rfl)⟩
  have D__law_elders : IsDef K mg "_law_elders" st__law_elders := by
    obtain ⟨fd, F⟩ := c.def_ 6 (d := dd__law_elders) rfl
    exact ⟨_, fd, F, He.glo_ok X G (c.fact 6 (f := .glo "_law_elders") rfl)⟩
  have D__law_right : IsDef K mg "_law_right" st__law_right := by
    obtain ⟨fd, F⟩ := c.def_ 7 (d := dd__law_right) rfl
    exact ⟨_, fd, F, He.glo_ok X G (c.fact 7 (f := .glo "_law_right") rfl)⟩
  have D__law_made : IsDef K mg "_law_made" st__law_made := by
    obtain ⟨fd, F⟩ := c.def_ 8 (d := dd__law_made) rfl
    exact ⟨_, fd, F, He.glo_ok X G (c.fact 8 (f := .glo "_law_made") rfl)⟩
  have D__law_named : IsDef K mg "_law_named" st__law_named := by
    obtain ⟨fd, F⟩ := c.def_ 9 (d := dd__law_named) rfl
    exact ⟨_, fd, F, He.glo_ok X G (c.fact 9 (f := .glo "_law_named") rfl)⟩
  have n_len : mg "len" = none := He.free_ok X G (c.fact 11 (f := .free "len") rfl)
  have n_list : mg "list" = none := He.free_ok X G (c.fact 12 (f := .free "list") rfl)
  have n_int : mg "int" = none := He.free_ok X G (c.fact 13 (f := .free "int") rfl)
  have n_isinstance : mg "isinstance" = none := He.free_ok X G (c.fact 14 (f := .free "isinstance") rfl)
  have n_RuntimeError : mg "RuntimeError" = none := He.free_ok X G (c.fact 15 (f := .free "RuntimeError") rfl)
  have n_TypeError : mg "TypeError" = none := He.free_ok X G (c.fact 16 (f := .free "TypeError") rfl)
  have n_IndexError : mg "IndexError" = none := He.free_ok X G (c.fact 17 (f := .free "IndexError") rfl)
  have n_KeyError : mg "KeyError" = none := He.free_ok X G (c.fact 18 (f := .free "KeyError") rfl)
  have n_LookupError : mg "LookupError" = none := He.free_ok X G (c.fact 19 (f := .free "LookupError") rfl)
  have n_OverflowError : mg "OverflowError" = none := He.free_ok X G (c.fact 20 (f := .free "OverflowError") rfl)
  have n_ValueError : mg "ValueError" = none := He.free_ok X G (c.fact 21 (f := .free "ValueError") rfl)
  have n_enumerate : mg "enumerate" = none := He.free_ok X G (c.fact 22 (f := .free "enumerate") rfl)
  have n_range : mg "range" = none := He.free_ok X G (c.fact 23 (f := .free "range") rfl)
  have n_repr : mg "repr" = none := He.free_ok X G (c.fact 24 (f := .free "repr") rfl)
  have n_str : mg "str" = none := He.free_ok X G (c.fact 25 (f := .free "str") rfl)
  have n_min : mg "min" = none := He.free_ok X G (c.fact 26 (f := .free "min") rfl)
  have h__law_begun := p__law_begun (P := P) (w := w) (base := base) D__law_begun n_len n_list
  have h__law_draw := p__law_draw (P := P) (w := w) (base := base) D__law_draw n_int n_len
  have h__law_of := p__law_of (P := P) (w := w) (base := base) D__law_of h__law_draw n_len
  have h__law_odd := p__law_odd (P := P) (w := w) (base := base) D__law_odd h__law_of
  have h__law_fields := p__law_fields (P := P) (w := w) (base := base) D__law_fields f_value f_most f_number f_place f_part
  have h__law_kinds := p__law_kinds (P := P) (w := w) (base := base) D__law_kinds k_Nothing k_TooGreat k_BadFacts k_BadSeen k_BadText k_BadPaper k_BadNumber k_BadDigits k_BadFraction k_BadDenominator k_BadBase c_Nothing c_TooGreat c_BadFacts c_BadSeen c_BadText c_BadPaper c_BadNumber c_BadDigits c_BadFraction c_BadDenominator c_BadBase n_isinstance
  have h__law_elders := p__law_elders (P := P) (w := w) (base := base) D__law_elders k_WheelError c_WheelError kb_LookupError kb_OverflowError kb_ValueError kt_KeyError_IndexError_TypeError_RuntimeError n_RuntimeError n_TypeError n_IndexError n_KeyError n_isinstance n_LookupError n_OverflowError n_ValueError
  have h__law_right := p__law_right (P := P) (w := w) (base := base) D__law_right h__law_elders h__law_kinds h__law_fields sysk n_enumerate n_range n_repr
  have h__law_made := p__law_made (P := P) (w := w) (base := base) D__law_made x_Nothing x_TooGreat x_BadFacts x_BadSeen x_BadText x_BadPaper x_BadNumber x_BadDigits x_BadFraction x_BadDenominator x_BadBase
  have h__law_named := p__law_named (P := P) (w := w) (base := base) D__law_named x_Nothing x_TooGreat x_BadFacts x_BadSeen x_BadText x_BadPaper x_BadNumber x_BadDigits x_BadFraction x_BadDenominator x_BadBase
  have h_law := p_law (P := P) (w := w) (base := base) F h__law_made h__law_right h__law_elders h__law_kinds h__law_named h__law_odd h__law_begun b_WheelError so sysk n_str n_len n_min n_range n_repr
  exact h_law
end LAW
end
open PySem PySem.W PySem.Calls PyProof.Rows
set_option maxRecDepth 100000 in
set_option maxHeartbeats 0 in
theorem PySem.Challenge.cw_wheelnines_k01_errors_holds : PySem.Challenge.rw_wheelnines_k01_errors.Holds := by
  w_on; o_law
  refine HandSHeadRun.head_any (r := OpenLaw.row PySem.Challenge.rw_wheelnines_k01_errors) (q := view (OpenLaw.row PySem.Challenge.rw_wheelnines_k01_errors).prog [24]) (H := LAW.hk) (ob := LAW.ob) (M := 20000) (loose := LAW.names) (d := HandSHeadRun.topDef (OpenLaw.row PySem.Challenge.rw_wheelnines_k01_errors).prog 24) (kwd := []) LAW.ob_eq
    (by kernel_rfl) (fun s => by kernel_rfl) LAW.run (by kernel_rfl) (by kernel_rfl) (by kernel_rfl) (by rfl) (by first | assumption | decide +kernel) (by decide +kernel) ⟨rfl, rfl, rfl, rfl, rfl, by decide +kernel⟩ ?hw ?hc
  case hw => w_witness2
  case hc =>
    refine DW.walkG (l := PySem.Challenge.rw_wheelnines_k01_errors) (n := 63) (k := 4) (x := "script") (CX := L2.CX0) rfl (by decide) (by kernel_rfl) ⟨rfl, by decide, by decide⟩ ?F (fun _ _ _ _ z => z)
    intro w mg fa h Y G hmg0
    obtain ⟨K, KX, ce⟩ := Y
    have c := ce.t.d
    have hmg : mg ("law" : PySem.Str) = some (.ref fa) := by
      have e : (HandSHeadRun.topDef (OpenLaw.row PySem.Challenge.rw_wheelnines_k01_errors).prog 24).name = ("law" : PySem.Str) := by kernel_rfl
      rw [← e]
      exact hmg0
    obtain ⟨fd, F⟩ := c.def_ 10 (d := LAW.dd_law) rfl
    have hga : mg ("law" : PySem.Str) = some (.ref (He.fAd K ("law", none))) := He.glo_ok KX G (c.fact 10 (f := .glo "law") rfl)
    rw [hmg] at hga
    have hfa : fa = He.fAd K ("law", none) := by cases hga; rfl
    have b := L2.FunD.bindsA (ps := ["script"]) F fun _ _ _ _ _ _ us hl => match us, hl with | [_], _ => rfl
    rw [hfa]
    exact ⟨K, fd, DW.spF ⟨K, mg⟩ LAW.m_law, KX, fun s v => b s [v] rfl, fun H a ns hl hS => DW.law_sp LAW.law_true H a ns hl hS (fun p hp => nomatch (show p ∈ ([] : List _) from hp)), fun base _ _ => LAW.facts (P := (PySem.Challenge.rw_wheelnines_k01_errors).prog) (w := w) KX G ce rfl (by kernel_rfl) base F⟩

