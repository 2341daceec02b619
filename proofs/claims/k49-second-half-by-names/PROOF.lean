import PyProof.Rows.All
import Wide.All
import OpenK.AllK
import Wide.FinOn
import HandS.ForMost
import HandS.Walk
import HandS.Wide
import HandS.IsInst
import HandS.DictComp
import HandS.Flow
import HandS.Style
import HandS.Exc
import HandS.TupAny
import HandS.TupMul
import HandS.SortInts
import HandS.FStr
import HandS.ListItems
import HandS.Conv
import HandS.Lambda
import HandS.HeadHook4
import KE.KSortedM
import PyProof.DictUpdate
import PyProof.WalksMore
import PyProof.TupleIter
import PyProof.ConsumeWalk
import HandS.Defaults
import HandS.HeadEnd
import HandS.Head0
import HandS.Head1
import HandS.Head2
import HandS.HeadHook1
import HandS.HeadHook2
import KE.KStateDown
import HandS.RaiseMore
import HandS.ExcValue
import HandS.DictTup
import HandS.SortRule
import HandS.SetFor
import HandS.Strs
import HandS.ForExc
import HandS.ExcField
import KE.KExcSuper
import HandS.Zip
import KE.GoesEnum
import HandS.HeadHook3
import PySem.Challenge.RW_wheelnines_k49_second_half_by_names
/-! DW0: the defs of the law that make lambdas (printed per law by gen.py) -/
namespace DW
def lamNames : List PySem.Str := []
end DW

set_option Elab.async false
set_option linter.all false
set_option maxRecDepth 100000
set_option maxHeartbeats 4000000
/-! DW1: data without the heap, environments of data, the judgements over data -/
namespace DW
open PySem L2

/-! ### data -/
inductive Dt where
  | non | bl (b : Bool) | int (i : Int) | str (x : Str) | lst (xs : List Dt) | tup (xs : List Dt) | dct (kvs : List (Key × Dt)) | scr (ns : List Int) | xo (cls fld : Str) (val : Dt)
/-- an error object of the class cls, its dict at dd -/
def ExV (a : Addr) (cls : Value) (dd : Addr) : HO := .ext fun h => ∃ (oe : Obj) (vs : Array Value), h.get? a = some oe ∧ Zc cls (some dd) oe ∧ oe.data = .fields vs

mutual
inductive Da (K : PySem.W.Frag) (H : Hp) : V → Dt → Prop
  | non : Da K H .non .non
  | bl (b : Bool) : Da K H (.bl b) (.bl b)
  | int (i : Int) : Da K H (.int i) (.int i)
  | str (x : Str) : Da K H (.str x) (.str x)
  | lst {a : Addr} {xs : List V} {ds : List Dt} : H a = some (.lst xs) → DaAll K H xs ds → Da K H (.ref a) (.lst ds)
  | tup {a : Addr} {xs : List V} {ds : List Dt} : SqT K H a xs → DaAll K H xs ds → Da K H (.ref a) (.tup ds)
  | dct {a : Addr} {ks : List (Key × V)} {kvs : List (Key × Dt)} : H a = some (.dK ks) → DaKv K H ks kvs → Da K H (.ref a) (.dct kvs)
  | scr {a : Addr} {ns : List Int} : SqL K H a (ns.map V.int) → Da K H (.ref a) (.scr ns)
  | xo {a dd : Addr} {cls fld : Str} {v : V} {d : Dt} : H a = some (ExV a (.ref (He.ga K cls)) dd) → H dd = some (.xd [(fld, v)]) → Da K H v d → Da K H (.ref a) (.xo cls fld d)
inductive DaAll (K : PySem.W.Frag) (H : Hp) : List V → List Dt → Prop
  | nil : DaAll K H [] []
  | cons {v : V} {vs : List V} {d : Dt} {ds : List Dt} : Da K H v d → DaAll K H vs ds → DaAll K H (v :: vs) (d :: ds)
inductive DaKv (K : PySem.W.Frag) (H : Hp) : List (Key × V) → List (Key × Dt) → Prop
  | nil : DaKv K H [] []
  | cons {k : Key} {v : V} {ks : List (Key × V)} {d : Dt} {kvs : List (Key × Dt)} : Da K H v d → DaKv K H ks kvs → DaKv K H ((k, v) :: ks) ((k, d) :: kvs)
end

theorem seqL_mono {K : PySem.W.Frag} {H H' : Hp} {a : Addr} {xs : List V} (e : Same H H') (h : SqL K H a xs) : SqL K H' a xs := e.seq h
theorem seqT_mono {K : PySem.W.Frag} {H H' : Hp} {a : Addr} {xs : List V} (e : Same H H') (h : SqT K H a xs) : SqT K H' a xs := by
  rcases h with (h | ⟨o, h⟩) | h
  · exact .inl (.inl (e _ _ h))
  · exact .inl (.inr ⟨o, e _ _ h⟩)
  · exact .inr h

mutual
theorem Da.mono {K : PySem.W.Frag} {H H' : Hp} (e : Same H H') : ∀ {v : V} {d : Dt}, Da K H v d → Da K H' v d
  | _, _, .non => .non
  | _, _, .bl b => .bl b
  | _, _, .int i => .int i
  | _, _, .str x => .str x
  | _, _, .lst h1 h2 => .lst (e _ _ h1) (DaAll.mono e h2)
  | _, _, .scr h1 => .scr (seqL_mono e h1)
  | _, _, .xo h1 h2 h3 => .xo (e _ _ h1) (e _ _ h2) (Da.mono e h3)
  | _, _, .tup h1 h2 => .tup (seqT_mono e h1) (DaAll.mono e h2)
  | _, _, .dct h1 h2 => .dct (e _ _ h1) (DaKv.mono e h2)
theorem DaAll.mono {K : PySem.W.Frag} {H H' : Hp} (e : Same H H') : ∀ {v : List V} {d : List Dt}, DaAll K H v d → DaAll K H' v d
  | _, _, .nil => .nil
  | _, _, .cons h1 h2 => .cons (Da.mono e h1) (DaAll.mono e h2)
theorem DaKv.mono {K : PySem.W.Frag} {H H' : Hp} (e : Same H H') : ∀ {v : List (Key × V)} {d : List (Key × Dt)}, DaKv K H v d → DaKv K H' v d
  | _, _, .nil => .nil
  | _, _, .cons h1 h2 => .cons (Da.mono e h1) (DaKv.mono e h2)
end

theorem DaAll.length {K : PySem.W.Frag} {H : Hp} : ∀ {vs : List V} {ds : List Dt}, DaAll K H vs ds → vs.length = ds.length
  | _, _, .nil => rfl
  | _, _, .cons _ h => congrArg (· + 1) h.length
theorem DaAll.get {K : PySem.W.Frag} {H : Hp} : ∀ {vs : List V} {ds : List Dt} {i : Nat} {d : Dt}, DaAll K H vs ds → ds[i]? = some d → ∃ v, vs[i]? = some v ∧ Da K H v d
  | _, _, _, _, .nil, e => by simp at e
  | _, _, 0, _, .cons h _, e => by
    simp at e
    subst e
    exact ⟨_, rfl, h⟩
  | _, _, i + 1, _, .cons _ h, e => by
    simp at e
    obtain ⟨v, h1, h2⟩ := h.get e
    exact ⟨v, by simpa using h1, h2⟩
theorem DaAll.getV {K : PySem.W.Frag} {H : Hp} : ∀ {vs : List V} {ds : List Dt} {i : Nat} {v : V}, DaAll K H vs ds → vs[i]? = some v → ∃ d, ds[i]? = some d ∧ Da K H v d
  | _, _, _, _, .nil, e => by simp at e
  | _, _, 0, _, .cons h _, e => by
    simp at e
    subst e
    exact ⟨_, rfl, h⟩
  | _, _, i + 1, _, .cons _ h, e => by
    simp at e
    obtain ⟨v, h1, h2⟩ := h.getV e
    exact ⟨v, by simpa using h1, h2⟩
theorem DaAll.append {K : PySem.W.Frag} {H : Hp} : ∀ {vs ws : List V} {ds es : List Dt}, DaAll K H vs ds → DaAll K H ws es → DaAll K H (vs ++ ws) (ds ++ es)
  | _, _, _, _, .nil, h => h
  | _, _, _, _, .cons h1 h2, h => .cons h1 (h2.append h)
theorem DaAll.take {K : PySem.W.Frag} {H : Hp} : ∀ {vs : List V} {ds : List Dt} (n : Nat), DaAll K H vs ds → DaAll K H (vs.take n) (ds.take n)
  | _, _, 0, _ => .nil
  | _, _, _ + 1, .nil => .nil
  | _, _, n + 1, .cons h1 h2 => .cons h1 (h2.take n)
theorem DaAll.drop {K : PySem.W.Frag} {H : Hp} : ∀ {vs : List V} {ds : List Dt} (n : Nat), DaAll K H vs ds → DaAll K H (vs.drop n) (ds.drop n)
  | _, _, 0, h => h
  | _, _, _ + 1, .nil => .nil
  | _, _, n + 1, .cons h1 h2 => h2.drop n
theorem DaAll.ints {K : PySem.W.Frag} {H : Hp} : ∀ {vs : List V} {ns : List Int}, DaAll K H vs (ns.map Dt.int) → vs = ns.map V.int
  | _, [], h => by cases h; rfl
  | _, n :: ns, h => by
    cases h with
    | cons h1 h2 =>
      cases h1
      rw [h2.ints]
      rfl
theorem daInts {K : PySem.W.Frag} {H : Hp} : ∀ (ns : List Int), DaAll K H (ns.map V.int) (ns.map Dt.int)
  | [] => .nil
  | n :: ns => .cons (.int n) (daInts ns)
theorem DaAll.bls {K : PySem.W.Frag} {H : Hp} : ∀ {vs : List V} {ns : List Bool}, DaAll K H vs (ns.map Dt.bl) → vs = ns.map V.bl
  | _, [], h => by cases h; rfl
  | _, n :: ns, h => by
    cases h with
    | cons h1 h2 =>
      cases h1
      rw [h2.bls]
      rfl

/-! ### environments -/
/-- where a body began: the base, the heap, the dict that it may change -/
structure Fm where
  H0 : Hp
  H : Hp
  io : Option Addr
/-- raw: a function that is handed on, with where the body began -/
inductive Sl where
  | fr (d : Dt) | ol (xs : List Dt) | od (kvs : List (Key × Dt)) | io (kvs : List (Key × Dt)) | raw (v : V) (F : Fm)
def Sl.own : Sl → Bool
  | .ol _ => true
  | .od _ => true
  | _ => false
def Sl.mut : Sl → Bool
  | .fr _ => false
  | .raw _ _ => false
  | _ => true
theorem Sl.mut_of_own {s : Sl} (h : s.own = true) : s.mut = true := by cases s <;> first | rfl | cases h
abbrev Rho := List (Option Sl)
structure Xc where
  cls : Str
  fld : Str
  val : Dt
inductive R (α : Type) where
  | ok (a : α) (ρ : Rho) | ex (e : Xc) (ρ : Rho) | bad
def R.bind {α β : Type} (r : R α) (g : α → Rho → R β) : R β := match r with
  | .ok a ρ => g a ρ
  | .ex e ρ => .ex e ρ
  | .bad => .bad
inductive SR where
  | nx (ρ : Rho) | rt (s : Sl) (ρ : Rho) | bk (ρ : Rho) | ct (ρ : Rho) | ex (e : Xc) (ρ : Rho) | bad
def R.bindS {α : Type} (r : R α) (g : α → Rho → SR) : SR := match r with
  | .ok a ρ => g a ρ
  | .ex e ρ => .ex e ρ
  | .bad => .bad

structure Gr (F : Fm) (H0 H : Hp) : Prop where
  b0 : Same F.H0 H0
  keep : ∀ a o, F.H a = some o → F.io ≠ some a → H a = some o
  off : ∀ a, F.H a ≠ none → F.H0 a = none → H0 a = none
/-- not a table of code objects -/
def NT (o : HO) : Prop := ∀ ps, o ≠ .tbl ps
theorem nt_lst (xs : List V) : NT (.lst xs) := fun _ z => nomatch z
theorem nt_dK (xs : List (Key × V)) : NT (.dK xs) := fun _ z => nomatch z
/-- the tables of the defs that make lambdas -/
def tT (K : PySem.W.Frag) : List (Addr × Str) := lamNames.map fun n => ((He.cT K (n, none)).2, n ++ ".<locals>." ++ "<lambda>")
def TbOk (K : PySem.W.Frag) (H0 H : Hp) : Prop := ∀ p ∈ tT K, H0 p.1 = none ∧ LamX.TabS H p.1 p.2
/-- as Gr, but tables may have grown -/
structure Gw (F : Fm) (H0 H : Hp) : Prop where
  b0 : Same F.H0 H0
  keep : ∀ a o, F.H a = some o → NT o → F.io ≠ some a → H a = some o
  off : ∀ a, F.H a ≠ none → F.H0 a = none → H0 a = none
  st : ∀ a, F.H a ≠ none → H a ≠ none
theorem tab_away {K : PySem.W.Frag} {H0 H H0' H' : Hp} (t : TbOk K H0 H) (k : ∀ a o, H a = some o → (∀ xs, o ≠ .lst xs) → (∀ xs, o ≠ .dK xs) → H' a = some o) (f : ∀ a, H a ≠ none → H0 a = none → (∀ xs, H a ≠ some (.lst xs)) → (∀ xs, H a ≠ some (.dK xs)) → H0' a = none) : TbOk K H0' H' := fun p hp => by
  obtain ⟨h1, ps, h2, h3, h4⟩ := t p hp
  refine ⟨f p.1 (by rw [h2]; exact fun z => nomatch z) h1 (fun xs z => by rw [h2] at z; cases z) (fun xs z => by rw [h2] at z; cases z), ps, k _ _ h2 (fun _ z => nomatch z) (fun _ z => nomatch z), h3, fun pos cv hc => ?_⟩
  obtain ⟨c, e1, e2⟩ := h4 pos cv hc
  exact ⟨c, e1, k _ _ e2 (fun _ z => nomatch z) (fun _ z => nomatch z)⟩
def SlR (K : PySem.W.Frag) (F : Fm) (H0 H : Hp) (v : V) : Sl → Prop
  | .fr d => Da K H0 v d
  | .ol ds => ∃ a vs, v = .ref a ∧ H0 a = none ∧ F.H a = none ∧ H a = some (.lst vs) ∧ DaAll K H0 vs ds
  | .od kvs => ∃ a ks, v = .ref a ∧ H0 a = none ∧ F.H a = none ∧ H a = some (.dK ks) ∧ DaKv K H0 ks kvs
  | .io kvs => ∃ a ks, v = .ref a ∧ H0 a = none ∧ F.io = some a ∧ H a = some (.dK ks) ∧ DaKv K H0 ks kvs
  | .raw w F' => v = w ∧ F' = F
structure En (K : PySem.W.Frag) (F : Fm) (H0 H : Hp) (σ : L2.St) (ρ : Rho) : Prop where
  gr : Gw F H0 H
  tb : TbOk K H0 H
  ex : Same H0 H
  len : σ.length = ρ.length
  sl : ∀ (i : Nat) (s : Sl), ρ[i]? = some (some s) → ∃ v, σ[i]? = some (some v) ∧ SlR K F H0 H v s
  sep : ∀ (i j : Nat) (s t : Sl) (a : Addr), i ≠ j → ρ[i]? = some (some s) → ρ[j]? = some (some t) → s.own = true → t.own = true → σ[i]? = some (some (.ref a)) → σ[j]? ≠ some (some (.ref a))
  io : ∀ a, F.io = some a → σ[0]? = some (some (.ref a)) ∧ (∃ kvs, ρ[0]? = some (some (.io kvs))) ∧ F.H a ≠ none
  io1 : ∀ (i : Nat) (kvs : List (Key × Dt)), ρ[i]? = some (some (.io kvs)) → i = 0

section
variable {K : PySem.W.Frag} {F : Fm} {H0 H H0' H' : Hp} {σ : L2.St} {ρ : Rho} {v : V} {d : Dt} {s : Sl} {i : Nat} {a p : Addr} {o : HO}

theorem En.ioAt (E : En K F H0 H σ ρ) (h : F.io = some a) : H0 a = none ∧ ∃ ks, H a = some (.dK ks) := by
  obtain ⟨h1, ⟨kvs, h2⟩, _⟩ := E.io a h
  obtain ⟨v, h3, b, ks, rfl, h4, h5, h6, _⟩ := E.sl 0 _ h2
  rw [h1] at h3
  cases h3
  exact ⟨h4, ks, h6⟩
/-- what stood at the beginning stands -/
theorem En.still (E : En K F H0 H σ ρ) (h : F.H a ≠ none) : H a ≠ none := E.gr.st a h
theorem Gw.refl (H0 H : Hp) (io : Option Addr) : Gw ⟨H0, H, io⟩ H0 H := ⟨Same.refl _, fun _ _ h _ _ => h, fun _ _ h => h, fun _ h => h⟩
theorem Gr.refl (H0 H : Hp) (io : Option Addr) (F : Fm := ⟨H0, H, io⟩) (e : F = ⟨H0, H, io⟩ := by rfl) : Gr F H0 H := by
  subst e
  exact ⟨Same.refl _, fun _ _ h _ => h, fun _ _ h => h⟩
theorem Gr.w (g : Gr ⟨H0, H, none⟩ H0' H') : Gw ⟨H0, H, none⟩ H0' H' := ⟨g.b0, fun a o h _ hi => g.keep a o h hi, g.off, fun a h => by
  have h : H a ≠ none := h
  cases e : H a with
  | none => exact absurd e h
  | some o =>
    rw [g.keep a o e (fun z => nomatch z)]
    exact fun z => nomatch z⟩
theorem Gr.tb (g : Gr ⟨H0, H, none⟩ H0' H') (t : TbOk K H0 H) : TbOk K H0' H' := tab_away t (fun a o h _ _ => g.keep a o h (fun z => nomatch z)) (fun a h h0 _ _ => g.off a h h0)
theorem SlR.grow (g : Gw ⟨H0, H, none⟩ H0' H') (h : SlR K F H0 H v s) : SlR K F H0' H' v s := by
  cases s with
  | fr d => exact Da.mono g.b0 h
  | ol ds =>
    obtain ⟨a, vs, rfl, h1, h2, h3, h4⟩ := h
    exact ⟨a, vs, rfl, g.off a (by show H a ≠ none; rw [h3]; exact fun z => nomatch z) h1, h2, g.keep a _ h3 (nt_lst _) (fun z => nomatch z), h4.mono g.b0⟩
  | od ds =>
    obtain ⟨a, vs, rfl, h1, h2, h3, h4⟩ := h
    exact ⟨a, vs, rfl, g.off a (by show H a ≠ none; rw [h3]; exact fun z => nomatch z) h1, h2, g.keep a _ h3 (nt_dK _) (fun z => nomatch z), h4.mono g.b0⟩
  | raw w _ => exact h
  | io ds =>
    obtain ⟨a, vs, rfl, h1, h2, h3, h4⟩ := h
    exact ⟨a, vs, rfl, g.off a (by show H a ≠ none; rw [h3]; exact fun z => nomatch z) h1, h2, g.keep a _ h3 (nt_dK _) (fun z => nomatch z), h4.mono g.b0⟩
/-- something was made, nothing was changed -/
theorem En.growW (E : En K F H0 H σ ρ) (g : Gw ⟨H0, H, none⟩ H0' H') (t : TbOk K H0' H') (e : Same H0' H') : En K F H0' H' σ ρ where
  gr := ⟨E.gr.b0.trans g.b0, fun a o h n hi => g.keep a o (E.gr.keep a o h n hi) n (fun z => nomatch z), fun a h h' => g.off a (E.still h) (E.gr.off a h h'), fun a h => g.st a (E.gr.st a h)⟩
  tb := t
  ex := e
  len := E.len
  sl := fun i s h => by
    obtain ⟨v, h1, h2⟩ := E.sl i s h
    exact ⟨v, h1, h2.grow g⟩
  sep := E.sep
  io := E.io
  io1 := E.io1
theorem En.grow (E : En K F H0 H σ ρ) (g : Gr ⟨H0, H, none⟩ H0' H') (e : Same H0' H') : En K F H0' H' σ ρ := E.growW g.w (g.tb E.tb) e
theorem gr_new (hp : H p = none) (e : Same H0 H) : Gr ⟨H0, H, none⟩ (upd H0 p o) (upd H p o) where
  b0 := fun a u h => by
    rw [upd_ne (ne_of_none (e a u h) hp)]
    exact h
  keep := fun a u h _ => by
    rw [upd_ne (ne_of_none h hp)]
    exact h
  off := fun a h h0 => by
    have : a ≠ p := fun z => h (z ▸ hp)
    rw [upd_ne this]
    exact h0
theorem same_new (hp : H p = none) (e : Same H0 H) : Same (upd H0 p o) (upd H p o) := fun a u h => by
  by_cases ha : a = p
  · subst ha
    rw [upd_same] at h ⊢
    exact h
  · rw [upd_ne ha] at h ⊢
    exact e a u h
theorem En.new (E : En K F H0 H σ ρ) (hp : H p = none) : En K F (upd H0 p o) (upd H p o) σ ρ := E.grow (gr_new hp E.ex) (same_new hp E.ex)
theorem En.newB0 (E : En K F H0 H σ ρ) (hp : H p = none) : Same H0 (upd H0 p o) := (gr_new (o := o) hp E.ex).b0
/-- new, not laid into the base -/
theorem gr_newO (hp : H p = none) : Gr ⟨H0, H, none⟩ H0 (upd H p o) where
  b0 := Same.refl _
  keep := fun a u h _ => by
    rw [upd_ne (ne_of_none h hp)]
    exact h
  off := fun a h h0 => h0
theorem same_newO (hp : H p = none) (e : Same H0 H) : Same H0 (upd H p o) := fun a u h => by
  rw [upd_ne (ne_of_none (e a u h) hp)]
  exact e a u h

/-- the address of a slot's own object -/
def OwnAt (σ : L2.St) (ρ : Rho) (a : Addr) : Prop := ∃ (i : Nat) (s : Sl), ρ[i]? = some (some s) ∧ s.mut = true ∧ σ[i]? = some (some (.ref a))
/-- one expression's doing -/
structure Mw (σ : L2.St) (ρ : Rho) (σ' : L2.St) (ρ' : Rho) (H0 H H0' H' : Hp) : Prop where
  b0 : Same H0 H0'
  keep : ∀ a o, H a = some o → NT o → ¬ OwnAt σ ρ a → H' a = some o
  off : ∀ a, H a ≠ none → H0 a = none → ¬ OwnAt σ ρ a → H0' a = none
  sub : ∀ a, OwnAt σ' ρ' a → OwnAt σ ρ a
  st : ∀ a, H a ≠ none → H' a ≠ none
abbrev Mv (σ : L2.St) (ρ ρ' : Rho) (H0 H H0' H' : Hp) : Prop := Mw σ ρ σ ρ' H0 H H0' H'
theorem Mv.refl : Mv σ ρ ρ H0 H H0 H := ⟨Same.refl _, fun _ _ h _ _ => h, fun _ _ h _ => h, fun _ h => h, fun _ h => h⟩
theorem Mw.fresh {p : Addr} {σ' : L2.St} {ρ' : Rho} (m : Mw σ ρ σ' ρ' H0 H H0' H') (hp : H' p = none) : H p = none := by
  cases e : H p with
  | none => rfl
  | some o => exact absurd hp (m.st p (by rw [e]; exact fun z => nomatch z))
theorem Mw.trans {σ1 σ2 : L2.St} {ρ1 ρ2 : Rho} {B0 B C0 C : Hp} (m : Mw σ ρ σ1 ρ1 H0 H B0 B) (n : Mw σ1 ρ1 σ2 ρ2 B0 B C0 C) : Mw σ ρ σ2 ρ2 H0 H C0 C where
  b0 := m.b0.trans n.b0
  keep := fun a o h t ho => n.keep a o (m.keep a o h t ho) t fun z => ho (m.sub a z)
  off := fun a h h0 ho => n.off a (m.st a h) (m.off a h h0 ho) fun z => ho (m.sub a z)
  sub := fun a h => m.sub a (n.sub a h)
  st := fun a h => n.st a (m.st a h)
theorem Mw.kl {σ' : L2.St} {ρ' : Rho} {xs : List V} (m : Mw σ ρ σ' ρ' H0 H H0' H') (a : Addr) (h : H a = some (.lst xs)) (n : ¬ OwnAt σ ρ a) : H' a = some (.lst xs) := m.keep a _ h (nt_lst xs) n
theorem Mw.kd {σ' : L2.St} {ρ' : Rho} {xs : List (Key × V)} (m : Mw σ ρ σ' ρ' H0 H H0' H') (a : Addr) (h : H a = some (.dK xs)) (n : ¬ OwnAt σ ρ a) : H' a = some (.dK xs) := m.keep a _ h (nt_dK xs) n
theorem Gw.mv (g : Gw ⟨H0, H, none⟩ H0' H') : Mv σ ρ ρ H0 H H0' H' := ⟨g.b0, fun a o h t _ => g.keep a o h t (fun z => nomatch z), fun a h h0 _ => g.off a h h0, fun _ h => h, fun a h => g.st a h⟩
theorem Gr.mv (g : Gr ⟨H0, H, none⟩ H0' H') : Mv σ ρ ρ H0 H H0' H' := g.w.mv
theorem gw_upd {ks : List (Key × V)} {ks' : List (Key × V)} (hH : H a = some (.dK ks)) : Gw ⟨H0, H, some a⟩ H0 (upd H a (.dK ks')) := ⟨Same.refl _, fun b o hb _ hn => by
  have nb : b ≠ a := fun z => hn (by rw [z])
  rw [upd_ne nb]
  exact hb, fun _ _ h => h, fun b hb => by
  by_cases z : b = a
  · rw [z, upd_same]
    exact fun z => nomatch z
  · rw [upd_ne z]
    exact hb⟩
theorem tb_upd {ks : List (Key × V)} (t : TbOk K H0 H) (hH : H a = some (.dK ks)) : TbOk K H0 (upd H a o) := tab_away t (fun b u hb _ n2 => by
  have nb : b ≠ a := fun z => n2 ks (by rw [z, hH] at hb; exact (Option.some.inj hb).symm)
  rw [upd_ne nb]
  exact hb) (fun _ _ h _ _ => h)

/-! ### the judgements -/
structure Gx where
  K : PySem.W.Frag
  mg : Str → Option Value
abbrev gx (X : Cx) : Gx := ⟨X.K, X.mg⟩
abbrev WX := Value → Option Addr → L2.St → Hp → Prop
/-- an exception e: its class, its own dict -/
def XR (g : Gx) (F : Fm) (H0 H : Hp) (e : Xc) (c : Value) (da : Option Addr) : Prop := ∃ p v, g.mg e.cls = some c ∧ da = some p ∧ F.H p = none ∧ H p = some (.xd [(e.fld, v)]) ∧ Da g.K H0 v e.val
def XW (g : Gx) (F : Fm) (W : WX) (σ : L2.St) (e : Xc) (ρ' : Rho) : Prop := ∀ c da H0' H', XR g F H0' H' e c da → En g.K F H0' H' σ ρ' → W c da σ H'
def tD (g : Gx) (F : Fm) (W : WX) (f : Rho → R Dt) : TE := fun σ H Q => ∃ H0 ρ, En g.K F H0 H σ ρ ∧ match f ρ with
  | .ok d ρ' => ∀ v H0' H', En g.K F H0' H' σ ρ' → Mv σ ρ ρ' H0 H H0' H' → Da g.K H0' v d → Q v H'
  | .ex e ρ' => XW g F W σ e ρ'
  | .bad => False
def tO (g : Gx) (F : Fm) (W : WX) (f : Rho → R Sl) : TE := fun σ H Q => ∃ H0 ρ, En g.K F H0 H σ ρ ∧ match f ρ with
  | .ok s ρ' => ∀ v H0' H', En g.K F H0' H' σ ρ' → Mv σ ρ ρ' H0 H H0' H' → SlR g.K F H0' H' v s → (s.own = true → ∀ a, v = .ref a → H a = none) → Q v H'
  | .ex e ρ' => XW g F W σ e ρ'
  | .bad => False
def tDT (g : Gx) (F : Fm) (W : WX) (f : Rho → R Bool) : TT := fun σ H Q => ∃ H0 ρ, En g.K F H0 H σ ρ ∧ match f ρ with
  | .ok b ρ' => ∀ H0' H', En g.K F H0' H' σ ρ' → Mv σ ρ ρ' H0 H H0' H' → Q b H'
  | .ex e ρ' => XW g F W σ e ρ'
  | .bad => False
def tDA (g : Gx) (F : Fm) (W : WX) (f : Rho → R (List Dt)) : TA := fun σ H Q => ∃ H0 ρ, En g.K F H0 H σ ρ ∧ match f ρ with
  | .ok ds ρ' => ∀ vs H0' H', En g.K F H0' H' σ ρ' → Mv σ ρ ρ' H0 H H0' H' → DaAll g.K H0' vs ds → Q vs H'
  | .ex e ρ' => XW g F W σ e ρ'
  | .bad => False
def PostS (g : Gx) (F : Fm) (W : WX) (D : Ends) (H0 : Hp) : SR → Prop
  | .nx ρ' => ∀ σ' H0' H', En g.K F H0' H' σ' ρ' → Same H0 H0' → D.nx σ' H'
  | .rt s ρ' => ∀ v σ' H0' H', En g.K F H0' H' σ' ρ' → SlR g.K F H0' H' v s → D.rt v H'
  | .bk ρ' => ∀ σ' H0' H', En g.K F H0' H' σ' ρ' → Same H0 H0' → D.bk σ' H'
  | .ct ρ' => ∀ σ' H0' H', En g.K F H0' H' σ' ρ' → Same H0 H0' → D.ct σ' H'
  | .ex e ρ' => ∀ σ', XW g F W σ' e ρ'
  | .bad => False
def tS (g : Gx) (F : Fm) (W : WX) (f : Rho → SR) : TS := fun D σ H => ∃ H0 ρ, En g.K F H0 H σ ρ ∧ PostS g F W D H0 (f ρ)
theorem PostS.mono {g : Gx} {F : Fm} {W : WX} {D : Ends} {H0 H0' : Hp} {r : SR} (s : Same H0 H0') (h : PostS g F W D H0 r) : PostS g F W D H0' r := by
  cases r with
  | nx ρ' => exact fun σ' C0 C E t => h σ' C0 C E (s.trans t)
  | rt s ρ' => exact h
  | bk ρ' => exact fun σ' C0 C E t => h σ' C0 C E (s.trans t)
  | ct ρ' => exact fun σ' C0 C E t => h σ' C0 C E (s.trans t)
  | ex _ _ => exact h
  | bad => exact h
def DE (X : Cx) (W : WX) (e : Expr) (f : Rho → R Dt) : Prop := ∀ F, PE X e (tD (gx X) F W f)
def DO (X : Cx) (W : WX) (e : Expr) (f : Rho → R Sl) : Prop := ∀ F, PE X e (tO (gx X) F W f)
def DT (X : Cx) (W : WX) (e : Expr) (f : Rho → R Bool) : Prop := ∀ F, PT X e (tDT (gx X) F W f)
def DW' (X : Cx) (W : WX) (e : Expr) (f : Rho → R Bool) : Prop := ∀ F, PW X e (tDT (gx X) F W f)
def DA (X : Cx) (W : WX) (es : List Expr) (f : Rho → R (List Dt)) : Prop := ∀ F, PA X es (tDA (gx X) F W f)
def DS (X : Cx) (W : WX) (st : Stmt) (f : Rho → SR) : Prop := ∀ F, PS X st (tS (gx X) F W f)
def DSs (X : Cx) (W : WX) (st : List Stmt) (f : Rho → SR) : Prop := ∀ F, PSs X st (tS (gx X) F W f)
end

section
variable {X : Cx} {W : WX}
theorem PE.wk {e : Expr} {t u : TE} (h : PE X e t) (k : ∀ σ H Q, u σ H Q → t σ H Q) : PE X e u := ⟨fun pins s σ H Q I q => h.run pins s σ H Q I (k σ H Q q)⟩
theorem PT.wk {e : Expr} {t u : TT} (h : PT X e t) (k : ∀ σ H Q, u σ H Q → t σ H Q) : PT X e u := ⟨fun pins s σ H Q I q => h.run pins s σ H Q I (k σ H Q q)⟩
theorem PW.wk {e : Expr} {t u : TT} (h : PW X e t) (k : ∀ σ H Q, u σ H Q → t σ H Q) : PW X e u := ⟨fun w pins s σ H Q I q => h.run w pins s σ H Q I (k σ H Q q)⟩
theorem PA.wk {e : List Expr} {t u : TA} (h : PA X e t) (k : ∀ σ H Q, u σ H Q → t σ H Q) : PA X e u := ⟨fun p pins s σ H Q I q => h.run p pins s σ H Q I (k σ H Q q)⟩
theorem PS.wk {e : Stmt} {t u : TS} (h : PS X e t) (k : ∀ D σ H, u D σ H → t D σ H) : PS X e u := ⟨fun pins s σ H D I q => h.run pins s σ H D I (k D σ H q)⟩
theorem PSs.wk {e : List Stmt} {t u : TS} (h : PSs X e t) (k : ∀ D σ H, u D σ H → t D σ H) : PSs X e u := ⟨fun pins s σ H D I q => h.run pins s σ H D I (k D σ H q)⟩
end
end DW

set_option Elab.async false
set_option linter.all false
set_option maxRecDepth 100000
set_option maxHeartbeats 4000000
/-! DW2: expressions, tests, arguments, statements over data -/
namespace DW
open PySem L2

section
variable {K : PySem.W.Frag} {F : Fm} {H0 H H0' H' : Hp} {σ : L2.St} {ρ : Rho} {v : V} {d : Dt} {s : Sl} {i : Nat} {a p : Addr} {o : HO}
theorem set_get {α : Type} {l : List α} {i j : Nat} {x y : α} (h : (l.set i x)[j]? = some y) : (j = i ∧ y = x) ∨ (j ≠ i ∧ l[j]? = some y) := by
  by_cases e : i = j
  · subst e
    have hl : i < (l.set i x).length := by
      cases q : (l.set i x)[i]? with
      | none => rw [q] at h; cases h
      | some z => exact (List.getElem?_eq_some_iff.mp q).1
    rw [List.length_set] at hl
    rw [List.getElem?_set_self hl] at h
    exact .inl ⟨rfl, (Option.some.inj h).symm⟩
  · rw [List.getElem?_set_ne e] at h
    exact .inr ⟨Ne.symm e, h⟩
theorem lt_of_get {α : Type} {l : List α} {i : Nat} {x : α} (h : l[i]? = some x) : i < l.length := (List.getElem?_eq_some_iff.mp h).1

def noIo (ρ : Rho) : Bool := match (ρ[0]? : Option (Option Sl)) with
  | some (some (.io _)) => false
  | _ => true
def putR (i : Nat) (s : Sl) (ρ : Rho) : Option Rho := if i = 0 ∧ noIo ρ = false then none else some (ρ.set i (some s))
/-- a slot is stored -/
theorem En.put (E : En K F H0 H σ ρ) (hs : SlR K F H0 H v s) (hio : ∀ kvs, s ≠ .io kvs) (hsep : s.own = true → ∀ a, v = .ref a → ¬ OwnAt σ ρ a) {ρ' : Rho} (h : putR i s ρ = some ρ') : En K F H0 H (σ.set i (some v)) ρ' := by
  unfold putR at h
  split at h
  · cases h
  · rename_i hn
    cases h
    refine ⟨E.gr, E.tb, E.ex, by rw [List.length_set, List.length_set, E.len], fun j t e => ?_, fun j k t u b hjk e1 e2 o1 o2 h1 h2 => ?_, fun b hb => ?_, fun j kvs e => ?_⟩
    · rcases set_get e with ⟨rfl, e2⟩ | ⟨hne, e2⟩
      · cases e2
        have hl : j < σ.length := by
          rw [E.len]
          have := lt_of_get e
          rw [List.length_set] at this
          exact this
        exact ⟨v, List.getElem?_set_self hl, hs⟩
      · obtain ⟨w, h1, h2⟩ := E.sl j t e2
        exact ⟨w, by rw [List.getElem?_set_ne (Ne.symm hne)]; exact h1, h2⟩
    · rcases set_get e1 with ⟨rfl, z1⟩ | ⟨n1, z1⟩
      · cases z1
        rcases set_get e2 with ⟨rfl, z2⟩ | ⟨n2, z2⟩
        · exact hjk rfl
        · rcases set_get h1 with ⟨_, y1⟩ | ⟨n, _⟩
          · cases y1
            rcases set_get h2 with ⟨e, _⟩ | ⟨_, y2⟩
            · exact n2 e
            · exact hsep o1 b rfl ⟨k, u, z2, Sl.mut_of_own o2, y2⟩
          · exact n rfl
      · rcases set_get e2 with ⟨rfl, z2⟩ | ⟨n2, z2⟩
        · cases z2
          rcases set_get h2 with ⟨_, y2⟩ | ⟨n, _⟩
          · cases y2
            rcases set_get h1 with ⟨e, _⟩ | ⟨_, y1⟩
            · exact n1 e
            · exact hsep o2 b rfl ⟨j, t, z1, Sl.mut_of_own o1, y1⟩
          · exact n rfl
        · rcases set_get h1 with ⟨e, _⟩ | ⟨_, y1⟩
          · exact n1 e
          · rcases set_get h2 with ⟨e, _⟩ | ⟨_, y2⟩
            · exact n2 e
            · exact E.sep j k t u b hjk z1 z2 o1 o2 y1 y2
    · obtain ⟨h1, ⟨kvs, h2⟩, h3⟩ := E.io b hb
      have hi : i ≠ 0 := fun z => hn ⟨z, by unfold noIo; rw [h2]⟩
      exact ⟨by rw [List.getElem?_set_ne hi]; exact h1, ⟨kvs, by rw [List.getElem?_set_ne hi]; exact h2⟩, h3⟩
    · rcases set_get e with ⟨rfl, e2⟩ | ⟨hne, e2⟩
      · exact absurd (Option.some.inj e2).symm (hio kvs)
      · exact E.io1 j kvs e2
theorem En.putFr (E : En K F H0 H σ ρ) (hs : Da K H0 v d) {ρ' : Rho} (h : putR i (.fr d) ρ = some ρ') : En K F H0 H (σ.set i (some v)) ρ' := E.put (s := .fr d) hs (fun _ z => nomatch z) (fun z => nomatch z) h

/-- a list of one's own is changed -/
theorem En.mutL (E : En K F H0 H σ ρ) {ds ds' : List Dt} {vs' : List V} (hi : ρ[i]? = some (some (.ol ds))) (hv : σ[i]? = some (some (.ref a))) (hd : DaAll K H0 vs' ds') :
    En K F H0 (upd H a (.lst vs')) σ (ρ.set i (some (.ol ds'))) := by
  obtain ⟨v, h1, b, vs, rfl, h3, h4, h5, h6⟩ := E.sl i _ hi
  rw [hv] at h1
  cases h1
  have hli : i < ρ.length := lt_of_get hi
  have h0i : F.io ≠ some a := fun z => (E.io a z).2.2 h4
  have kp : ∀ b o, H b = some o → b ≠ a → upd H a (.lst vs') b = some o := fun b o hb n => by
    rw [upd_ne n]
    exact hb
  refine ⟨⟨E.gr.b0, fun b o hb nt hi => ?_, E.gr.off, fun b hb => ?_⟩, tab_away E.tb (fun b o hb n1 _ => kp b o hb fun z => n1 vs (by rw [z, h5] at hb; exact (Option.some.inj hb).symm)) (fun b _ h0 _ _ => h0), fun b u hb => ?_, by rw [List.length_set]; exact E.len, fun j t e => ?_, fun j k t u b hjk e1 e2 o1 o2 y1 y2 => ?_, fun b hb => ?_, fun j kvs e => ?_⟩
  · have : b ≠ a := fun z => by
      rw [z, h4] at hb
      cases hb
    rw [upd_ne this]
    exact E.gr.keep b o hb nt hi
  · by_cases z : b = a
    · rw [z, upd_same]
      exact fun z => nomatch z
    · rw [upd_ne z]
      exact E.gr.st b hb
  · have : b ≠ a := fun z => by
      rw [z, h3] at hb
      cases hb
    rw [upd_ne this]
    exact E.ex b u hb
  · rcases set_get e with ⟨rfl, z⟩ | ⟨hne, z⟩
    · cases z
      exact ⟨_, hv, a, vs', rfl, h3, h4, upd_same, hd⟩
    · obtain ⟨w, y1, y2⟩ := E.sl j t z
      refine ⟨w, y1, ?_⟩
      cases t with
      | fr d => exact y2
      | ol es =>
        obtain ⟨c, us, rfl, q1, q2, q3, q4⟩ := y2
        have : c ≠ a := fun z' => E.sep j i _ _ a hne z hi rfl rfl (z' ▸ y1) hv
        exact ⟨c, us, rfl, q1, q2, by rw [upd_ne this]; exact q3, q4⟩
      | od es =>
        obtain ⟨c, us, rfl, q1, q2, q3, q4⟩ := y2
        have : c ≠ a := fun z' => E.sep j i _ _ a hne z hi rfl rfl (z' ▸ y1) hv
        exact ⟨c, us, rfl, q1, q2, by rw [upd_ne this]; exact q3, q4⟩
      | raw w _ => exact y2
      | io es =>
        obtain ⟨c, us, rfl, q1, q2, q3, q4⟩ := y2
        have : c ≠ a := fun z' => h0i (z' ▸ q2)
        exact ⟨c, us, rfl, q1, q2, by rw [upd_ne this]; exact q3, q4⟩
  · have own : ∀ (j : Nat) (t : Sl), (ρ.set i (some (.ol ds')))[j]? = some (some t) → t.own = true → ∃ t', ρ[j]? = some (some t') ∧ t'.own = true := fun j t e o => by
      rcases set_get e with ⟨rfl, z⟩ | ⟨_, z⟩
      · exact ⟨_, hi, rfl⟩
      · exact ⟨t, z, o⟩
    obtain ⟨t', q1, q2⟩ := own j t e1 o1
    obtain ⟨u', q3, q4⟩ := own k u e2 o2
    exact E.sep j k t' u' b hjk q1 q3 q2 q4 y1 y2
  · obtain ⟨y1, ⟨kvs, y2⟩, y3⟩ := E.io b hb
    have hi0 : i ≠ 0 := fun z => by
      subst z
      rw [hi] at y2
      cases y2
    exact ⟨y1, ⟨kvs, by rw [List.getElem?_set_ne hi0]; exact y2⟩, y3⟩
  · rcases set_get e with ⟨rfl, e2⟩ | ⟨hne, e2⟩
    · cases e2
    · exact E.io1 j kvs e2
/-- a dict of one's own, or the one that was handed in, is changed (by the base's growth, too) -/
theorem En.mutD (E : En K F H0 H σ ρ) {s s' : Sl} {ks' : List (Key × V)} {kvs' : List (Key × Dt)} (hi : ρ[i]? = some (some s)) (hv : σ[i]? = some (some (.ref a)))
    (hk : (∃ kvs, s = .od kvs ∧ s' = .od kvs') ∨ (∃ kvs, s = .io kvs ∧ s' = .io kvs'))
    (g : Gw ⟨H0, H, some a⟩ H0' H') (tt : TbOk K H0' H') (e : Same H0' H') (ha : H' a = some (.dK ks')) (hd : DaKv K H0' ks' kvs') :
    En K F H0' H' σ (ρ.set i (some s')) := by
  obtain ⟨v, h1, hsl⟩ := E.sl i _ hi
  rw [hv] at h1
  cases h1
  have hli : i < ρ.length := lt_of_get hi
  have hmut : s.mut = true := by rcases hk with ⟨_, rfl, _⟩ | ⟨_, rfl, _⟩ <;> rfl
  have hA : H0 a = none ∧ (∃ ks, H a = some (.dK ks)) ∧ ((F.H a = none ∧ s.own = true) ∨ F.io = some a) := by
    rcases hk with ⟨_, rfl, _⟩ | ⟨_, rfl, _⟩
    · obtain ⟨b, ks, e', q1, q2, q3, q4⟩ := hsl
      cases e'
      exact ⟨q1, ⟨ks, q3⟩, .inl ⟨q2, rfl⟩⟩
    · obtain ⟨b, ks, e', q1, q2, q3, q4⟩ := hsl
      cases e'
      exact ⟨q1, ⟨ks, q3⟩, .inr q2⟩
  obtain ⟨h3, ⟨ks, h5⟩, h4⟩ := hA
  have h3' : H0' a = none := g.off a (by show H a ≠ none; rw [h5]; exact fun z => nomatch z) h3
  have keep : ∀ b o, b ≠ a → NT o → H b = some o → H' b = some o := fun b o hb n q => g.keep b o q n fun z => hb (Option.some.inj z).symm
  have own : ∀ (j : Nat) (t : Sl), (ρ.set i (some s'))[j]? = some (some t) → t.own = true → ∃ t', ρ[j]? = some (some t') ∧ t'.own = true := fun j t e o => by
    rcases set_get e with ⟨rfl, z⟩ | ⟨_, z⟩
    · cases z
      refine ⟨_, hi, ?_⟩
      rcases hk with ⟨_, rfl, _⟩ | ⟨_, _, rfl⟩
      · rfl
      · cases o
    · exact ⟨t, z, o⟩
  refine ⟨⟨E.gr.b0.trans g.b0, fun b o hb nt hio => ?_, fun b hb h0 => ?_, fun b hb => g.st b (E.gr.st b hb)⟩, tt, e, by rw [List.length_set]; exact E.len, fun j t e1 => ?_, fun j k t u b hjk e1 e2 o1 o2 y1 y2 => ?_, fun b hb => ?_, fun j kvs e1 => ?_⟩
  · have : b ≠ a := fun z => by
      subst z
      rcases h4 with ⟨q, _⟩ | q
      · rw [q] at hb
        cases hb
      · exact hio q
    exact keep b o this nt (E.gr.keep b o hb nt hio)
  · exact g.off b (E.still hb) (E.gr.off b hb h0)
  · rcases set_get e1 with ⟨rfl, z⟩ | ⟨hne, z⟩
    · cases z
      refine ⟨_, hv, ?_⟩
      rcases hk with ⟨_, rfl, rfl⟩ | ⟨_, rfl, rfl⟩
      · rcases h4 with ⟨q, _⟩ | q
        · exact ⟨a, ks', rfl, h3', q, ha, hd⟩
        · obtain ⟨b, ks, e', q1, q2, q3, q4⟩ := hsl
          cases e'
          exact ⟨a, ks', rfl, h3', q2, ha, hd⟩
      · obtain ⟨b, ks, e', q1, q2, q3, q4⟩ := hsl
        cases e'
        exact ⟨a, ks', rfl, h3', q2, ha, hd⟩
    · obtain ⟨w, y1, y2⟩ := E.sl j t z
      refine ⟨w, y1, ?_⟩
      have away : ∀ c, w = .ref c → t.mut = true → F.H c = none ∨ F.io = some c → t.own = true ∨ (∃ k, t = .io k) → c ≠ a := fun c ec tm hc ht z' => by
        subst ec z'
        rcases h4 with ⟨q, so⟩ | q
        · rcases ht with ht | ⟨k, rfl⟩
          · exact E.sep j i _ _ c hne z hi ht so y1 hv
          · obtain ⟨c', us, e', q1, q2, _⟩ := y2
            cases e'
            exact (E.io c q2).2.2 q
        · obtain ⟨x1, ⟨kv, x2⟩, x3⟩ := E.io c q
          rcases ht with ht | ⟨k, rfl⟩
          · have : F.H c = none := by
              cases t with
              | fr d => cases ht
              | ol es => obtain ⟨c', us, e', q1, q2, _⟩ := y2; cases e'; exact q2
              | od es => obtain ⟨c', us, e', q1, q2, _⟩ := y2; cases e'; exact q2
              | raw w _ => cases ht
              | io es => cases ht
            exact x3 this
          · -- both io: the same slot
            have hj0 : s.own = false ∨ s.own = true := by cases s.own <;> simp
            rcases hk with ⟨_, rfl, rfl⟩ | ⟨_, rfl, rfl⟩
            · obtain ⟨b, ks, e', q1, q2, q3, q4⟩ := hsl
              cases e'
              exact x3 q2
            · exact hne ((E.io1 j k z).trans (E.io1 i _ hi).symm)
      cases t with
      | fr d => exact Da.mono g.b0 y2
      | ol es =>
        obtain ⟨c, us, rfl, q1, q2, q3, q4⟩ := y2
        exact ⟨c, us, rfl, g.off c (by show H c ≠ none; rw [q3]; exact fun z => nomatch z) q1, q2, keep c _ (away c rfl rfl (.inl q2) (.inl rfl)) (nt_lst _) q3, q4.mono g.b0⟩
      | od es =>
        obtain ⟨c, us, rfl, q1, q2, q3, q4⟩ := y2
        exact ⟨c, us, rfl, g.off c (by show H c ≠ none; rw [q3]; exact fun z => nomatch z) q1, q2, keep c _ (away c rfl rfl (.inl q2) (.inl rfl)) (nt_dK _) q3, q4.mono g.b0⟩
      | raw w _ => exact y2
      | io es =>
        obtain ⟨c, us, rfl, q1, q2, q3, q4⟩ := y2
        exact ⟨c, us, rfl, g.off c (by show H c ≠ none; rw [q3]; exact fun z => nomatch z) q1, q2, keep c _ (away c rfl rfl (.inr q2) (.inr ⟨_, rfl⟩)) (nt_dK _) q3, q4.mono g.b0⟩
  · obtain ⟨t', q1, q2⟩ := own j t e1 o1
    obtain ⟨u', q3, q4⟩ := own k u e2 o2
    exact E.sep j k t' u' b hjk q1 q3 q2 q4 y1 y2
  · obtain ⟨y1, ⟨kvs, y2⟩, y3⟩ := E.io b hb
    by_cases hi0 : i = 0
    · subst hi0
      rw [hi] at y2
      cases y2
      rcases hk with ⟨_, q, _⟩ | ⟨_, _, rfl⟩
      · cases q
      · exact ⟨y1, ⟨kvs', List.getElem?_set_self hli⟩, y3⟩
    · exact ⟨y1, ⟨kvs, by rw [List.getElem?_set_ne hi0]; exact y2⟩, y3⟩
  · rcases set_get e1 with ⟨rfl, e2⟩ | ⟨hne, e2⟩
    · cases e2
      rcases hk with ⟨_, rfl, q⟩ | ⟨_, rfl, q⟩
      · cases q
      · exact E.io1 _ _ hi
    · exact E.io1 j kvs e2
end
end DW

set_option Elab.async false
set_option linter.all false
set_option maxRecDepth 100000
set_option maxHeartbeats 4000000
/-! DW3: expressions over data -/
namespace DW
open PySem L2

/-! ### data as the library's data -/
mutual
def toPy : Dt → PyData
  | .non => .none
  | .bl b => .bool b
  | .int i => .int i
  | .str x => .str x
  | .lst xs => .list (toPyAll xs)
  | .tup xs => .tuple (toPyAll xs)
  | .dct kvs => .dict (toPyKv kvs)
  | .scr ns => .list (ns.map PyData.int)
  | .xo _ _ _ => .none
def toPyAll : List Dt → List PyData
  | [] => []
  | d :: ds => toPy d :: toPyAll ds
def toPyKv : List (Key × Dt) → List (PyData × PyData)
  | [] => []
  | (k, d) :: ds => ((match k with | .inl i => .int i | .inr x => .str x), toPy d) :: toPyKv ds
end
theorem toPyAll_map : ∀ ds : List Dt, toPyAll ds = ds.map toPy
  | [] => by simp [toPyAll]
  | d :: ds => by simp [toPyAll, toPyAll_map ds]
mutual
/-- no dict within -/
def plainD : Dt → Bool
  | .lst xs => plainAll xs
  | .tup xs => plainAll xs
  | .dct _ => false
  | .non => true
  | .bl _ => true
  | .int _ => true
  | .str _ => true
  | .scr _ => true
  | .xo _ _ _ => false
def plainAll : List Dt → Bool
  | [] => true
  | d :: ds => plainD d && plainAll ds
end
theorem dpInts {K : PySem.W.Frag} {H : Hp} : ∀ ns : List Int, DpAll K H (ns.map V.int) (ns.map PyData.int)
  | [] => .nil
  | n :: ns => .cons (.int n) (dpInts ns)
mutual
theorem Da.dp {K : PySem.W.Frag} {H : Hp} : ∀ {v : V} {d : Dt}, Da K H v d → plainD d = true → Dp K H v (toPy d)
  | _, _, .non, _ => .non
  | _, _, .bl b, _ => .bl b
  | _, _, .int i, _ => .int i
  | _, _, .str x, _ => .str x
  | _, _, .lst h1 h2, p => .lst (SqL.of h1) (DaAll.dp h2 (by simpa [plainD] using p))
  | _, _, .tup h1 h2, p => .tup h1 (DaAll.dp h2 (by simpa [plainD] using p))
  | _, _, .dct _ _, p => by simp [plainD] at p
  | _, _, .scr h, _ => .lst h (dpInts _)
  | _, _, .xo _ _ _, p => by simp [plainD] at p
theorem DaAll.dp {K : PySem.W.Frag} {H : Hp} : ∀ {v : List V} {d : List Dt}, DaAll K H v d → plainAll d = true → DpAll K H v (toPyAll d)
  | _, _, .nil, _ => .nil
  | _, _, .cons h1 h2, p => by
    simp only [plainAll, Bool.and_eq_true] at p
    exact .cons (Da.dp h1 p.1) (DaAll.dp h2 p.2)
end
def shp (d : Dt) : Bool := plainD d && SeqAt.shaped (toPy d)
def eqt (d e : Dt) : Bool := PyData.eqv (toPy d) (toPy e)

section
variable {K : PySem.W.Frag} {F : Fm} {H0 H H0' H' : Hp} {σ : L2.St} {ρ : Rho} {v : V} {d : Dt} {s : Sl} {i : Nat} {a p : Addr} {o : HO}
/-! ### freezing a slot -/
theorem En.frz (E : En K F H0 H σ ρ) {o : HO} {dd : Dt} (hi : ρ[i]? = some (some s)) (hs : s.own = true) (hv : σ[i]? = some (some (.ref a))) (h0 : H0 a = none) (hF : F.H a = none) (hH : H a = some o) (nt : NT o)
    (hd : Da K (upd H0 a o) (.ref a) dd) : En K F (upd H0 a o) H σ (ρ.set i (some (.fr dd))) ∧ Mv σ ρ (ρ.set i (some (.fr dd))) H0 H (upd H0 a o) H := by
  have sm : Same H0 (upd H0 a o) := fun b u hb => by
    rw [upd_ne (ne_of_none hb h0)]
    exact hb
  have owner : ∀ (j : Nat) (t : Sl), (ρ.set i (some (.fr dd)))[j]? = some (some t) → t.mut = true → j ≠ i ∧ ρ[j]? = some (some t) := fun j t e m => by
    rcases set_get e with ⟨rfl, z⟩ | ⟨hne, z⟩
    · cases z
      cases m
    · exact ⟨hne, z⟩
  have na : ∀ p ∈ tT K, p.1 ≠ a := fun p hp z => by
    obtain ⟨_, ps, h2, _⟩ := E.tb p hp
    rw [z, hH] at h2
    exact nt ps (Option.some.inj h2)
  refine ⟨⟨⟨E.gr.b0.trans sm, E.gr.keep, fun b hb h => ?_, E.gr.st⟩, fun p hp => ⟨by rw [upd_ne (na p hp)]; exact (E.tb p hp).1, (E.tb p hp).2⟩, fun b u hb => ?_, by rw [List.length_set]; exact E.len, fun j t e => ?_, fun j k t u b hjk e1 e2 o1 o2 y1 y2 => ?_, fun b hb => ?_, fun j kvs e => ?_⟩, ⟨sm, fun b u hb _ _ => hb, fun b hb h hn => ?_, fun b ⟨j, t, e, m, y⟩ => ?_, fun _ h => h⟩⟩
  · have : b ≠ a := fun z => hb (z ▸ hF)
    rw [upd_ne this]
    exact E.gr.off b hb h
  · by_cases hba : b = a
    · subst hba
      rw [upd_same] at hb
      cases hb
      exact hH
    · rw [upd_ne hba] at hb
      exact E.ex b u hb
  · rcases set_get e with ⟨rfl, z⟩ | ⟨hne, z⟩
    · cases z
      exact ⟨_, hv, hd⟩
    · obtain ⟨w, y1, y2⟩ := E.sl j t z
      refine ⟨w, y1, ?_⟩
      cases t with
      | fr d => exact Da.mono sm y2
      | ol es =>
        obtain ⟨c, us, rfl, q1, q2, q3, q4⟩ := y2
        have : c ≠ a := fun z' => E.sep j i _ _ a hne z hi rfl hs (z' ▸ y1) hv
        exact ⟨c, us, rfl, by rw [upd_ne this]; exact q1, q2, q3, q4.mono sm⟩
      | od es =>
        obtain ⟨c, us, rfl, q1, q2, q3, q4⟩ := y2
        have : c ≠ a := fun z' => E.sep j i _ _ a hne z hi rfl hs (z' ▸ y1) hv
        exact ⟨c, us, rfl, by rw [upd_ne this]; exact q1, q2, q3, q4.mono sm⟩
      | raw w _ => exact y2
      | io es =>
        obtain ⟨c, us, rfl, q1, q2, q3, q4⟩ := y2
        have : c ≠ a := fun z' => (E.io c q2).2.2 (z' ▸ hF)
        exact ⟨c, us, rfl, by rw [upd_ne this]; exact q1, q2, q3, q4.mono sm⟩
  · obtain ⟨_, q1⟩ := owner j t e1 (Sl.mut_of_own o1)
    obtain ⟨_, q2⟩ := owner k u e2 (Sl.mut_of_own o2)
    exact E.sep j k t u b hjk q1 q2 o1 o2 y1 y2
  · obtain ⟨y1, ⟨kvs, y2⟩, y3⟩ := E.io b hb
    have hi0 : i ≠ 0 := fun z => by
      subst z
      rw [hi] at y2
      cases y2
      cases hs
    exact ⟨y1, ⟨kvs, by rw [List.getElem?_set_ne hi0]; exact y2⟩, y3⟩
  · rcases set_get e with ⟨rfl, e2⟩ | ⟨hne, e2⟩
    · cases e2
    · exact E.io1 j kvs e2
  · have : b ≠ a := fun z => hn ⟨i, s, hi, Sl.mut_of_own hs, z ▸ hv⟩
    rw [upd_ne this]
    exact h
  · exact ⟨j, t, (owner j t e m).2, m, y⟩
end

/-! ### expressions -/
def cst (d : Dt) : Rho → R Dt := fun ρ => .ok d ρ
def var (i : Nat) : Rho → R Dt := fun ρ => match (ρ[i]? : Option (Option Sl)) with
  | some (some (.fr d)) => .ok d ρ
  | some (some (.ol xs)) => .ok (.lst xs) (ρ.set i (some (.fr (.lst xs))))
  | some (some (.od kvs)) => .ok (.dct kvs) (ρ.set i (some (.fr (.dct kvs))))
  | _ => .bad
def bin (g : Dt → Dt → Option Dt) (f1 f2 : Rho → R Dt) : Rho → R Dt := fun ρ => (f1 ρ).bind fun d ρ1 => (f2 ρ1).bind fun e ρ2 => match g d e with
  | some z => .ok z ρ2
  | none => .bad
def un (g : Dt → Option Dt) (f1 : Rho → R Dt) : Rho → R Dt := fun ρ => (f1 ρ).bind fun d ρ1 => match g d with
  | some z => .ok z ρ1
  | none => .bad
/-- a name's own object, read where it stands -/
def pk (i : Nat) (ρ : Rho) : Option Dt := match (ρ[i]? : Option (Option Sl)) with
  | some (some (.fr d)) => some d
  | some (some (.ol xs)) => some (.lst xs)
  | some (some (.od kvs)) => some (.dct kvs)
  | some (some (.io kvs)) => some (.dct kvs)
  | _ => none
def pkF (i : Nat) : Rho → R Dt := fun ρ => match pk i ρ with
  | some d => .ok d ρ
  | none => .bad
/-- the name stands first, its object is read when all is there -/
def binP (g : Dt → Dt → Option Dt) (i : Nat) (f2 : Rho → R Dt) : Rho → R Dt := fun ρ => match pk i ρ with
  | none => .bad
  | some _ => (f2 ρ).bind fun e ρ2 => match pk i ρ2 with
    | some d => match g d e with
      | some z => .ok z ρ2
      | none => .bad
    | none => .bad
/-- what is read of a container -/
def Pk (K : PySem.W.Frag) (H0 H : Hp) (v : V) : Dt → Prop
  | .lst ds => ∃ a vs, v = .ref a ∧ H a = some (.lst vs) ∧ DaAll K H0 vs ds
  | .dct kvs => ∃ a ks, v = .ref a ∧ H a = some (.dK ks) ∧ DaKv K H0 ks kvs
  | d => Da K H0 v d
def tK (g : Gx) (F : Fm) (W : WX) (f : Rho → R Dt) : TE := fun σ H Q => ∃ H0 ρ, En g.K F H0 H σ ρ ∧ match f ρ with
  | .ok d ρ' => ∀ v H0' H', En g.K F H0' H' σ ρ' → Mv σ ρ ρ' H0 H H0' H' → Pk g.K H0' H' v d → Q v H'
  | .ex e ρ' => XW g F W σ e ρ'
  | .bad => False
def DK (X : Cx) (W : WX) (e : Expr) (f : Rho → R Dt) : Prop := ∀ F, PE X e (tK (gx X) F W f)
/-- of the data of two things, the base's data of a new one -/
def OpD (K : PySem.W.Frag) (r : R2) (g : Dt → Dt → Option Dt) : Prop := ∀ x y d e z H0 H, Same H0 H → Pk K H0 H x d → Pk K H0 H y e → g d e = some z → ∀ Q : VK, (∀ v H0' H', Gr ⟨H0, H, none⟩ H0' H' → Same H0' H' → Da K H0' v z → Q v H') → r x y H Q
def UnD (K : PySem.W.Frag) (r : V → Hp → VK → Prop) (g : Dt → Option Dt) : Prop := ∀ x d z H0 H, Same H0 H → Pk K H0 H x d → g d = some z → ∀ Q : VK, (∀ v H0' H', Gr ⟨H0, H, none⟩ H0' H' → Same H0' H' → Da K H0' v z → Q v H') → r x H Q

section
variable {K : PySem.W.Frag} {F : Fm} {H0 H H0' H' : Hp} {σ : L2.St} {ρ : Rho} {v : V} {d : Dt} {s : Sl} {i : Nat} {a p : Addr} {o : HO} {g : Gx} {W : WX}
theorem Da.pk (e : Same H0 H) (h : Da K H0 v d) : Pk K H0 H v d := by
  cases d with
  | lst ds =>
    cases h with
    | lst h1 h2 => exact ⟨_, _, rfl, e _ _ h1, h2⟩
  | dct ds =>
    cases h with
    | dct h1 h2 => exact ⟨_, _, rfl, e _ _ h1, h2⟩
  | _ => exact h
theorem Pk.up (e : Same H0 H) (h : Pk K H0 H v d) : Da K H v d := by
  cases d with
  | lst ds =>
    obtain ⟨a, vs, rfl, h1, h2⟩ := h
    exact .lst h1 (h2.mono e)
  | dct ds =>
    obtain ⟨a, vs, rfl, h1, h2⟩ := h
    exact .dct h1 (h2.mono e)
  | non => exact Da.mono e h
  | bl _ => exact Da.mono e h
  | int _ => exact Da.mono e h
  | str _ => exact Da.mono e h
  | tup _ => exact Da.mono e h
  | scr _ => exact Da.mono e h
  | xo _ _ _ => exact Da.mono e h
theorem pk_at (E : En K F H0 H σ ρ) (h : pk i ρ = some d) : ∃ v, σ[i]? = some (some v) ∧ Pk K H0 H v d := by
  unfold pk at h
  split at h
  · rename_i e
    cases h
    obtain ⟨v, h1, h2⟩ := E.sl i _ e
    exact ⟨v, h1, Da.pk E.ex h2⟩
  · rename_i e
    cases h
    obtain ⟨v, h1, a, vs, rfl, h2, h3, h4, h5⟩ := E.sl i _ e
    exact ⟨_, h1, a, vs, rfl, h4, h5⟩
  · rename_i e
    cases h
    obtain ⟨v, h1, a, vs, rfl, h2, h3, h4, h5⟩ := E.sl i _ e
    exact ⟨_, h1, a, vs, rfl, h4, h5⟩
  · rename_i e
    cases h
    obtain ⟨v, h1, a, vs, rfl, h2, h3, h4, h5⟩ := E.sl i _ e
    exact ⟨_, h1, a, vs, rfl, h4, h5⟩
  · cases h
theorem tD_var (h : tD g F W (var i) σ H Q) : tVar i σ H Q := by
  obtain ⟨H0, ρ, E, q⟩ := h
  unfold var at q
  split at q
  · rename_i d ρ' e0
    split at e0
    · rename_i e
      cases e0
      obtain ⟨v, h1, h2⟩ := E.sl i _ e
      exact ⟨v, h1, q v H0 H E Mv.refl h2⟩
    · rename_i e
      cases e0
      obtain ⟨v, h1, a, vs, rfl, h2, h3, h4, h5⟩ := E.sl i _ e
      have sm : Same H0 (upd H0 a (.lst vs)) := fun b u hb => by
        rw [upd_ne (ne_of_none hb h2)]
        exact hb
      have hd : Da g.K (upd H0 a (.lst vs)) (.ref a) (.lst _) := .lst upd_same (h5.mono sm)
      obtain ⟨q1, q2⟩ := E.frz e rfl h1 h2 h3 h4 (nt_lst _) hd
      exact ⟨_, h1, q _ _ _ q1 q2 hd⟩
    · rename_i e
      cases e0
      obtain ⟨v, h1, a, vs, rfl, h2, h3, h4, h5⟩ := E.sl i _ e
      have sm : Same H0 (upd H0 a (.dK vs)) := fun b u hb => by
        rw [upd_ne (ne_of_none hb h2)]
        exact hb
      have hd : Da g.K (upd H0 a (.dK vs)) (.ref a) (.dct _) := .dct upd_same (h5.mono sm)
      obtain ⟨q1, q2⟩ := E.frz e rfl h1 h2 h3 h4 (nt_dK _) hd
      exact ⟨_, h1, q _ _ _ q1 q2 hd⟩
    · cases e0
  · rename_i e0
    split at e0 <;> cases e0
  · exact q.elim
theorem tK_pk (h : tK g F W (pkF i) σ H Q) : tVar i σ H Q := by
  obtain ⟨H0, ρ, E, q⟩ := h
  unfold pkF at q
  cases e : pk i ρ with
  | none =>
    rw [e] at q
    exact q.elim
  | some d =>
    rw [e] at q
    obtain ⟨v, h1, h2⟩ := pk_at E e
    exact ⟨v, h1, q v H0 H E Mv.refl h2⟩
/-- what came behind a Gr -/
theorem En.post {ρ1 : Rho} {B0 B : Hp} (E : En K F H0 H σ ρ1) (m : Mv σ ρ ρ1 B0 B H0 H) (g : Gr ⟨H0, H, none⟩ H0' H') (e : Same H0' H') : En K F H0' H' σ ρ1 ∧ Mv σ ρ ρ1 B0 B H0' H' := ⟨E.grow g e, m.trans g.mv⟩
theorem En.postW {ρ1 : Rho} {B0 B : Hp} (E : En K F H0 H σ ρ1) (m : Mv σ ρ ρ1 B0 B H0 H) (g : Gw ⟨H0, H, none⟩ H0' H') (t : TbOk K H0' H') (e : Same H0' H') : En K F H0' H' σ ρ1 ∧ Mv σ ρ ρ1 B0 B H0' H' := ⟨E.growW g t e, m.trans g.mv⟩
theorem tK_of (h : tK g F W f σ H Q) : tD g F W f σ H Q := by
  obtain ⟨H0, ρ, E, q⟩ := h
  refine ⟨H0, ρ, E, ?_⟩
  cases e : f ρ with
  | ok d ρ' =>
    rw [e] at q
    exact fun v H0' H' E' m hd => q v H0' H' E' m (Da.pk E'.ex hd)
  | ex x ρ' =>
    rw [e] at q
    exact q
  | bad =>
    rw [e] at q
    exact q
theorem tOp_bin {r : R2} {gg : Dt → Dt → Option Dt} {f1 f2 : Rho → R Dt} (hr : OpD g.K r gg) {σ : L2.St} {H : Hp} {Q : VK} (h : tD g F W (bin gg f1 f2) σ H Q) : tOp r (tD g F W f1) (tK g F W f2) σ H Q := by
  obtain ⟨H0, ρ, E, q⟩ := h
  unfold bin at q
  refine ⟨H0, ρ, E, ?_⟩
  cases e1 : f1 ρ with
  | ok d ρ1 =>
    rw [e1] at q
    intro x H1 B1 E1 m1 d1
    refine ⟨H1, ρ1, E1, ?_⟩
    dsimp only [R.bind] at q
    cases e2 : f2 ρ1 with
    | ok e ρ2 =>
      rw [e2] at q
      intro y H2 B2 E2 m2 d2
      dsimp only [R.bind] at q
      cases e3 : gg d e with
      | some z =>
        rw [e3] at q
        refine hr x y d e z H2 B2 E2.ex (Da.pk E2.ex (d1.mono m2.b0)) d2 e3 Q fun v H3 B3 g3 s3 d3 => ?_
        obtain ⟨q1, q2⟩ := E2.post (m1.trans m2) g3 s3
        exact q v H3 B3 q1 q2 d3
      | none =>
        rw [e3] at q
        exact q.elim
    | ex x ρ' =>
      rw [e2] at q
      exact q
    | bad =>
      rw [e2] at q
      exact q
  | ex x ρ' =>
    rw [e1] at q
    exact q
  | bad =>
    rw [e1] at q
    exact q
theorem tOp_binP {r : R2} {gg : Dt → Dt → Option Dt} {f2 : Rho → R Dt} (hr : OpD g.K r gg) {σ : L2.St} {H : Hp} {Q : VK} (h : tD g F W (binP gg i f2) σ H Q) : tOp r (tVar i) (tK g F W f2) σ H Q := by
  obtain ⟨H0, ρ, E, q⟩ := h
  unfold binP at q
  cases e1 : pk i ρ with
  | none =>
    rw [e1] at q
    exact q.elim
  | some d0 =>
    rw [e1] at q
    obtain ⟨x, hx, _⟩ := pk_at E e1
    refine ⟨x, hx, H0, ρ, E, ?_⟩
    dsimp only [R.bind] at q
    cases e2 : f2 ρ with
    | ok e ρ2 =>
      rw [e2] at q
      intro y H2 B2 E2 m2 d2
      dsimp only [R.bind] at q
      cases e3 : pk i ρ2 with
      | none =>
        rw [e3] at q
        exact q.elim
      | some d =>
        rw [e3] at q
        dsimp only at q
        obtain ⟨x', hx', px⟩ := pk_at E2 e3
        rw [hx] at hx'
        cases hx'
        cases e4 : gg d e with
        | some z =>
          rw [e4] at q
          refine hr x y d e z H2 B2 E2.ex px d2 e4 Q fun v H3 B3 g3 s3 d3 => ?_
          obtain ⟨q1, q2⟩ := E2.post m2 g3 s3
          exact q v H3 B3 q1 q2 d3
        | none =>
          rw [e4] at q
          exact q.elim
    | ex x ρ' =>
      rw [e2] at q
      exact q
    | bad =>
      rw [e2] at q
      exact q
theorem tUn_un {r : V → Hp → VK → Prop} {gg : Dt → Option Dt} {f1 : Rho → R Dt} (hr : UnD g.K r gg) {σ : L2.St} {H : Hp} {Q : VK} (h : tD g F W (un gg f1) σ H Q) : tUn r (tK g F W f1) σ H Q := by
  obtain ⟨H0, ρ, E, q⟩ := h
  unfold un at q
  refine ⟨H0, ρ, E, ?_⟩
  cases e1 : f1 ρ with
  | ok d ρ1 =>
    rw [e1] at q
    intro x H1 B1 E1 m1 d1
    dsimp only [R.bind] at q
    cases e3 : gg d with
    | some z =>
      rw [e3] at q
      refine hr x d z H1 B1 E1.ex d1 e3 Q fun v H3 B3 g3 s3 d3 => ?_
      obtain ⟨q1, q2⟩ := E1.post m1 g3 s3
      exact q v H3 B3 q1 q2 d3
    | none =>
      rw [e3] at q
      exact q.elim
  | ex x ρ' =>
    rw [e1] at q
    exact q
  | bad =>
    rw [e1] at q
    exact q
end
end DW

set_option Elab.async false
set_option linter.all false
set_option maxRecDepth 100000
set_option maxHeartbeats 4000000
/-! DW4: operators over data -/
namespace DW
open PySem L2

section
variable {K : PySem.W.Frag} {F : Fm} {H0 H H0' H' : Hp} {v : V} {d : Dt} {Q : VK}
theorem al_lst {zs : List V} {ds : List Dt} (e : Same H0 H) (hd : DaAll K H0 zs ds) (k : ∀ v H0' H', Gr ⟨H0, H, none⟩ H0' H' → Same H0' H' → Da K H0' v (.lst ds) → Q v H') : ∀ p, H p = none → Q (.ref p) (upd H p (.lst zs)) :=
  fun p hp => k _ _ _ (gr_new hp e) (same_new hp e) (.lst upd_same (hd.mono (gr_new (o := .lst zs) hp e).b0))
theorem al_tup {zs : List V} {ds : List Dt} (e : Same H0 H) (hd : DaAll K H0 zs ds) (k : ∀ v H0' H', Gr ⟨H0, H, none⟩ H0' H' → Same H0' H' → Da K H0' v (.tup ds) → Q v H') : ∀ p, H p = none → Q (.ref p) (upd H p (.tup zs)) :=
  fun p hp => k _ _ _ (gr_new hp e) (same_new hp e) (.tup (SqT.of upd_same) (hd.mono (gr_new (o := .tup zs) hp e).b0))
theorem sc (e : Same H0 H) (hd : Da K H0 v d) (k : ∀ v H0' H', Gr ⟨H0, H, none⟩ H0' H' → Same H0' H' → Da K H0' v d → Q v H') : Q v H := k v H0 H (Gr.refl H0 H none) e hd
end

section
variable {X : Cx}
theorem opr_or {f : Value → Value → Sem Value} {r r' : R2} (h : OpR X f r) (h' : OpR X f r') : OpR X f (fun x y H Q => r x y H Q ∨ r' x y H Q) := by
  intro pins s σ H x y v u Q I rx ry q
  rcases q with q | q
  · exact h pins s σ H x y v u Q I rx ry q
  · exact h' pins s σ H x y v u Q I rx ry q
theorem callr_or {f : Value} {r r' : List V → Hp → VK → Prop} (h : CallR X f r) (h' : CallR X f r') : CallR X f (fun x H Q => r x H Q ∨ r' x H Q) := by
  intro pins s σ H x v Q I rx q
  rcases q with q | q
  · exact h pins s σ H x v Q I rx q
  · exact h' pins s σ H x v Q I rx q

/-! ### + -/
def addD : Dt → Dt → Option Dt
  | .int a, .int b => some (.int (a + b))
  | .str a, .str b => if a.length + b.length ≤ 1000000 then some (.str (a ++ b)) else none
  | .lst a, .lst b => if a.length + b.length ≤ 1000000 then some (.lst (a ++ b)) else none
  | .tup a, .tup b => if a.length + b.length ≤ 1000000 then some (.tup (a ++ b)) else none
  | _, _ => none
def rAddA (K : PySem.W.Frag) : R2 := fun x y H Q => rI0 (fun i j => .int (i + j)) x y H Q ∨ (∃ i j, x = .str i ∧ y = .str j ∧ i.length + j.length ≤ sizeLine ∧ Q (.str (i ++ j)) H) ∨ rCat x y H Q ∨ rCatA K x y H Q
theorem opr_add : OpR X (binaryOp .Add) (rAddA X.K) := opr_or op_add (opr_or op_add_str (opr_or op_cat op_catA))
theorem sizeM {n : Nat} (h : n ≤ 1000000) : n ≤ sizeLine := Nat.le_trans h (by decide)
theorem opd_add (K : PySem.W.Frag) : OpD K (rAddA K) addD := by
  intro x y d e z H0 H s hx hy hg Q k
  unfold addD at hg
  split at hg
  · cases hg
    cases hx
    cases hy
    exact .inl ⟨_, _, rfl, rfl, sc s (.int _) k⟩
  · split at hg
    · rename_i hl
      cases hg
      cases hx
      cases hy
      exact .inr (.inl ⟨_, _, rfl, rfl, sizeM hl, sc s (.str _) k⟩)
    · cases hg
  · split at hg
    · rename_i hl
      cases hg
      obtain ⟨a, vs, rfl, h1, h2⟩ := hx
      obtain ⟨b, ws, rfl, h3, h4⟩ := hy
      exact .inr (.inr (.inl ⟨a, b, vs, ws, rfl, rfl, h1, h3, by rw [h2.length, h4.length]; exact sizeM hl, al_lst s (h2.append h4) k⟩))
    · cases hg
  · split at hg
    · rename_i hl
      cases hg
      cases hx with
      | tup h1 h2 =>
        cases hy with
        | tup h3 h4 =>
          refine .inr (.inr (.inr ⟨_, _, _, _, rfl, rfl, seqT_mono s h1, seqT_mono s h3, by rw [h2.length, h4.length]; exact sizeM hl, fun z => ?_, fun z z' => ?_, fun _ _ => al_tup s (h2.append h4) k⟩))
          · subst z
            cases h2
            exact sc s (.tup h3 h4) k
          · subst z'
            cases h4
            rw [List.append_nil] at k
            exact sc s (.tup h1 h2) k
    · cases hg
  · cases hg

/-! ### -, *, //, %, ** -/
def subD : Dt → Dt → Option Dt
  | .int a, .int b => some (.int (a - b))
  | _, _ => none
theorem opd_sub (K : PySem.W.Frag) : OpD K (rI0 fun i j => .int (i - j)) subD := by
  intro x y d e z H0 H s hx hy hg Q k
  unfold subD at hg
  split at hg
  · cases hg
    cases hx
    cases hy
    exact ⟨_, _, rfl, rfl, sc s (.int _) k⟩
  · cases hg
def mulOk (a b : Int) : Bool := decide (a.natAbs < 2 ^ 64) || decide (b.natAbs < 2 ^ 64) || decide (a.natAbs.log2 + b.natAbs.log2 < 1000000)
/-- a tuple once, or none of nothing: the very one -/
theorem tuple_mul1 (l : Addr) (items : Array Value) (n : Nat) (sl : Array (Option Value)) (dd : Option Addr) (x : Int) (u : Tok) (c0 : (decide (x < -(2 ^ 63)) || decide (x ≥ 2 ^ 63)) = false) (c1 : (items.isEmpty || x == 1) = true) :
    Meets (Builtin.«tuple.__mul__» ⟨[.ref l, .int x u], []⟩) (fun _ R s => s.heap.get? l = some { cls := .type "tuple", dict := dd, data := .seq items n, slots := sl } ∧ R (.ok (.ret (Value.ref l))) s) :=
  .of_wp fun prog w A R s h => by
    obtain ⟨hp, g, d, tk, os⟩ := s
    obtain ⟨hl, h⟩ := h
    have f1 := AutoSeq1.idx_int
    wp_walk using wpAny_loadPart' hl
    repeat (first
      | (refine wpAny_ite_false (decide_eq_false (by rw [c0]; exact Bool.false_ne_true)) ?_; wp_walk using wpAny_loadPart' hl)
      | (refine wpAny_ite_true (decide_eq_true c1) ?_; wp_walk using wpAny_loadPart' hl))
    exact ⟨_, rfl, h⟩
def rRepT1 (K : PySem.W.Frag) : R2 := fun x y H Q => ∃ l k xs, x = .ref l ∧ y = .int k ∧ SqT K H l xs ∧ (xs = [] ∨ k = 1) ∧ -1000000 ≤ k ∧ k ≤ 1000000 ∧ Q (.ref l) H
theorem op_repT1 : OpR X (binaryOp .Mult) (rRepT1 X.K) := by
  intro pins s σ H x y v u Q I rx ry h
  obtain ⟨l, k, xs, rfl, rfl, hT, h1, h2, h3, q⟩ := h
  cases rx
  obtain ⟨t, rfl⟩ := ry
  obtain ⟨its, r, ⟨⟨cls, dd, data, sl⟩, ho, hc, n, hd⟩, hs⟩ := I.tuple hT
  simp only at hc hd
  subst hc hd
  have c0 : (decide (k < -(2 ^ 63)) || decide (k ≥ 2 ^ 63)) = false := by
    rw [decide_eq_false (by omega), decide_eq_false (by omega)] <;> rfl
  have c1 : (its.toArray.isEmpty || k == 1) = true := by
    rcases h1 with h1 | h1
    · subst h1
      cases r
      rfl
    · subst h1
      simp
  refine wpAny_binaryOp_repeat_ref (T := "tuple") (U := "int") (by decide) ⟨_, ho, rfl⟩ (fun s' => typeIs_int s' k t) noFill_tuple_mul F.fills_int_mul F.slot_int_rmul repeat_tuple F.slot_int_index.lookup
    (call_meets F.slot_int_rmul (typeIs_int s k t) F.entry_int_rmul (F.args_int_rmul_2 _ _) (int_rmul_tuple k t l its.toArray n dd sl)
      ⟨ho, rfl, ⟨_, ho, rfl⟩, call_meets F.slot_tuple_mul ⟨_, ho, rfl⟩ F.entry_tuple_mul (F.args_tuple_mul_2 _ _) (tuple_mul1 l its.toArray n sl dd k t c0 c1) ⟨ho, ?_⟩⟩)
  exact ⟨.ref l, H, I, rfl, q⟩
def mulD : Dt → Dt → Option Dt
  | .int a, .int b => if mulOk a b = true then some (.int (a * b)) else none
  | .lst xs, .int k => if 0 ≤ k ∧ k ≤ 1000 ∧ xs.length ≤ 1000 then some (.lst (List.replicate k.toNat xs).flatten) else none
  | .tup xs, .int k => if 2 ≤ k ∧ k ≤ 1000 ∧ xs.length ≤ 1000 ∧ xs ≠ [] then some (.tup (List.replicate k.toNat xs).flatten) else if k = 1 then some (.tup xs) else none
  | _, _ => none
def rMulA (K : PySem.W.Frag) : R2 := fun x y H Q => rI CMul (fun i j => .int (i * j)) x y H Q ∨ rI CMulW (fun i j => .int (i * j)) x y H Q ∨ rRep x y H Q ∨ rRepT K x y H Q ∨ rRepT1 K x y H Q
theorem opr_mul : OpR X (binaryOp .Mult) (rMulA X.K) := opr_or op_mul (opr_or op_mulW (opr_or op_rep (opr_or op_repT op_repT1)))
theorem DaAll.rep {K : PySem.W.Frag} {H : Hp} {vs : List V} {ds : List Dt} (h : DaAll K H vs ds) : ∀ n : Nat, DaAll K H (List.replicate n vs).flatten (List.replicate n ds).flatten
  | 0 => .nil
  | n + 1 => by
    rw [List.replicate_succ, List.replicate_succ, List.flatten_cons, List.flatten_cons]
    exact h.append (h.rep n)
theorem opd_mul (K : PySem.W.Frag) : OpD K (rMulA K) mulD := by
  intro x y d e z H0 H s hx hy hg Q k
  unfold mulD at hg
  split at hg
  · split at hg
    · rename_i a b hm
      cases hg
      cases hx
      cases hy
      unfold mulOk at hm
      rw [Bool.or_eq_true, Bool.or_eq_true] at hm
      rcases hm with (hm | hm) | hm
      · have := of_decide_eq_true hm
        exact .inl ⟨_, _, rfl, rfl, .inl (by omega), sc s (.int _) k⟩
      · have := of_decide_eq_true hm
        exact .inl ⟨_, _, rfl, rfl, .inr (by omega), sc s (.int _) k⟩
      · have hm' : CMulW a b := of_decide_eq_true (p := a.natAbs.log2 + b.natAbs.log2 < 1000000) hm
        exact .inr (.inl ⟨_, _, rfl, rfl, hm', sc s (.int _) k⟩)
    · cases hg
  · split at hg
    · rename_i xs n hm
      cases hg
      obtain ⟨a, vs, rfl, h1, h2⟩ := hx
      cases hy
      refine .inr (.inr (.inl ⟨a, n, vs, rfl, rfl, h1, by omega, by omega, ?_, al_lst s (h2.rep _) k⟩))
      rw [h2.length]
      exact Nat.le_trans (Nat.mul_le_mul hm.2.2 (show n.toNat ≤ 1000 by omega)) (by decide)
    · cases hg
  · split at hg
    · rename_i xs n hm
      cases hg
      cases hx with
      | tup h1 h2 =>
        cases hy
        refine .inr (.inr (.inr (.inl ⟨_, n, _, rfl, rfl, seqT_mono s h1, fun z => ?_, hm.1, hm.2.1, by rw [h2.length]; exact hm.2.2.1, al_tup s (h2.rep _) k⟩)))
        subst z
        cases h2
        exact hm.2.2.2 rfl
    · split at hg
      · rename_i h1
        cases hg
        subst h1
        cases hx with
        | tup h1 h2 =>
          cases hy
          exact .inr (.inr (.inr (.inr ⟨_, 1, _, rfl, rfl, seqT_mono s h1, .inr rfl, by decide, by decide, sc s (.tup h1 h2) k⟩)))
      · cases hg
  · cases hg
def fdivD : Dt → Dt → Option Dt
  | .int a, .int b => if 0 < b ∧ b.natAbs.log2 < 9000 then some (.int (a / b)) else none
  | _, _ => none
theorem opd_fdiv (K : PySem.W.Frag) : OpD K (rI CDivW fun i j => .int (i / j)) fdivD := by
  intro x y d e z H0 H s hx hy hg Q k
  unfold fdivD at hg
  split at hg
  · split at hg
    · rename_i hm
      cases hg
      cases hx
      cases hy
      exact ⟨_, _, rfl, rfl, hm, sc s (.int _) k⟩
    · cases hg
  · cases hg
def modD : Dt → Dt → Option Dt
  | .int a, .int b => if 0 < b then some (.int (a % b)) else none
  | _, _ => none
theorem opd_mod (K : PySem.W.Frag) : OpD K (rI (fun _ j => 0 < j) fun i j => .int (i % j)) modD := by
  intro x y d e z H0 H s hx hy hg Q k
  unfold modD at hg
  split at hg
  · split at hg
    · rename_i hm
      cases hg
      cases hx
      cases hy
      exact ⟨_, _, rfl, rfl, hm, sc s (.int _) k⟩
    · cases hg
  · cases hg
def powD : Dt → Dt → Option Dt
  | .int a, .int b => if 0 ≤ b ∧ b ≤ 1000000 ∧ a.natAbs < 2 ^ 64 then some (.int (a ^ b.toNat)) else none
  | _, _ => none
theorem opd_pow (K : PySem.W.Frag) : OpD K (rI CPow fun i j => .int (i ^ j.toNat)) powD := by
  intro x y d e z H0 H s hx hy hg Q k
  unfold powD at hg
  split at hg
  · split at hg
    · rename_i hm
      cases hg
      cases hx
      cases hy
      exact ⟨_, _, rfl, rfl, hm, sc s (.int _) k⟩
    · cases hg
  · cases hg

/-! ### comparisons -/
def cmpD (p : Int → Int → Bool) : Dt → Dt → Option Dt
  | .int a, .int b => some (.bl (p a b))
  | _, _ => none
theorem opd_cmp (K : PySem.W.Frag) (p : Int → Int → Bool) : OpD K (rI0 fun i j => .bl (p i j)) (cmpD p) := by
  intro x y d e z H0 H s hx hy hg Q k
  unfold cmpD at hg
  split at hg
  · cases hg
    cases hx
    cases hy
    exact ⟨_, _, rfl, rfl, sc s (.bl _) k⟩
  · cases hg
abbrev ltD := cmpD fun i j => decide (i < j)
abbrev leD := cmpD fun i j => decide (i ≤ j)
abbrev gtD := cmpD fun i j => decide (j < i)
abbrev geD := cmpD fun i j => decide (j ≤ i)
def flatD : Dt → Bool
  | .non => true
  | .bl _ => true
  | .int _ => true
  | .str _ => true
  | _ => false
def toV : Dt → V
  | .non => .non
  | .bl b => .bl b
  | .int i => .int i
  | .str x => .str x
  | _ => .non
theorem Da.flat {K : PySem.W.Frag} {H : Hp} {v : V} {d : Dt} (h : Da K H v d) (f : flatD d = true) : v = toV d ∧ flatV v = true := by
  cases h <;> first | exact ⟨rfl, rfl⟩ | cases f
theorem Pk.flat {K : PySem.W.Frag} {H0 H : Hp} {v : V} {d : Dt} (h : Pk K H0 H v d) (f : flatD d = true) : v = toV d ∧ flatV v = true := by
  cases d <;> first | exact Da.flat h f | cases f
theorem DaAll.flat {K : PySem.W.Frag} {H : Hp} : ∀ {vs : List V} {ds : List Dt}, DaAll K H vs ds → ds.all flatD = true → vs = ds.map toV ∧ vs.all flatV = true
  | _, _, .nil, _ => ⟨rfl, rfl⟩
  | _, _, .cons h1 h2, f => by
    rw [List.all_cons, Bool.and_eq_true] at f
    obtain ⟨e1, e2⟩ := h1.flat f.1
    obtain ⟨e3, e4⟩ := h2.flat f.2
    refine ⟨by rw [e1, e3]; rfl, ?_⟩
    rw [List.all_cons, e2, e4]
    rfl
def eqD (d e : Dt) : Option Dt := match d, e with
  | .int a, .int b => some (.bl (decide (a = b)))
  | .str a, .str b => some (.bl (decide (a = b)))
  | d, e => if shp d = true ∧ shp e = true then some (.bl (eqt d e)) else none
def neD (d e : Dt) : Option Dt := match d, e with
  | .int a, .int b => some (.bl (!decide (a = b)))
  | .str a, .str b => some (.bl (!decide (a = b)))
  | d, e => if shp d = true ∧ shp e = true then some (.bl (!eqt d e)) else none
def rEqA (K : PySem.W.Frag) : R2 := fun x y H Q => rEq x y H Q ∨ rEqD K x y H Q
def rNeA (K : PySem.W.Frag) : R2 := fun x y H Q => rNe x y H Q ∨ rNeD K x y H Q
theorem opr_eq (hu : X.A.units + 64 < cLine) : OpR X (compareOp .Eq) (rEqA X.K) := opr_or op_eq (op_eqD hu)
theorem opr_ne (hu : X.A.units + 64 < cLine) : OpR X (compareOp .NotEq) (rNeA X.K) := opr_or op_ne (op_neD hu)
theorem shp_plain {d : Dt} (h : shp d = true) : plainD d = true ∧ SeqAt.shaped (toPy d) = true := Bool.and_eq_true_iff.mp h
theorem dec_V_int {a b : Int} : decide (V.int a = V.int b) = decide (a = b) := by
  by_cases h : a = b
  · subst h
    simp
  · rw [decide_eq_false h, decide_eq_false (fun z => h (V.int.inj z))]
theorem dec_V_str {a b : Str} : decide (V.str a = V.str b) = decide (a = b) := by
  by_cases h : a = b
  · subst h
    simp
  · rw [decide_eq_false h, decide_eq_false (fun z => h (V.str.inj z))]
theorem opd_eq (K : PySem.W.Frag) : OpD K (rEqA K) eqD := by
  intro x y d e z H0 H s hx hy hg Q k
  unfold eqD at hg
  split at hg
  · cases hg
    cases hx
    cases hy
    refine .inl ⟨rfl, ?_⟩
    rw [dec_V_int]
    exact sc s (.bl _) k
  · cases hg
    cases hx
    cases hy
    refine .inl ⟨rfl, ?_⟩
    rw [dec_V_str]
    exact sc s (.bl _) k
  · split at hg
    · rename_i hm
      cases hg
      obtain ⟨p1, s1⟩ := shp_plain hm.1
      obtain ⟨p2, s2⟩ := shp_plain hm.2
      exact .inr ⟨_, _, (Pk.up s hx).dp p1, (Pk.up s hy).dp p2, s1, s2, sc s (.bl _) k⟩
    · cases hg
theorem opd_ne (K : PySem.W.Frag) : OpD K (rNeA K) neD := by
  intro x y d e z H0 H s hx hy hg Q k
  unfold neD at hg
  split at hg
  · cases hg
    cases hx
    cases hy
    refine .inl ⟨rfl, ?_⟩
    rw [dec_V_int]
    exact sc s (.bl _) k
  · cases hg
    cases hx
    cases hy
    refine .inl ⟨rfl, ?_⟩
    rw [dec_V_str]
    exact sc s (.bl _) k
  · split at hg
    · rename_i hm
      cases hg
      obtain ⟨p1, s1⟩ := shp_plain hm.1
      obtain ⟨p2, s2⟩ := shp_plain hm.2
      exact .inr ⟨_, _, (Pk.up s hx).dp p1, (Pk.up s hy).dp p2, s1, s2, sc s (.bl _) k⟩
    · cases hg

/-! ### dicts: what stands at a key -/
def keyD : Dt → Option Key
  | .int i => some (.inl i)
  | .str x => some (.inr x)
  | _ => none
def getK (kvs : List (Key × Dt)) (k : Key) : Option Dt := (kvs.find? fun kv => decide (kv.1 = k)).map (·.2)
def putKD (kvs : List (Key × Dt)) (k : Key) (d : Dt) : List (Key × Dt) := if (kvs.any fun kv => decide (kv.1 = k)) = true then kvs.map fun kv => if kv.1 = k then (kv.1, d) else kv else kvs ++ [(k, d)]
theorem keyD_V {K : PySem.W.Frag} {H0 H : Hp} {v : V} {d : Dt} {k : Key} (h : Pk K H0 H v d) (e : keyD d = some k) : v = kV k := by
  cases d with
  | int i => cases h; cases e; rfl
  | str x => cases h; cases e; rfl
  | _ => cases e
theorem DaKv.get {K : PySem.W.Frag} {H : Hp} (k : Key) : ∀ {ks : List (Key × V)} {kvs : List (Key × Dt)}, DaKv K H ks kvs → (∀ d, getK kvs k = some d → ∃ v, valV ks k = some v ∧ Da K H v d) ∧ (getK kvs k = none → valV ks k = none)
  | _, _, .nil => ⟨fun d h => by simp [getK] at h, fun _ => rfl⟩
  | _, _, .cons (k := k') h1 h2 => by
    obtain ⟨q1, q2⟩ := h2.get k
    by_cases e : k' = k
    · subst e
      refine ⟨fun d h => ?_, fun h => ?_⟩
      · simp [getK] at h
        subst h
        exact ⟨_, by simp [valV], h1⟩
      · simp [getK] at h
    · refine ⟨fun d h => ?_, fun h => ?_⟩
      · obtain ⟨v, h3, h4⟩ := q1 d (by simpa [getK, List.find?_cons, e] using h)
        exact ⟨v, by rw [valV_neg (by exact e)]; exact h3, h4⟩
      · rw [valV_neg (by exact e)]
        exact q2 (by simpa [getK, List.find?_cons, e] using h)
theorem DaKv.length {K : PySem.W.Frag} {H : Hp} : ∀ {ks : List (Key × V)} {kvs : List (Key × Dt)}, DaKv K H ks kvs → ks.length = kvs.length
  | _, _, .nil => rfl
  | _, _, .cons _ h => congrArg (· + 1) h.length
theorem DaKv.anyK {K : PySem.W.Frag} {H : Hp} (k : Key) : ∀ {ks : List (Key × V)} {kvs : List (Key × Dt)}, DaKv K H ks kvs → (ks.any fun kv => decide (kv.1 = k)) = (kvs.any fun kv => decide (kv.1 = k))
  | _, _, .nil => rfl
  | _, _, .cons _ h => by rw [List.any_cons, List.any_cons, h.anyK k]
theorem DaKv.append {K : PySem.W.Frag} {H : Hp} : ∀ {ks ls : List (Key × V)} {kvs lvs : List (Key × Dt)}, DaKv K H ks kvs → DaKv K H ls lvs → DaKv K H (ks ++ ls) (kvs ++ lvs)
  | _, _, _, _, .nil, h => h
  | _, _, _, _, .cons h1 h2, h => .cons h1 (h2.append h)
theorem DaKv.map {K : PySem.W.Frag} {H : Hp} {k : Key} {v : V} {d : Dt} (hd : Da K H v d) : ∀ {ks : List (Key × V)} {kvs : List (Key × Dt)}, DaKv K H ks kvs →
    DaKv K H (ks.map fun kv => if kv.1 = k then (kv.1, v) else kv) (kvs.map fun kv => if kv.1 = k then (kv.1, d) else kv)
  | _, _, .nil => .nil
  | _, _, .cons (k := k') h1 h2 => by
    rw [List.map_cons, List.map_cons]
    by_cases e : k' = k
    · rw [if_pos (by exact e), if_pos (by exact e)]
      exact .cons hd (h2.map hd)
    · rw [if_neg (by exact e), if_neg (by exact e)]
      exact .cons h1 (h2.map hd)
theorem DaKv.put {K : PySem.W.Frag} {H : Hp} {ks : List (Key × V)} {kvs : List (Key × Dt)} {k : Key} {v : V} {d : Dt} (h : DaKv K H ks kvs) (hd : Da K H v d) : DaKv K H (putK ks k v) (putKD kvs k d) := by
  unfold putK putKD
  rw [h.anyK k]
  split
  · exact h.map hd
  · exact h.append (.cons hd .nil)

/-! ### in -/
def inStr (i j : Str) : Bool := !(Builtin.Str.occurrences j i 0 j.length 1).isEmpty
def inB : Dt → Dt → Option Bool
  | d, .lst xs => if flatD d = true ∧ xs.all flatD = true then some (inV (toV d) (xs.map toV)) else none
  | d, .tup xs => if flatD d = true ∧ xs.all flatD = true then some (inV (toV d) (xs.map toV)) else none
  | .int k, .dct kvs => some (getK kvs (.inl k)).isSome
  | .str k, .dct kvs => some (getK kvs (.inr k)).isSome
  | .str i, .str j => some (inStr i j)
  | _, _ => none
def inD (d e : Dt) : Option Dt := (inB d e).map fun b => .bl b
def ninD (d e : Dt) : Option Dt := (inB d e).map fun b => .bl (!b)
def rInA (K : PySem.W.Frag) : R2 := fun x y H Q => rIn K false x y H Q ∨ (∃ a o, y = .ref a ∧ DGet H a x o ∧ Q (.bl o.isSome) H) ∨ ∃ i j, x = .str i ∧ y = .str j ∧ Q (.bl (!(Builtin.Str.occurrences j i 0 j.length 1).isEmpty)) H
def rNinA (K : PySem.W.Frag) : R2 := fun x y H Q => rIn K true x y H Q ∨ (∃ a o, y = .ref a ∧ DGet H a x o ∧ Q (.bl (!o.isSome)) H) ∨ ∃ i j, x = .str i ∧ y = .str j ∧ Q (.bl (!(!(Builtin.Str.occurrences j i 0 j.length 1).isEmpty))) H
theorem opr_in (hu : X.A.units + 1 < cLine) : OpR X (compareOp .In) (rInA X.K) := opr_or op_in_seq (opr_or (by
  intro pins s σ H x y v u Q I rx ry h
  obtain ⟨a, o, rfl, g, q⟩ := h
  cases ry
  exact d_in hu I g rx fun s' I' => ⟨.bl _, H, I', rfl, q⟩) op_in_str)
theorem opr_nin (hu : X.A.units + 1 < cLine) : OpR X (compareOp .NotIn) (rNinA X.K) := opr_or op_notIn_seq (opr_or (by
  intro pins s σ H x y v u Q I rx ry h
  obtain ⟨a, o, rfl, g, q⟩ := h
  cases ry
  exact d_notIn hu I g rx fun s' I' => ⟨.bl _, H, I', rfl, q⟩) op_notIn_str)
theorem inB_key {K : PySem.W.Frag} {H0 H : Hp} {y : V} {kvs : List (Key × Dt)} {k : Key} (hy : Pk K H0 H y (.dct kvs)) : ∃ a o, y = .ref a ∧ DGet H a (kV k) o ∧ o.isSome = (getK kvs k).isSome := by
  obtain ⟨a, ks, rfl, h1, h2⟩ := hy
  refine ⟨a, _, rfl, DGet.k h1, ?_⟩
  obtain ⟨q1, q2⟩ := h2.get k
  cases e : getK kvs k with
  | none => rw [q2 e]; rfl
  | some d =>
    obtain ⟨v, h3, _⟩ := q1 d e
    rw [h3]
    rfl
theorem opd_in (K : PySem.W.Frag) : OpD K (rInA K) inD := by
  intro x y d e z H0 H s hx hy hg Q k
  obtain ⟨b, hb, rfl⟩ := Option.map_eq_some_iff.mp hg
  have q : Q (.bl b) H := sc s (.bl _) k
  unfold inB at hb
  split at hb
  · split at hb
    · rename_i hm
      cases hb
      obtain ⟨a, vs, rfl, h1, h2⟩ := hy
      obtain ⟨e1, e2⟩ := hx.flat hm.1
      obtain ⟨e3, e4⟩ := h2.flat hm.2
      exact .inl ⟨a, vs, rfl, .inl (SqL.of h1), e2, e4, by rw [e1, e3]; exact q⟩
    · cases hb
  · split at hb
    · rename_i hm
      cases hb
      cases hy with
      | tup h1 h2 =>
        obtain ⟨e1, e2⟩ := hx.flat hm.1
        obtain ⟨e3, e4⟩ := h2.flat hm.2
        exact .inl ⟨_, _, rfl, .inr (seqT_mono s h1), e2, e4, by rw [e1, e3]; exact q⟩
    · cases hb
  · rename_i n kvs
    cases hb
    cases hx
    obtain ⟨a, o, rfl, g, e⟩ := inB_key (k := .inl n) hy
    exact .inr (.inl ⟨a, o, rfl, g, by rw [e]; exact q⟩)
  · rename_i n kvs
    cases hb
    cases hx
    obtain ⟨a, o, rfl, g, e⟩ := inB_key (k := .inr n) hy
    exact .inr (.inl ⟨a, o, rfl, g, by rw [e]; exact q⟩)
  · cases hb
    cases hx
    cases hy
    exact .inr (.inr ⟨_, _, rfl, rfl, q⟩)
  · cases hb
theorem opd_nin (K : PySem.W.Frag) : OpD K (rNinA K) ninD := by
  intro x y d e z H0 H s hx hy hg Q k
  obtain ⟨b, hb, rfl⟩ := Option.map_eq_some_iff.mp hg
  have q : Q (.bl (!b)) H := sc s (.bl _) k
  unfold inB at hb
  split at hb
  · split at hb
    · rename_i hm
      cases hb
      obtain ⟨a, vs, rfl, h1, h2⟩ := hy
      obtain ⟨e1, e2⟩ := hx.flat hm.1
      obtain ⟨e3, e4⟩ := h2.flat hm.2
      exact .inl ⟨a, vs, rfl, .inl (SqL.of h1), e2, e4, by rw [e1, e3]; exact q⟩
    · cases hb
  · split at hb
    · rename_i hm
      cases hb
      cases hy with
      | tup h1 h2 =>
        obtain ⟨e1, e2⟩ := hx.flat hm.1
        obtain ⟨e3, e4⟩ := h2.flat hm.2
        exact .inl ⟨_, _, rfl, .inr (seqT_mono s h1), e2, e4, by rw [e1, e3]; exact q⟩
    · cases hb
  · rename_i n kvs
    cases hb
    cases hx
    obtain ⟨a, o, rfl, g, e⟩ := inB_key (k := .inl n) hy
    exact .inr (.inl ⟨a, o, rfl, g, by rw [e]; exact q⟩)
  · rename_i n kvs
    cases hb
    cases hx
    obtain ⟨a, o, rfl, g, e⟩ := inB_key (k := .inr n) hy
    exact .inr (.inl ⟨a, o, rfl, g, by rw [e]; exact q⟩)
  · cases hb
    cases hx
    cases hy
    exact .inr (.inr ⟨_, _, rfl, rfl, q⟩)
  · cases hb
/-! ### is None -/
def isN : Dt → Bool
  | .non => true
  | _ => false
def isND : Dt → Dt → Option Dt
  | d, .non => some (.bl (isN d))
  | _, _ => none
def notND : Dt → Dt → Option Dt
  | d, .non => some (.bl (!isN d))
  | _, _ => none
theorem Pk.isN {K : PySem.W.Frag} {H0 H : Hp} {v : V} {d : Dt} (h : Pk K H0 H v d) : decide (v = .non) = isN d := by
  cases d with
  | lst _ => obtain ⟨a, _, rfl, _⟩ := h; rfl
  | dct _ => obtain ⟨a, _, rfl, _⟩ := h; rfl
  | _ => cases h <;> rfl
theorem opd_isN (K : PySem.W.Frag) : OpD K (fun x y H Q => y = .non ∧ Q (.bl (decide (x = .non))) H) isND := by
  intro x y d e z H0 H s hx hy hg Q k
  unfold isND at hg
  split at hg
  · cases hg
    cases hy
    refine ⟨rfl, ?_⟩
    rw [hx.isN]
    exact sc s (.bl _) k
  · cases hg
theorem opd_notN (K : PySem.W.Frag) : OpD K (fun x y H Q => y = .non ∧ Q (.bl (!decide (x = .non))) H) notND := by
  intro x y d e z H0 H s hx hy hg Q k
  unfold notND at hg
  split at hg
  · cases hg
    cases hy
    refine ⟨rfl, ?_⟩
    rw [hx.isN]
    exact sc s (.bl _) k
  · cases hg

/-! ### subscripts -/
def ixD : Dt → Dt → Option Dt
  | .lst xs, .int i => atI xs i
  | .tup xs, .int i => atI xs i
  | .str z, .int i => if z.length ≤ 1000000 then (atI z.cps.toList i).map fun c => .str ⟨#[c]⟩ else none
  | .dct kvs, .int k => getK kvs (.inl k)
  | .dct kvs, .str k => getK kvs (.inr k)
  | .scr ns, .int i => (atI ns i).map .int
  | _, _ => none
def rIxA (K : PySem.W.Frag) : R2 := fun x y H Q => rIx K x y H Q ∨ ∃ a v, x = .ref a ∧ DGet H a y (some v) ∧ Q v H
theorem atI_da {K : PySem.W.Frag} {H : Hp} {vs : List V} {ds : List Dt} {i : Int} {z : Dt} (h : DaAll K H vs ds) (e : atI ds i = some z) : ∃ v, atI vs i = some v ∧ Da K H v z := by
  unfold atI at e ⊢
  rw [h.length]
  obtain ⟨j, h1, h2⟩ := Option.bind_eq_some_iff.mp e
  obtain ⟨v, h3, h4⟩ := h.get h2
  exact ⟨v, by rw [h1]; exact h3, h4⟩
theorem ixr_all (hu : X.A.units + 1 < cLine) : IxR X (rIxA X.K) := ix_seq.or (by
  intro value slice pins s σ H x y v u Q I rx ry q hs
  obtain ⟨a, w, rfl, g, q⟩ := q
  cases rx
  refine PyProof.Rows.tail_any (ops := [.ref a, u]) (dict_typeIs I g) PySem.F.slot_dict_getitem.lookup (d_getItem hu I g ry fun w' s' I' r' => ⟨w, H, I', r', q⟩) hs)
theorem opd_ix (K : PySem.W.Frag) : OpD K (rIxA K) ixD := by
  intro x y d e z H0 H s hx hy hg Q k
  unfold ixD at hg
  split at hg
  · obtain ⟨a, vs, rfl, h1, h2⟩ := hx
    cases hy
    obtain ⟨v, h3, h4⟩ := atI_da h2 hg
    exact .inl (.inl ⟨a, vs, _, v, rfl, rfl, SqL.of h1, h3, sc s h4 k⟩)
  · cases hy
    cases hx with
    | tup h1 h2 =>
      obtain ⟨v, h3, h4⟩ := atI_da h2 hg
      exact .inl (.inr (.inl ⟨_, _, _, v, rfl, rfl, seqT_mono s h1, h3, sc s h4 k⟩))
  · split at hg
    · rename_i hl
      cases hy
      cases hx
      obtain ⟨c, h1, rfl⟩ := Option.map_eq_some_iff.mp hg
      exact .inl (.inr (.inr ⟨_, _, c, rfl, rfl, sizeM hl, h1, sc s (.str _) k⟩))
    · cases hg
  · cases hy
    obtain ⟨a, ks, rfl, h1, h2⟩ := hx
    rename_i n
    obtain ⟨v, h3, h4⟩ := (h2.get _).1 _ hg
    exact .inr ⟨a, v, rfl, by rw [← h3]; exact DGet.k (k := .inl n) h1, sc s h4 k⟩
  · cases hy
    obtain ⟨a, ks, rfl, h1, h2⟩ := hx
    rename_i n
    obtain ⟨v, h3, h4⟩ := (h2.get _).1 _ hg
    exact .inr ⟨a, v, rfl, by rw [← h3]; exact DGet.k (k := .inr n) h1, sc s h4 k⟩
  · cases hy
    cases hx with
    | scr h1 =>
      obtain ⟨n, h3, rfl⟩ := Option.map_eq_some_iff.mp hg
      refine .inl (.inl ⟨_, _, _, .int n, rfl, rfl, seqL_mono s h1, ?_, sc s (.int _) k⟩)
      unfold atI at h3 ⊢
      rw [List.length_map]
      obtain ⟨j, h4, h5⟩ := Option.bind_eq_some_iff.mp h3
      rw [h4]
      show (List.map V.int _)[j]? = some (V.int n)
      rw [List.getElem?_map, h5]
      rfl
  · cases hg
end
end DW

set_option Elab.async false
set_option linter.all false
set_option maxRecDepth 100000
set_option maxHeartbeats 4000000
/-! DW5: rules for expressions, tests, arguments -/
namespace DW
open PySem L2

/-! ### the functions -/
def truD : Dt → Option Bool
  | .non => some false
  | .bl b => some b
  | .int i => some (i != 0)
  | .str y => if y.length ≤ 1000000 then some ((y.length : Int) != 0) else none
  | .lst xs => some (!xs.isEmpty)
  | .tup xs => some (!xs.isEmpty)
  | .dct xs => some (!xs.isEmpty)
  | .scr xs => some (!xs.isEmpty)
  | .xo _ _ _ => none
def truF (f : Rho → R Dt) : Rho → R Bool := fun ρ => (f ρ).bind fun d ρ1 => match truD d with
  | some b => .ok b ρ1
  | none => .bad
def tstF (f : Rho → R Dt) : Rho → R Bool := fun ρ => (f ρ).bind fun d ρ1 => match d with
  | .bl b => .ok b ρ1
  | _ => .bad
def andT (f g : Rho → R Bool) : Rho → R Bool := fun ρ => (f ρ).bind fun b ρ1 => if b = true then g ρ1 else .ok false ρ1
def orT (f g : Rho → R Bool) : Rho → R Bool := fun ρ => (f ρ).bind fun b ρ1 => if b = true then .ok true ρ1 else g ρ1
def notT (f : Rho → R Bool) : Rho → R Bool := fun ρ => (f ρ).bind fun b ρ1 => .ok (!b) ρ1
def andV (f g : Rho → R Dt) : Rho → R Dt := fun ρ => (f ρ).bind fun d ρ1 => match d with
  | .bl b => if b = true then g ρ1 else .ok (.bl false) ρ1
  | _ => .bad
def orV (f g : Rho → R Dt) : Rho → R Dt := fun ρ => (f ρ).bind fun d ρ1 => match d with
  | .bl b => if b = true then .ok (.bl true) ρ1 else g ρ1
  | _ => .bad
def notD (d : Dt) : Option Dt := (truD d).map fun b => .bl (!b)
def ifE (c : Rho → R Bool) (f g : Rho → R Dt) : Rho → R Dt := fun ρ => (c ρ).bind fun b ρ1 => if b = true then f ρ1 else g ρ1
def chainD (g1 g2 : Dt → Dt → Option Dt) (f1 f2 f3 : Rho → R Dt) : Rho → R Dt := fun ρ => (f1 ρ).bind fun x ρ1 => (f2 ρ1).bind fun y ρ2 => match g1 x y with
  | some (.bl true) => (f3 ρ2).bind fun z ρ3 => match g2 y z with
    | some w => .ok w ρ3
    | none => .bad
  | some (.bl false) => .ok (.bl false) ρ2
  | _ => .bad
def nilA : Rho → R (List Dt) := fun ρ => .ok [] ρ
def consA (f : Rho → R Dt) (g : Rho → R (List Dt)) : Rho → R (List Dt) := fun ρ => (f ρ).bind fun d ρ1 => (g ρ1).bind fun ds ρ2 => .ok (d :: ds) ρ2
def tupD (f : Rho → R (List Dt)) : Rho → R Dt := fun ρ => (f ρ).bind fun ds ρ1 => if ds.length ≤ 1000000 then .ok (.tup ds) ρ1 else .bad
def lstD (f : Rho → R (List Dt)) : Rho → R Dt := fun ρ => (f ρ).bind fun ds ρ1 => if ds.length ≤ 1000000 then .ok (.lst ds) ρ1 else .bad
def lstO (f : Rho → R (List Dt)) : Rho → R Sl := fun ρ => (f ρ).bind fun ds ρ1 => if ds.length ≤ 1000000 then .ok (.ol ds) ρ1 else .bad
def dctO0 : Rho → R Sl := fun ρ => .ok (.od []) ρ
def dctD0 : Rho → R Dt := fun ρ => .ok (.dct []) ρ
def frO (f : Rho → R Dt) : Rho → R Sl := fun ρ => (f ρ).bind fun d ρ1 => .ok (.fr d) ρ1
def cb (g : List Dt → Option Dt) (f : Rho → R (List Dt)) : Rho → R Dt := fun ρ => (f ρ).bind fun ds ρ1 => match g ds with
  | some z => .ok z ρ1
  | none => .bad
def noP : Rho → R (Option Int) := fun ρ => .ok none ρ
def someP (f : Rho → R Dt) : Rho → R (Option Int) := fun ρ => (f ρ).bind fun d ρ1 => match d with
  | .int i => .ok (some i) ρ1
  | _ => .bad
def cutD {α : Type} (xs : List α) (lo hi : Option Int) : List α := (xs.drop (HT.sIx xs.length 0 lo)).take (HT.sIx xs.length xs.length hi - HT.sIx xs.length 0 lo)
def slD : Dt → Option Int → Option Int → Option Dt
  | .lst xs, lo, hi => some (.lst (cutD xs lo hi))
  | .tup xs, lo, hi => some (.tup (cutD xs lo hi))
  | .scr ns, lo, hi => some (.lst ((cutD ns lo hi).map .int))
  | .str z, lo, hi => if z.length ≤ 1000000 then some (.str (cutS z lo hi)) else none
  | _, _, _ => none
def sl3 (f : Rho → R Dt) (fl fh : Rho → R (Option Int)) : Rho → R Dt := fun ρ => (f ρ).bind fun d ρ1 => (fl ρ1).bind fun lo ρ2 => (fh ρ2).bind fun hi ρ3 => match slD d lo hi with
  | some z => .ok z ρ3
  | none => .bad

/-! ### readings -/
section
variable {F : Fm} {g : Gx} {W : WX} {σ : L2.St} {H : Hp}
theorem bind_ok {α β : Type} {r : R α} {k : α → Rho → R β} {b : β} {ρ' : Rho} (h : r.bind k = .ok b ρ') : ∃ a ρ1, r = .ok a ρ1 ∧ k a ρ1 = .ok b ρ' := by
  cases r with
  | ok a ρ1 => exact ⟨a, ρ1, rfl, h⟩
  | ex _ _ => cases h
  | bad => cases h
theorem tC_cst {v : V} {d : Dt} {Q : VK} (hd : ∀ H, Da g.K H v d) (h : tD g F W (cst d) σ H Q) : tC v σ H Q := by
  obtain ⟨H0, ρ, E, q⟩ := h
  exact q v H0 H E Mv.refl (hd _)
theorem tTest_of {f : Rho → R Dt} {Q : Bool → Hp → Prop} (h : tDT g F W (tstF f) σ H Q) : tTest (tD g F W f) σ H Q := by
  obtain ⟨H0, ρ, E, q⟩ := h
  refine ⟨H0, ρ, E, ?_⟩
  unfold tstF at q
  cases e : f ρ with
  | ok d ρ1 =>
    rw [e] at q
    dsimp only [R.bind] at q
    intro v H0' H' E' m hd
    cases d with
    | bl b =>
      cases hd
      exact ⟨b, rfl, q H0' H' E' m⟩
    | _ => exact q.elim
  | ex x ρ1 =>
    rw [e] at q
    exact q
  | bad =>
    rw [e] at q
    exact q
theorem truV_of {K : PySem.W.Frag} {H0 H : Hp} {v : V} {d : Dt} {b : Bool} (e : Same H0 H) (h : Pk K H0 H v d) (hb : truD d = some b) : TruV K v H b := by
  cases d with
  | xo _ _ _ => cases hb
  | non => cases h; cases hb; rfl
  | bl _ => cases h; cases hb; rfl
  | int _ => cases h; cases hb; rfl
  | str y =>
    cases h
    by_cases hl : y.length ≤ 1000000
    · simp only [truD, if_pos hl, Option.some.injEq] at hb
      exact ⟨sizeM hl, hb.symm⟩
    · simp only [truD, if_neg hl] at hb
      cases hb
  | lst xs =>
    obtain ⟨a, vs, rfl, h1, h2⟩ := h
    cases hb
    refine .inl ⟨vs, SqL.of h1, ?_⟩
    cases h2 <;> rfl
  | tup xs =>
    cases hb
    cases h with
    | tup h1 h2 =>
      refine .inr (.inl ⟨_, seqT_mono e h1, ?_⟩)
      cases h2 <;> rfl
  | dct xs =>
    obtain ⟨a, vs, rfl, h1, h2⟩ := h
    cases hb
    refine .inr (.inr ⟨vs, h1, ?_⟩)
    cases h2 <;> rfl
  | scr xs =>
    cases hb
    cases h with
    | scr h1 =>
      refine .inl ⟨_, seqL_mono e h1, ?_⟩
      cases xs <;> rfl
theorem tTru_of {f : Rho → R Dt} {Q : Bool → Hp → Prop} (h : tDT g F W (truF f) σ H Q) : tK g F W f σ H (fun x H' => ∃ k, TruV g.K x H' k ∧ Q k H') := by
  obtain ⟨H0, ρ, E, q⟩ := h
  refine ⟨H0, ρ, E, ?_⟩
  unfold truF at q
  cases e : f ρ with
  | ok d ρ1 =>
    rw [e] at q
    dsimp only [R.bind] at q
    intro v H0' H' E' m hd
    cases e2 : truD d with
    | some b =>
      rw [e2] at q
      exact ⟨b, truV_of E'.ex hd e2, q H0' H' E' m⟩
    | none =>
      rw [e2] at q
      exact q.elim
  | ex x ρ1 =>
    rw [e] at q
    exact q
  | bad =>
    rw [e] at q
    exact q
theorem tNotT_of {f : Rho → R Dt} {Q : VK} (h : tD g F W (un notD f) σ H Q) : tNotT g.K (tK g F W f) σ H Q := by
  obtain ⟨H0, ρ, E, q⟩ := h
  refine ⟨H0, ρ, E, ?_⟩
  unfold un at q
  cases e : f ρ with
  | ok d ρ1 =>
    rw [e] at q
    dsimp only [R.bind, notD] at q
    intro v H0' H' E' m hd
    cases e2 : truD d with
    | some b =>
      rw [e2] at q
      exact ⟨b, truV_of E'.ex hd e2, q _ H0' H' E' m (.bl _)⟩
    | none =>
      rw [e2] at q
      exact q.elim
  | ex x ρ1 =>
    rw [e] at q
    exact q
  | bad =>
    rw [e] at q
    exact q
theorem tAnd_of {f k : Rho → R Bool} {Q : Bool → Hp → Prop} (h : tDT g F W (andT f k) σ H Q) : tAnd (tDT g F W f) (tDT g F W k) σ H Q := by
  obtain ⟨H0, ρ, E, q⟩ := h
  refine ⟨H0, ρ, E, ?_⟩
  unfold andT at q
  cases e : f ρ with
  | ok b ρ1 =>
    rw [e] at q
    dsimp only [R.bind] at q
    intro H0' H' E' m
    cases b with
    | true =>
      rw [if_pos rfl] at q ⊢
      refine ⟨H0', ρ1, E', ?_⟩
      cases e2 : k ρ1 with
      | ok b2 ρ2 =>
        rw [e2] at q
        exact fun H0'' H'' E'' m' => q H0'' H'' E'' (m.trans m')
      | ex x ρ1 =>
        rw [e2] at q
        exact q
      | bad =>
        rw [e2] at q
        exact q
    | false =>
      rw [if_neg Bool.false_ne_true] at q ⊢
      exact q H0' H' E' m
  | ex x ρ1 =>
    rw [e] at q
    exact q
  | bad =>
    rw [e] at q
    exact q
theorem tOr_of {f k : Rho → R Bool} {Q : Bool → Hp → Prop} (h : tDT g F W (orT f k) σ H Q) : tOr (tDT g F W f) (tDT g F W k) σ H Q := by
  obtain ⟨H0, ρ, E, q⟩ := h
  refine ⟨H0, ρ, E, ?_⟩
  unfold orT at q
  cases e : f ρ with
  | ok b ρ1 =>
    rw [e] at q
    dsimp only [R.bind] at q
    intro H0' H' E' m
    cases b with
    | false =>
      rw [if_neg Bool.false_ne_true] at q ⊢
      refine ⟨H0', ρ1, E', ?_⟩
      cases e2 : k ρ1 with
      | ok b2 ρ2 =>
        rw [e2] at q
        exact fun H0'' H'' E'' m' => q H0'' H'' E'' (m.trans m')
      | ex x ρ1 =>
        rw [e2] at q
        exact q
      | bad =>
        rw [e2] at q
        exact q
    | true =>
      rw [if_pos rfl] at q ⊢
      exact q H0' H' E' m
  | ex x ρ1 =>
    rw [e] at q
    exact q
  | bad =>
    rw [e] at q
    exact q
theorem tNot_of {f : Rho → R Bool} {Q : Bool → Hp → Prop} (h : tDT g F W (notT f) σ H Q) : tNot (tDT g F W f) σ H Q := by
  obtain ⟨H0, ρ, E, q⟩ := h
  refine ⟨H0, ρ, E, ?_⟩
  unfold notT at q
  cases e : f ρ with
  | ok b ρ1 =>
    rw [e] at q
    exact fun H0' H' E' m => q H0' H' E' m
  | ex x ρ1 =>
    rw [e] at q
    exact q
  | bad =>
    rw [e] at q
    exact q
theorem tAndV_of {f k : Rho → R Dt} {Q : VK} (h : tD g F W (andV f k) σ H Q) : tAndV (tD g F W f) (tD g F W k) σ H Q := by
  obtain ⟨H0, ρ, E, q⟩ := h
  refine ⟨H0, ρ, E, ?_⟩
  unfold andV at q
  cases e : f ρ with
  | ok d ρ1 =>
    rw [e] at q
    dsimp only [R.bind] at q
    intro v H0' H' E' m hd
    cases d with
    | bl b =>
      cases hd
      refine ⟨b, rfl, ?_⟩
      dsimp only at q
      cases b with
      | true =>
        rw [if_pos rfl] at q ⊢
        refine ⟨H0', ρ1, E', ?_⟩
        cases e2 : k ρ1 with
        | ok b2 ρ2 =>
          rw [e2] at q
          exact fun v H0'' H'' E'' m' hd => q v H0'' H'' E'' (m.trans m') hd
        | ex x ρ1 =>
          rw [e2] at q
          exact q
        | bad =>
          rw [e2] at q
          exact q
      | false =>
        rw [if_neg Bool.false_ne_true] at q ⊢
        exact q _ H0' H' E' m (.bl _)
    | _ => exact q.elim
  | ex x ρ1 =>
    rw [e] at q
    exact q
  | bad =>
    rw [e] at q
    exact q
theorem tOrV_of {f k : Rho → R Dt} {Q : VK} (h : tD g F W (orV f k) σ H Q) : tOrV (tD g F W f) (tD g F W k) σ H Q := by
  obtain ⟨H0, ρ, E, q⟩ := h
  refine ⟨H0, ρ, E, ?_⟩
  unfold orV at q
  cases e : f ρ with
  | ok d ρ1 =>
    rw [e] at q
    dsimp only [R.bind] at q
    intro v H0' H' E' m hd
    cases d with
    | bl b =>
      cases hd
      refine ⟨b, rfl, ?_⟩
      dsimp only at q
      cases b with
      | false =>
        rw [if_neg Bool.false_ne_true] at q ⊢
        refine ⟨H0', ρ1, E', ?_⟩
        cases e2 : k ρ1 with
        | ok b2 ρ2 =>
          rw [e2] at q
          exact fun v H0'' H'' E'' m' hd => q v H0'' H'' E'' (m.trans m') hd
        | ex x ρ1 =>
          rw [e2] at q
          exact q
        | bad =>
          rw [e2] at q
          exact q
      | true =>
        rw [if_pos rfl] at q ⊢
        exact q _ H0' H' E' m (.bl _)
    | _ => exact q.elim
  | ex x ρ1 =>
    rw [e] at q
    exact q
  | bad =>
    rw [e] at q
    exact q
theorem tIf_of {c : Rho → R Bool} {f k : Rho → R Dt} {Q : VK} (h : tD g F W (ifE c f k) σ H Q) : tIf (tDT g F W c) (tD g F W f) (tD g F W k) σ H Q := by
  obtain ⟨H0, ρ, E, q⟩ := h
  refine ⟨H0, ρ, E, ?_⟩
  unfold ifE at q
  cases e : c ρ with
  | ok b ρ1 =>
    rw [e] at q
    dsimp only [R.bind] at q
    intro H0' H' E' m
    cases b with
    | true =>
      rw [if_pos rfl] at q ⊢
      refine ⟨H0', ρ1, E', ?_⟩
      cases e2 : f ρ1 with
      | ok b2 ρ2 =>
        rw [e2] at q
        exact fun v H0'' H'' E'' m' hd => q v H0'' H'' E'' (m.trans m') hd
      | ex x ρ1 =>
        rw [e2] at q
        exact q
      | bad =>
        rw [e2] at q
        exact q
    | false =>
      rw [if_neg Bool.false_ne_true] at q ⊢
      refine ⟨H0', ρ1, E', ?_⟩
      cases e2 : k ρ1 with
      | ok b2 ρ2 =>
        rw [e2] at q
        exact fun v H0'' H'' E'' m' hd => q v H0'' H'' E'' (m.trans m') hd
      | ex x ρ1 =>
        rw [e2] at q
        exact q
      | bad =>
        rw [e2] at q
        exact q
  | ex x ρ1 =>
    rw [e] at q
    exact q
  | bad =>
    rw [e] at q
    exact q
theorem tChain_of {r r' : R2} {g1 g2 : Dt → Dt → Option Dt} {f1 f2 f3 : Rho → R Dt} (h1 : OpD g.K r g1) (h2 : OpD g.K r' g2) {Q : VK} (h : tD g F W (chainD g1 g2 f1 f2 f3) σ H Q) :
    tChain r r' (tD g F W f1) (tD g F W f2) (tD g F W f3) σ H Q := by
  obtain ⟨H0, ρ, E, q⟩ := h
  refine ⟨H0, ρ, E, ?_⟩
  unfold chainD at q
  cases e1 : f1 ρ with
  | ok d ρ1 =>
    rw [e1] at q
    dsimp only [R.bind] at q
    intro x B0 B E1 m1 d1
    refine ⟨B0, ρ1, E1, ?_⟩
    cases e2 : f2 ρ1 with
    | ok e ρ2 =>
      rw [e2] at q
      dsimp only [R.bind] at q
      intro y C0 C E2 m2 d2
      cases e3 : g1 d e with
      | none =>
        rw [e3] at q
        exact q.elim
      | some z =>
        rw [e3] at q
        refine h1 x y d e z C0 C E2.ex (Da.pk E2.ex (d1.mono m2.b0)) (Da.pk E2.ex d2) e3 _ fun v D0 D g3 s3 d3 => ?_
        obtain ⟨E3, m3⟩ := E2.post (m1.trans m2) g3 s3
        cases z with
        | bl b =>
          cases d3
          refine ⟨b, rfl, ?_⟩
          cases b with
          | true =>
            rw [if_pos rfl]
            refine ⟨D0, ρ2, E3, ?_⟩
            dsimp only at q
            cases e4 : f3 ρ2 with
            | ok z ρ3 =>
              rw [e4] at q
              dsimp only [R.bind] at q
              intro w' G0 G E4 m4 d4
              cases e5 : g2 e z with
              | none =>
                rw [e5] at q
                exact q.elim
              | some u =>
                rw [e5] at q
                refine h2 y w' e z u G0 G E4.ex (Da.pk E4.ex ((d2.mono g3.b0).mono m4.b0)) (Da.pk E4.ex d4) e5 _ fun v I0 I g5 s5 d5 => ?_
                obtain ⟨E5, m5⟩ := E4.post (m3.trans m4) g5 s5
                exact q v I0 I E5 m5 d5
            | ex x ρ1 =>
              rw [e4] at q
              exact q
            | bad =>
              rw [e4] at q
              exact q
          | false =>
            rw [if_neg Bool.false_ne_true]
            exact q _ D0 D E3 m3 (.bl _)
        | _ => exact q.elim
    | ex x ρ1 =>
      rw [e2] at q
      exact q
    | bad =>
      rw [e2] at q
      exact q
  | ex x ρ1 =>
    rw [e1] at q
    exact q
  | bad =>
    rw [e1] at q
    exact q
theorem tNil_of {Q : List V → Hp → Prop} (h : tDA g F W nilA σ H Q) : tNil σ H Q := by
  obtain ⟨H0, ρ, E, q⟩ := h
  exact q [] H0 H E Mv.refl .nil
theorem tCons_of {f : Rho → R Dt} {k : Rho → R (List Dt)} {Q : List V → Hp → Prop} (h : tDA g F W (consA f k) σ H Q) : tCons (tD g F W f) (tDA g F W k) σ H Q := by
  obtain ⟨H0, ρ, E, q⟩ := h
  refine ⟨H0, ρ, E, ?_⟩
  unfold consA at q
  cases e : f ρ with
  | ok d ρ1 =>
    rw [e] at q
    dsimp only [R.bind] at q
    intro v H0' H' E' m hd
    refine ⟨H0', ρ1, E', ?_⟩
    cases e2 : k ρ1 with
    | ok ds ρ2 =>
      rw [e2] at q
      exact fun vs H0'' H'' E'' m' hs => q (v :: vs) H0'' H'' E'' (m.trans m') (.cons (hd.mono m'.b0) hs)
    | ex x ρ1 =>
      rw [e2] at q
      exact q
    | bad =>
      rw [e2] at q
      exact q
  | ex x ρ1 =>
    rw [e] at q
    exact q
  | bad =>
    rw [e] at q
    exact q
theorem tTup_of {f : Rho → R (List Dt)} {Q : VK} (h : tD g F W (tupD f) σ H Q) : tTup (tDA g F W f) σ H Q := by
  obtain ⟨H0, ρ, E, q⟩ := h
  refine ⟨H0, ρ, E, ?_⟩
  unfold tupD at q
  cases e : f ρ with
  | ok ds ρ1 =>
    rw [e] at q
    dsimp only [R.bind] at q
    intro vs H0' H' E' m hd
    by_cases hl : ds.length ≤ 1000000
    · rw [if_pos hl] at q
      refine ⟨by rw [hd.length]; exact sizeM hl, al_tup E'.ex hd fun v C0 C gr s2 hv => ?_⟩
      obtain ⟨E3, m3⟩ := E'.post m gr s2
      exact q v C0 C E3 m3 hv
    · rw [if_neg hl] at q
      exact q.elim
  | ex x ρ1 =>
    rw [e] at q
    exact q
  | bad =>
    rw [e] at q
    exact q
theorem tLst_of {f : Rho → R (List Dt)} {Q : VK} (h : tD g F W (lstD f) σ H Q) : tLst (tDA g F W f) σ H Q := by
  obtain ⟨H0, ρ, E, q⟩ := h
  refine ⟨H0, ρ, E, ?_⟩
  unfold lstD at q
  cases e : f ρ with
  | ok ds ρ1 =>
    rw [e] at q
    dsimp only [R.bind] at q
    intro vs H0' H' E' m hd
    by_cases hl : ds.length ≤ 1000000
    · rw [if_pos hl] at q
      refine ⟨by rw [hd.length]; exact sizeM hl, al_lst E'.ex hd fun v C0 C gr s2 hv => ?_⟩
      obtain ⟨E3, m3⟩ := E'.post m gr s2
      exact q v C0 C E3 m3 hv
    · rw [if_neg hl] at q
      exact q.elim
  | ex x ρ1 =>
    rw [e] at q
    exact q
  | bad =>
    rw [e] at q
    exact q
end
end DW

set_option Elab.async false
set_option linter.all false
set_option maxRecDepth 100000
set_option maxHeartbeats 4000000
/-! DW6: rules for expressions: the text's side -/
namespace DW
open PySem L2
section
variable {X : Cx} {W : WX} {a b c e : Expr} {es : List Expr} {pos p p2 : Pos} {f1 f2 f3 : Rho → R Dt}

theorem de_int {i j} : DE X W (.Constant (.int i) j pos) (cst (.int i)) := fun F => PE.wk pe_int fun _ _ _ h => tC_cst (fun _ => .int i) h
theorem de_bl {i j} : DE X W (.Constant (.bool i) j pos) (cst (.bl i)) := fun F => PE.wk pe_bl fun _ _ _ h => tC_cst (fun _ => .bl i) h
theorem de_non {j} : DE X W (.Constant .none j pos) (cst .non) := fun F => PE.wk pe_non fun _ _ _ h => tC_cst (fun _ => .non) h
theorem de_str {x j} : DE X W (.Constant (.str x) j pos) (cst (.str x)) := fun F => PE.wk pe_str fun _ _ _ h => tC_cst (fun _ => .str x) h
theorem de_var (i : Nat) {x : Str} (hN : X.N[i]? = some x := by rfl) (hv : Vis X.env.scope x := by first | exact Or.inl rfl | exact Or.inr (Or.inl rfl) | exact Or.inr (Or.inr rfl)) (hd : (x == ("__debug__" : Str)) = false := by decide)
    (hcd : (x == ("__classdict__" : Str)) = false := by decide) : DE X W (.Name x pos) (var i) := fun F => PE.wk (pe_var hN hv hd hcd) fun _ _ _ h => tD_var h
theorem dk_var (i : Nat) {x : Str} (hN : X.N[i]? = some x := by rfl) (hv : Vis X.env.scope x := by first | exact Or.inl rfl | exact Or.inr (Or.inl rfl) | exact Or.inr (Or.inr rfl)) (hd : (x == ("__debug__" : Str)) = false := by decide)
    (hcd : (x == ("__classdict__" : Str)) = false := by decide) : DK X W (.Name x pos) (pkF i) := fun F => PE.wk (pe_var hN hv hd hcd) fun _ _ _ h => tK_pk h
theorem dk_of (h : DE X W e f1) : DK X W e f1 := fun F => PE.wk (h F) fun _ _ _ q => tK_of q
theorem de_gi {x : Str} {i : Int} {t : Tok} (hg : Gl X x) (hm : X.mg x = some (.int i t)) (hd : (x == ("__debug__" : Str)) = false := by decide) : DE X W (.Name x pos) (cst (.int i)) :=
  fun F => PE.wk (pe_glob (v := .int i) hg hm ⟨_, rfl⟩ hd) fun _ _ _ h => tC_cst (v := .int i) (fun _ => .int i) h
theorem de_gs {x : Str} {i : Str} {t : Tok} (hg : Gl X x) (hm : X.mg x = some (.str i t)) (hd : (x == ("__debug__" : Str)) = false := by decide) : DE X W (.Name x pos) (cst (.str i)) :=
  fun F => PE.wk (pe_glob (v := .str i) hg hm ⟨_, rfl⟩ hd) fun _ _ _ h => tC_cst (v := .str i) (fun _ => .str i) h

/-! ### operators -/
theorem de_op {op : Operator} {r : R2} {gg : Dt → Dt → Option Dt} (ho : OpR X (binaryOp op) r) (hd : OpD X.K r gg) (ha : DE X W a f1) (hb : DK X W b f2) : DE X W (.BinOp a op b pos) (bin gg f1 f2) :=
  fun F => PE.wk (pe_op ho (ha F) (hb F)) fun _ _ _ h => tOp_bin hd h
theorem de_opP {op : Operator} {r : R2} {gg : Dt → Dt → Option Dt} {i : Nat} {x : Str} (ho : OpR X (binaryOp op) r) (hd : OpD X.K r gg) (ha : PE X (.Name x p) (tVar i)) (hb : DK X W b f2) : DE X W (.BinOp (.Name x p) op b pos) (binP gg i f2) :=
  fun F => PE.wk (pe_op ho ha (hb F)) fun _ _ _ h => tOp_binP hd h
theorem de_add (ha : DE X W a f1) (hb : DK X W b f2) : DE X W (.BinOp a .Add b pos) (bin addD f1 f2) := de_op opr_add (opd_add _) ha hb
theorem de_sub (ha : DE X W a f1) (hb : DK X W b f2) : DE X W (.BinOp a .Sub b pos) (bin subD f1 f2) := de_op op_sub (opd_sub _) ha hb
theorem de_mul (ha : DE X W a f1) (hb : DK X W b f2) : DE X W (.BinOp a .Mult b pos) (bin mulD f1 f2) := de_op opr_mul (opd_mul _) ha hb
theorem de_fdiv (ha : DE X W a f1) (hb : DK X W b f2) : DE X W (.BinOp a .FloorDiv b pos) (bin fdivD f1 f2) := de_op op_fdivW (opd_fdiv _) ha hb
theorem de_mod (ha : DE X W a f1) (hb : DK X W b f2) : DE X W (.BinOp a .Mod b pos) (bin modD f1 f2) := de_op op_mod (opd_mod _) ha hb
theorem de_pow (ha : DE X W a f1) (hb : DK X W b f2) : DE X W (.BinOp a .Pow b pos) (bin powD f1 f2) := de_op op_pow (opd_pow _) ha hb
def negD : Dt → Option Dt
  | .int i => some (.int (-i))
  | _ => none
theorem de_neg (ha : DE X W a f1) : DE X W (.UnaryOp .USub a pos) (un negD f1) := fun F => PE.wk (pe_un un_neg (dk_of ha F)) fun _ _ _ h => tUn_un (fun x d z H0 H s hx hg Q k => by
  unfold negD at hg
  split at hg
  · cases hg
    cases hx
    exact ⟨_, rfl, sc s (.int _) k⟩
  · cases hg) h

/-! ### comparisons -/
theorem de_cmp {op : CmpOp} {r : R2} {gg : Dt → Dt → Option Dt} (ho : OpR X (compareOp op) r) (hd : OpD X.K r gg) (hm : behindInMarks op b = false) (ha : DE X W a f1) (hb : DK X W b f2) : DE X W (.Compare a [op] [b] pos) (bin gg f1 f2) :=
  fun F => PE.wk (pe_cmpR ho (ha F) (hb F) hm) fun _ _ _ h => tOp_bin hd h
theorem dt_cmp {op : CmpOp} {r : R2} {gg : Dt → Dt → Option Dt} (ho : OpR X (compareOp op) r) (hd : OpD X.K r gg) (hm : behindInMarks op b = false) (ha : DE X W a f1) (hb : DK X W b f2) : DT X W (.Compare a [op] [b] pos) (tstF (bin gg f1 f2)) :=
  fun F => PT.wk (pt_cmpR ho (ha F) (hb F) hm) fun _ _ _ h => tOp_bin hd (tTest_of h)
theorem de_cmpP {op : CmpOp} {r : R2} {gg : Dt → Dt → Option Dt} {i : Nat} {x : Str} (ho : OpR X (compareOp op) r) (hd : OpD X.K r gg) (hm : behindInMarks op b = false) (ha : PE X (.Name x p) (tVar i)) (hb : DK X W b f2) : DE X W (.Compare (.Name x p) [op] [b] pos) (binP gg i f2) :=
  fun F => PE.wk (pe_cmpR ho ha (hb F) hm) fun _ _ _ h => tOp_binP hd h
theorem dt_cmpP {op : CmpOp} {r : R2} {gg : Dt → Dt → Option Dt} {i : Nat} {x : Str} (ho : OpR X (compareOp op) r) (hd : OpD X.K r gg) (hm : behindInMarks op b = false) (ha : PE X (.Name x p) (tVar i)) (hb : DK X W b f2) : DT X W (.Compare (.Name x p) [op] [b] pos) (tstF (binP gg i f2)) :=
  fun F => PT.wk (pt_cmpR ho ha (hb F) hm) fun _ _ _ h => tOp_binP hd (tTest_of h)
theorem de_chain {op op' : CmpOp} {r r' : R2} {g1 g2 : Dt → Dt → Option Dt} (ho : OpR X (compareOp op) r) (h1 : OpD X.K r g1) (ho' : OpR X (compareOp op') r') (h2 : OpD X.K r' g2) (ha : DE X W a f1) (hb : DE X W b f2) (hc : DE X W c f3)
    (hm : lastMarks [op, op'] [b, c] = false := by with_unfolding_all rfl) : DE X W (.Compare a [op, op'] [b, c] pos) (chainD g1 g2 f1 f2 f3) :=
  fun F => PE.wk (pe_chain ho ho' (ha F) (hb F) (hc F) hm) fun _ _ _ h => tChain_of h1 h2 h
theorem dt_chain {op op' : CmpOp} {r r' : R2} {g1 g2 : Dt → Dt → Option Dt} (ho : OpR X (compareOp op) r) (h1 : OpD X.K r g1) (ho' : OpR X (compareOp op') r') (h2 : OpD X.K r' g2) (ha : DE X W a f1) (hb : DE X W b f2) (hc : DE X W c f3)
    (hm : lastMarks [op, op'] [b, c] = false := by with_unfolding_all rfl) : DT X W (.Compare a [op, op'] [b, c] pos) (tstF (chainD g1 g2 f1 f2 f3)) :=
  fun F => PT.wk (pt_chain ho ho' (ha F) (hb F) (hc F) hm) fun _ _ _ h => tChain_of h1 h2 (tTest_of h)

/-! ### tests -/
theorem dt_tru (ha : DK X W a f1) (he : ∀ whole, isTrue a X.env whole = (do let v ← whole; standAt a.pos; holding [v] (truthy v)) := by intro _; rfl) : DT X W a (truF f1) :=
  fun F => PT.wk (pt_truth (ha F) he) fun _ _ _ h => tTru_of h
variable {t1 t2 : Rho → R Bool} {rest : List Expr}
theorem dw_and1 (ha : DT X W a t1) : DW' X W (.BoolOp .And [a] pos) t1 := fun F => pw_and1 (ha F)
theorem dw_or1 (ha : DT X W a t1) : DW' X W (.BoolOp .Or [a] pos) t1 := fun F => pw_or1 (ha F)
theorem dw_and (ha : DT X W a t1) (hb : DW' X W (.BoolOp .And (b :: rest) pos) t2) : DW' X W (.BoolOp .And (a :: b :: rest) pos) (andT t1 t2) := fun F => PW.wk (pw_and (ha F) (hb F)) fun _ _ _ h => tAnd_of h
theorem dw_or (ha : DT X W a t1) (hb : DW' X W (.BoolOp .Or (b :: rest) pos) t2) : DW' X W (.BoolOp .Or (a :: b :: rest) pos) (orT t1 t2) := fun F => PW.wk (pw_or (ha F) (hb F)) fun _ _ _ h => tOr_of h
theorem dt_w (h : DW' X W a t1) : DT X W a t1 := fun F => (h F).pt
theorem dt_not (ha : DT X W a t1) : DT X W (.UnaryOp .Not a pos) (notT t1) := fun F => PT.wk (pt_not (ha F)) fun _ _ _ h => tNot_of h
theorem de_not (ha : DK X W a f1) : DE X W (.UnaryOp .Not a pos) (un notD f1) := fun F => PE.wk (pe_notT (ha F)) fun _ _ _ h => tNotT_of h
theorem de_one {op} (ha : DE X W a f1) : DE X W (.BoolOp op [a] pos) f1 := fun F => pe_one (ha F)
theorem de_and (ha : DE X W a f1) (hb : DE X W (.BoolOp .And (b :: rest) pos) f2) : DE X W (.BoolOp .And (a :: b :: rest) pos) (andV f1 f2) := fun F => PE.wk (pe_and (ha F) (hb F)) fun _ _ _ h => tAndV_of h
theorem de_or (ha : DE X W a f1) (hb : DE X W (.BoolOp .Or (b :: rest) pos) f2) : DE X W (.BoolOp .Or (a :: b :: rest) pos) (orV f1 f2) := fun F => PE.wk (pe_or (ha F) (hb F)) fun _ _ _ h => tOrV_of h
theorem de_if (hc : DT X W c t1) (ha : DE X W a f1) (hb : DE X W b f2) : DE X W (.IfExp c a b pos) (ifE t1 f1 f2) := fun F => PE.wk (pe_ifExp (hc F) (ha F) (hb F)) fun _ _ _ h => tIf_of h

/-! ### arguments, displays -/
variable {fa : Rho → R (List Dt)}
theorem da_nil : DA X W [] nilA := fun F => PA.wk pa_nil fun _ _ _ h => tNil_of h
theorem da_cons (ha : DE X W a f1) (hr : DA X W es fa) (he : starEach (a :: es) X.env = (false, eval a X.env) :: starEach es X.env := by rfl) : DA X W (a :: es) (consA f1 fa) := fun F => PA.wk (pa_cons (ha F) (hr F) he) fun _ _ _ h => tCons_of h
theorem de_tup {k} (h : DA X W es fa) : DE X W (.Tuple es k pos) (tupD fa) := fun F => PE.wk (pe_tup (h F)) fun _ _ _ q => tTup_of q
theorem de_lst (h : DA X W es fa) : DE X W (.List es pos) (lstD fa) := fun F => PE.wk (pe_lst (h F)) fun _ _ _ q => tLst_of q

/-! ### subscripts, slices -/
theorem de_ix (hu : X.A.units + 1 < cLine) (ha : DE X W a f1) (hb : DK X W b f2) (hs : PlainIx b) : DE X W (.Subscript a b pos) (bin ixD f1 f2) := fun F => PE.wk (pe_ix (ixr_all hu) (ha F) (hb F) hs) fun _ _ _ h => tOp_bin (opd_ix _) h
theorem de_ixP {i : Nat} {x : Str} (hu : X.A.units + 1 < cLine) (ha : PE X (.Name x p) (tVar i)) (hb : DK X W b f2) (hs : PlainIx b) : DE X W (.Subscript (.Name x p) b pos) (binP ixD i f2) := fun F => PE.wk (pe_ix (ixr_all hu) ha (hb F) hs) fun _ _ _ h => tOp_binP (opd_ix _) h
def tDP (g : Gx) (F : Fm) (W : WX) (f : Rho → R (Option Int)) : TO := fun σ H Q => ∃ H0 ρ, En g.K F H0 H σ ρ ∧ match f ρ with
  | .ok o ρ' => ∀ H0' H', En g.K F H0' H' σ ρ' → Mv σ ρ ρ' H0 H H0' H' → Q o H'
  | .ex e ρ' => XW g F W σ e ρ'
  | .bad => False
def DP (X : Cx) (W : WX) (e : Option Expr) (f : Rho → R (Option Int)) : Prop := ∀ F, PO X e (tDP (gx X) F W f)
theorem PO.wk {e : Option Expr} {t u : TO} (h : PO X e t) (k : ∀ σ H Q, u σ H Q → t σ H Q) : PO X e u := ⟨fun pins s σ H Q I q => h.run pins s σ H Q I (k σ H Q q)⟩
theorem dp_none : DP X W none noP := fun F => PO.wk po_none fun _ _ _ ⟨H0, ρ, E, q⟩ => q H0 _ E Mv.refl
theorem dp_some (h : DE X W e f1) : DP X W (some e) (someP f1) := fun F => PO.wk (po_some (h F)) fun σ H Q ⟨H0, ρ, E, q⟩ => by
  refine ⟨H0, ρ, E, ?_⟩
  unfold someP at q
  cases e : f1 ρ with
  | ok d ρ1 =>
    rw [e] at q
    dsimp only [R.bind] at q
    intro v H0' H' E' m hd
    cases d with
    | int i =>
      cases hd
      exact ⟨i, rfl, q H0' H' E' m⟩
    | _ => exact q.elim
  | ex x ρ1 =>
    rw [e] at q
    exact q
  | bad =>
    rw [e] at q
    exact q
def rSlAll (K : PySem.W.Frag) : V → Option Int → Option Int → Hp → VK → Prop := fun x lo hi H Q => rSlL K x lo hi H Q ∨ rSlA K x lo hi H Q ∨ rSlS x lo hi H Q
theorem slr_all : L2.SlR X (rSlAll X.K) := sl_list.or (sl_tupA.or sl_str)
theorem DaAll.cut {K : PySem.W.Frag} {H : Hp} {vs : List V} {ds : List Dt} (h : DaAll K H vs ds) (lo hi : Option Int) : DaAll K H (cutV vs lo hi) (cutD ds lo hi) := by
  unfold cutV cutD
  rw [h.length]
  exact (h.drop _).take _
theorem cut_whole {α : Type} (xs : List α) (lo hi : Option Int) (h : HT.sIx xs.length 0 lo = 0 ∧ HT.sIx xs.length xs.length hi = xs.length) : cutD xs lo hi = xs := by
  unfold cutD
  rw [h.1, h.2, List.drop_zero, Nat.sub_zero, List.take_length]
theorem cutD_map {α β : Type} (f : α → β) (xs : List α) (lo hi : Option Int) : cutD (xs.map f) lo hi = (cutD xs lo hi).map f := by
  unfold cutD
  rw [List.length_map, List.map_take, List.map_drop]
theorem slD_ok {K : PySem.W.Frag} {H0 H : Hp} {x : V} {d z : Dt} {lo hi : Option Int} (s : Same H0 H) (hx : Pk K H0 H x d) (hg : slD d lo hi = some z) {Q : VK} (k : ∀ v H0' H', Gr ⟨H0, H, none⟩ H0' H' → Same H0' H' → Da K H0' v z → Q v H') : rSlAll K x lo hi H Q := by
  unfold slD at hg
  split at hg
  · cases hg
    obtain ⟨a, vs, rfl, h1, h2⟩ := hx
    exact .inl ⟨a, vs, rfl, SqL.of h1, al_lst s (h2.cut _ _) k⟩
  · cases hg
    cases hx with
    | tup h1 h2 =>
      refine .inr (.inl ⟨_, _, rfl, seqT_mono s h1, fun hw => ?_, fun _ => al_tup s (h2.cut _ _) k⟩)
      rw [h2.length] at hw
      rw [cut_whole _ _ _ hw] at k
      exact sc s (.tup h1 h2) k
  · cases hg
    cases hx with
    | scr h1 =>
      refine .inl ⟨_, _, rfl, seqL_mono s h1, al_lst s ?_ k⟩
      rw [← cutD_map]
      exact (daInts _).cut _ _
  · split at hg
    · rename_i hl
      cases hg
      cases hx
      exact .inr (.inr ⟨_, rfl, sizeM hl, sc s (.str _) k⟩)
    · cases hg
  · cases hg
theorem tSl_of {g : Gx} {F : Fm} {W : WX} {f : Rho → R Dt} {fl fh : Rho → R (Option Int)} {σ : L2.St} {H : Hp} {Q : VK} (h : tD g F W (sl3 f fl fh) σ H Q) : tSl (rSlAll g.K) (tD g F W f) (tDP g F W fl) (tDP g F W fh) σ H Q := by
  obtain ⟨H0, ρ, E, q⟩ := h
  refine ⟨H0, ρ, E, ?_⟩
  unfold sl3 at q
  cases e1 : f ρ with
  | ok d ρ1 =>
    rw [e1] at q
    dsimp only [R.bind] at q
    intro x B0 B E1 m1 d1
    refine ⟨B0, ρ1, E1, ?_⟩
    cases e2 : fl ρ1 with
    | ok lo ρ2 =>
      rw [e2] at q
      dsimp only [R.bind] at q
      intro C0 C E2 m2
      refine ⟨C0, ρ2, E2, ?_⟩
      cases e3 : fh ρ2 with
      | ok hi ρ3 =>
        rw [e3] at q
        dsimp only [R.bind] at q
        intro D0 D E3 m3
        cases e4 : slD d lo hi with
        | none =>
          rw [e4] at q
          exact q.elim
        | some z =>
          rw [e4] at q
          refine slD_ok E3.ex (Da.pk E3.ex ((d1.mono m2.b0).mono m3.b0)) e4 fun v I0 I gr s4 d4 => ?_
          obtain ⟨E4, m4⟩ := E3.post ((m1.trans m2).trans m3) gr s4
          exact q v I0 I E4 m4 d4
      | ex x ρ1 =>
        rw [e3] at q
        exact q
      | bad =>
        rw [e3] at q
        exact q
    | ex x ρ1 =>
      rw [e2] at q
      exact q
    | bad =>
      rw [e2] at q
      exact q
  | ex x ρ1 =>
    rw [e1] at q
    exact q
  | bad =>
    rw [e1] at q
    exact q
theorem de_sl {lo hi : Option Expr} {fl fh : Rho → R (Option Int)} (he : DE X W e f1) (hl : DP X W lo fl) (hh : DP X W hi fh) : DE X W (.Subscript e (.Slice lo hi none p2) pos) (sl3 f1 fl fh) := fun F => PE.wk (pe_slice slr_all (he F) (hl F) (hh F)) fun _ _ _ h => tSl_of h

/-! ### built-in functions of one thing -/
theorem tCB1_of {g : Gx} {F : Fm} {W : WX} {f : Rho → R Dt} {r : List V → Hp → VK → Prop} {gg : Dt → Option Dt} (hr : UnD g.K (fun x H Q => r [x] H Q) gg) {σ : L2.St} {H : Hp} {Q : VK} (h : tD g F W (un gg f) σ H Q) : tCB r (tCons (tK g F W f) tNil) σ H Q := tUn_un (r := fun x H Q => r [x] H Q) hr h
theorem de_b1 {x : Str} {id : String} {r : List V → Hp → VK → Prop} {gg : Dt → Option Dt} (hc : CallR X (.builtin id) r) (hr : UnD X.K (fun x H Q => r [x] H Q) gg) (hg : Gl X x) (hm : X.mg x = none) (hv : bootBuiltins x = some (.builtin id)) (ha : DK X W e f1)
    (hn : x ≠ "__name__" := by decide) (hdb : (x == ("__debug__" : Str)) = false := by decide) (he : starEach (e :: []) X.env = (false, eval e X.env) :: starEach [] X.env := by rfl) (hpl : (backTo pos (starEach [] X.env)).any (·.1) = false := by rfl) :
    DE X W (.Call (.Name x p) [e] [] pos) (un gg f1) := fun F => PE.wk (pe_callB hc hg hm hv (pa_cons (ha F) pa_nil he) hn hdb he hpl) fun _ _ _ h => tCB1_of hr h
theorem de_t1 {x : Str} {T : String} {r : List V → Hp → VK → Prop} {gg : Dt → Option Dt} (hc : CallR X (.type T) r) (hr : UnD X.K (fun x H Q => r [x] H Q) gg) (hg : Gl X x) (hm : X.mg x = none) (hv : bootBuiltins x = some (.type T)) (ha : DK X W e f1)
    (hn : x ≠ "__name__" := by decide) (hdb : (x == ("__debug__" : Str)) = false := by decide) (he : starEach (e :: []) X.env = (false, eval e X.env) :: starEach [] X.env := by rfl) (hpl : (backTo pos (starEach [] X.env)).any (·.1) = false := by rfl) :
    DE X W (.Call (.Name x p) [e] [] pos) (un gg f1) := fun F => PE.wk (pe_callTy hc hg hm hv (pa_cons (ha F) pa_nil he) hn hdb he hpl) fun _ _ _ h => tCB1_of hr h
def lenD : Dt → Option Dt
  | .lst xs => some (.int xs.length)
  | .tup xs => some (.int xs.length)
  | .scr xs => some (.int xs.length)
  | .str z => if z.length ≤ 1000000 then some (.int z.length) else none
  | .dct kvs => some (.int kvs.length)
  | _ => none
def rLenA (K : PySem.W.Frag) : List V → Hp → VK → Prop := fun xs H Q => (∃ p ys, xs = [.ref p] ∧ (SqL K H p ys ∨ SqT K H p ys) ∧ Q (.int ys.length) H) ∨ (∃ z, xs = [.str z] ∧ z.length ≤ sizeLine ∧ Q (.int z.length) H) ∨ ∃ p kvs, xs = [.ref p] ∧ H p = some (.dK kvs) ∧ Q (.int kvs.length) H
theorem callr_len : CallR X (.builtin "len") (rLenA X.K) := callr_or call_len_seq (callr_or call_len_str (by
  intro pins s σ H xs us Q I r h
  obtain ⟨a, kvs, rfl, hd, q⟩ := h
  cases r with
  | cons r1 r2 =>
    cases r2
    cases r1
    exact d_len I (.inl hd) fun t s' I' => ⟨.int _, H, I', ⟨_, rfl⟩, q⟩))
theorem und_len (K : PySem.W.Frag) : UnD K (fun x H Q => rLenA K [x] H Q) lenD := by
  intro x d z H0 H s hx hg Q k
  unfold lenD at hg
  split at hg
  · cases hg
    obtain ⟨a, vs, rfl, h1, h2⟩ := hx
    exact .inl ⟨a, vs, rfl, .inl (SqL.of h1), by rw [h2.length]; exact sc s (.int _) k⟩
  · cases hg
    cases hx with
    | tup h1 h2 => exact .inl ⟨_, _, rfl, .inr (seqT_mono s h1), by rw [h2.length]; exact sc s (.int _) k⟩
  · cases hg
    cases hx with
    | scr h1 => exact .inl ⟨_, _, rfl, .inl (seqL_mono s h1), by rw [List.length_map]; exact sc s (.int _) k⟩
  · split at hg
    · rename_i hl
      cases hg
      cases hx
      exact .inr (.inl ⟨_, rfl, sizeM hl, sc s (.int _) k⟩)
    · cases hg
  · cases hg
    obtain ⟨a, ks, rfl, h1, h2⟩ := hx
    exact .inr (.inr ⟨a, ks, rfl, h1, by rw [h2.length]; exact sc s (.int _) k⟩)
  · cases hg
theorem de_len (hg : Gl X "len") (hm : X.mg "len" = none) (ha : DK X W e f1) (he : starEach (e :: []) X.env = (false, eval e X.env) :: starEach [] X.env := by rfl) : DE X W (.Call (.Name "len" p) [e] [] pos) (un lenD f1) := de_b1 callr_len (und_len _) hg hm PySem.boot_len ha (he := he)
/-- the ints of a list -/
def intsOf : List Dt → Option (List Int)
  | [] => some []
  | .int i :: ds => (intsOf ds).map (i :: ·)
  | _ :: _ => none
theorem intsOf_eq : ∀ {ds : List Dt} {ns : List Int}, intsOf ds = some ns → ds = ns.map .int
  | [], _, h => by cases h; rfl
  | .int i :: ds, ns, h => by
    obtain ⟨ms, h1, rfl⟩ := Option.map_eq_some_iff.mp h
    rw [intsOf_eq h1]
    rfl
  | .non :: _, _, h => by cases h
  | .bl _ :: _, _, h => by cases h
  | .str _ :: _, _, h => by cases h
  | .lst _ :: _, _, h => by cases h
  | .tup _ :: _, _, h => by cases h
  | .dct _ :: _, _, h => by cases h
  | .scr _ :: _, _, h => by cases h
theorem intsOf_map : ∀ ns : List Int, intsOf (ns.map .int) = some ns
  | [] => rfl
  | n :: ns => by
    show (intsOf (ns.map .int)).map (n :: ·) = _
    rw [intsOf_map ns]
    rfl
def sumD : Dt → Option Dt
  | .lst ds => (intsOf ds).map fun ns => .int ns.sum
  | _ => none
theorem und_sum (K : PySem.W.Frag) : UnD K (fun x H Q => rSum K [x] H Q) sumD := by
  intro x d z H0 H s hx hg Q k
  unfold sumD at hg
  split at hg
  · obtain ⟨ns, h, rfl⟩ := Option.map_eq_some_iff.mp hg
    obtain ⟨a, vs, rfl, h1, h2⟩ := hx
    rw [intsOf_eq h] at h2
    rw [h2.ints] at h1
    exact ⟨a, ns, rfl, SqL.of h1, sc s (.int _) k⟩
  · cases hg
theorem de_sum (hc : X.calm = true) (hg : Gl X "sum") (hm : X.mg "sum" = none) (ha : DK X W e f1) (he : starEach (e :: []) X.env = (false, eval e X.env) :: starEach [] X.env := by rfl) : DE X W (.Call (.Name "sum" p) [e] [] pos) (un sumD f1) :=
  de_b1 (cr_sum hc) (und_sum _) hg hm (by decide +kernel) ha (he := he)
/-- the greatest, the least -/
def maxL : Int → List Int → Int
  | m, [] => m
  | m, n :: ns => maxL (if m < n then n else m) ns
def minL : Int → List Int → Int
  | m, [] => m
  | m, n :: ns => minL (if n < m then n else m) ns
theorem maxL_spec : ∀ (ns : List Int) (m : Int), (maxL m ns = m ∨ maxL m ns ∈ ns) ∧ m ≤ maxL m ns ∧ ∀ y ∈ ns, y ≤ maxL m ns
  | [], m => ⟨.inl rfl, Int.le_refl _, fun _ h => nomatch h⟩
  | n :: ns, m => by
    obtain ⟨h1, h2, h3⟩ := maxL_spec ns (if m < n then n else m)
    show (maxL (if m < n then n else m) ns = m ∨ maxL (if m < n then n else m) ns ∈ n :: ns) ∧ m ≤ maxL (if m < n then n else m) ns ∧ ∀ y ∈ n :: ns, y ≤ maxL (if m < n then n else m) ns
    refine ⟨?_, ?_, fun y hy => ?_⟩
    · rcases h1 with h | h
      · rw [h]
        split
        · exact .inr List.mem_cons_self
        · exact .inl rfl
      · exact .inr (List.mem_cons_of_mem _ h)
    · exact Int.le_trans (by split <;> omega) h2
    · rcases List.mem_cons.mp hy with rfl | hy
      · exact Int.le_trans (by split <;> omega) h2
      · exact h3 y hy
theorem minL_spec : ∀ (ns : List Int) (m : Int), (minL m ns = m ∨ minL m ns ∈ ns) ∧ minL m ns ≤ m ∧ ∀ y ∈ ns, minL m ns ≤ y
  | [], m => ⟨.inl rfl, Int.le_refl _, fun _ h => nomatch h⟩
  | n :: ns, m => by
    obtain ⟨h1, h2, h3⟩ := minL_spec ns (if n < m then n else m)
    show (minL (if n < m then n else m) ns = m ∨ minL (if n < m then n else m) ns ∈ n :: ns) ∧ minL (if n < m then n else m) ns ≤ m ∧ ∀ y ∈ n :: ns, minL (if n < m then n else m) ns ≤ y
    refine ⟨?_, ?_, fun y hy => ?_⟩
    · rcases h1 with h | h
      · rw [h]
        split
        · exact .inr List.mem_cons_self
        · exact .inl rfl
      · exact .inr (List.mem_cons_of_mem _ h)
    · exact Int.le_trans h2 (by split <;> omega)
    · rcases List.mem_cons.mp hy with rfl | hy
      · exact Int.le_trans h2 (by split <;> omega)
      · exact h3 y hy
def maxD : Dt → Option Dt
  | .lst ds => (intsOf ds).bind fun ns => match ns with
    | [] => none
    | n :: ns => some (.int (maxL n ns))
  | _ => none
def minD : Dt → Option Dt
  | .lst ds => (intsOf ds).bind fun ns => match ns with
    | [] => none
    | n :: ns => some (.int (minL n ns))
  | _ => none
theorem und_max (K : PySem.W.Frag) : UnD K (fun x H Q => rMax K [x] H Q) maxD := by
  intro x d z H0 H s hx hg Q k
  unfold maxD at hg
  split at hg
  · obtain ⟨ns, h, hg⟩ := Option.bind_eq_some_iff.mp hg
    obtain ⟨a, vs, rfl, h1, h2⟩ := hx
    rw [intsOf_eq h] at h2
    rw [h2.ints] at h1
    cases ns with
    | nil => cases hg
    | cons n ns =>
      cases hg
      refine ⟨a, n :: ns, rfl, SqL.of h1, Nat.succ_pos _, fun m hm hl => ?_⟩
      obtain ⟨q1, q2, q3⟩ := maxL_spec ns n
      have e : m = maxL n ns := by
        have l1 : m ≤ maxL n ns := by
          rcases List.mem_cons.mp hm with rfl | hm
          · exact q2
          · exact q3 m hm
        have l2 : maxL n ns ≤ m := hl _ (by
          rcases q1 with q | q
          · rw [q]; exact List.mem_cons_self
          · exact List.mem_cons_of_mem _ q)
        omega
      rw [e]
      exact sc s (.int _) k
  · cases hg
theorem und_min (K : PySem.W.Frag) : UnD K (fun x H Q => rMin K [x] H Q) minD := by
  intro x d z H0 H s hx hg Q k
  unfold minD at hg
  split at hg
  · obtain ⟨ns, h, hg⟩ := Option.bind_eq_some_iff.mp hg
    obtain ⟨a, vs, rfl, h1, h2⟩ := hx
    rw [intsOf_eq h] at h2
    rw [h2.ints] at h1
    cases ns with
    | nil => cases hg
    | cons n ns =>
      cases hg
      refine ⟨a, n :: ns, rfl, SqL.of h1, Nat.succ_pos _, fun m hm hl => ?_⟩
      obtain ⟨q1, q2, q3⟩ := minL_spec ns n
      have e : m = minL n ns := by
        have l1 : minL n ns ≤ m := by
          rcases List.mem_cons.mp hm with rfl | hm
          · exact q2
          · exact q3 m hm
        have l2 : m ≤ minL n ns := hl _ (by
          rcases q1 with q | q
          · rw [q]; exact List.mem_cons_self
          · exact List.mem_cons_of_mem _ q)
        omega
      rw [e]
      exact sc s (.int _) k
  · cases hg
theorem de_max (hc : X.calm = true) (hg : Gl X "max") (hm : X.mg "max" = none) (ha : DK X W e f1) (he : starEach (e :: []) X.env = (false, eval e X.env) :: starEach [] X.env := by rfl) : DE X W (.Call (.Name "max" p) [e] [] pos) (un maxD f1) :=
  de_b1 (cr_max hc) (und_max _) hg hm (by decide +kernel) ha (he := he)
theorem de_min (hc : X.calm = true) (hg : Gl X "min") (hm : X.mg "min" = none) (ha : DK X W e f1) (he : starEach (e :: []) X.env = (false, eval e X.env) :: starEach [] X.env := by rfl) : DE X W (.Call (.Name "min" p) [e] [] pos) (un minD f1) :=
  de_b1 (cr_min hc) (und_min _) hg hm (by decide +kernel) ha (he := he)
def blsOf : List Dt → Option (List Bool)
  | [] => some []
  | .bl i :: ds => (blsOf ds).map (i :: ·)
  | _ :: _ => none
theorem blsOf_eq : ∀ {ds : List Dt} {ns : List Bool}, blsOf ds = some ns → ds = ns.map .bl
  | [], _, h => by cases h; rfl
  | .bl i :: ds, ns, h => by
    obtain ⟨ms, h1, rfl⟩ := Option.map_eq_some_iff.mp h
    rw [blsOf_eq h1]
    rfl
  | .non :: _, _, h => by cases h
  | .int _ :: _, _, h => by cases h
  | .str _ :: _, _, h => by cases h
  | .lst _ :: _, _, h => by cases h
  | .tup _ :: _, _, h => by cases h
  | .dct _ :: _, _, h => by cases h
  | .scr _ :: _, _, h => by cases h
theorem blsOf_map : ∀ ns : List Bool, blsOf (ns.map .bl) = some ns
  | [] => rfl
  | n :: ns => by
    show (blsOf (ns.map .bl)).map (n :: ·) = _
    rw [blsOf_map ns]
    rfl
def allD : Dt → Option Dt
  | .lst ds => (blsOf ds).map fun bs => .bl (bs.all id)
  | _ => none
theorem und_all (K : PySem.W.Frag) : UnD K (fun x H Q => rAll K [x] H Q) allD := by
  intro x d z H0 H s hx hg Q k
  unfold allD at hg
  split at hg
  · obtain ⟨ns, h, rfl⟩ := Option.map_eq_some_iff.mp hg
    obtain ⟨a, vs, rfl, h1, h2⟩ := hx
    rw [blsOf_eq h] at h2
    rw [h2.bls] at h1
    exact ⟨a, ns, rfl, SqL.of h1, sc s (.bl _) k⟩
  · cases hg
theorem de_all (hc : X.calm = true) (hg : Gl X "all") (hm : X.mg "all" = none) (ha : DK X W e f1) (he : starEach (e :: []) X.env = (false, eval e X.env) :: starEach [] X.env := by rfl) : DE X W (.Call (.Name "all" p) [e] [] pos) (un allD f1) :=
  de_b1 (cr_all hc) (und_all _) hg hm (by decide +kernel) ha (he := he)
/-! ### tuple(x), list(x), int(x) -/
def tupleD : Dt → Option Dt
  | .lst ds => some (.tup ds)
  | .tup ds => some (.tup ds)
  | .scr ns => some (.tup (ns.map .int))
  | _ => none
theorem und_tuple : UnD X.K (fun x H Q => ∃ p ys, [x] = [V.ref p] ∧ ((SqL X.K H p ys ∧ ∀ l, H l = none → Q (.ref l) (upd H l (.tup ys))) ∨ (SqT X.K H p ys ∧ Q (.ref p) H))) tupleD := by
  intro x d z H0 H s hx hg Q k
  unfold tupleD at hg
  split at hg
  · cases hg
    obtain ⟨a, vs, rfl, h1, h2⟩ := hx
    exact ⟨a, vs, rfl, .inl ⟨SqL.of h1, al_tup s h2 k⟩⟩
  · cases hg
    cases hx with
    | tup h1 h2 => exact ⟨_, _, rfl, .inr ⟨seqT_mono s h1, sc s (.tup h1 h2) k⟩⟩
  · cases hg
    cases hx with
    | scr h1 => exact ⟨_, _, rfl, .inl ⟨seqL_mono s h1, al_tup s (daInts _) k⟩⟩
  · cases hg
theorem de_tuple (hg : Gl X "tuple") (hm : X.mg "tuple" = none) (ha : DK X W e f1) (he : starEach (e :: []) X.env = (false, eval e X.env) :: starEach [] X.env := by rfl) : DE X W (.Call (.Name "tuple" p) [e] [] pos) (un tupleD f1) :=
  de_t1 call_tuple_of und_tuple hg hm (by decide +kernel) ha (he := he)
def listD : Dt → Option Dt
  | .lst ds => some (.lst ds)
  | .tup ds => some (.lst ds)
  | .scr ns => some (.lst (ns.map .int))
  | _ => none
theorem und_list : UnD X.K (fun x H Q => ∃ p ys, [x] = [V.ref p] ∧ (SqL X.K H p ys ∨ SqT X.K H p ys) ∧ ∀ l, H l = none → Q (.ref l) (upd H l (.lst ys))) listD := by
  intro x d z H0 H s hx hg Q k
  unfold listD at hg
  split at hg
  · cases hg
    obtain ⟨a, vs, rfl, h1, h2⟩ := hx
    exact ⟨a, vs, rfl, .inl (SqL.of h1), al_lst s h2 k⟩
  · cases hg
    cases hx with
    | tup h1 h2 => exact ⟨_, _, rfl, .inr (seqT_mono s h1), al_lst s h2 k⟩
  · cases hg
    cases hx with
    | scr h1 => exact ⟨_, _, rfl, .inl (seqL_mono s h1), al_lst s (daInts _) k⟩
  · cases hg
theorem de_list (hg : Gl X "list") (hm : X.mg "list" = none) (ha : DK X W e f1) (he : starEach (e :: []) X.env = (false, eval e X.env) :: starEach [] X.env := by rfl) : DE X W (.Call (.Name "list" p) [e] [] pos) (un listD f1) :=
  de_t1 call_list_of und_list hg hm (by decide +kernel) ha (he := he)
def intD : Dt → Option Dt
  | .int i => some (.int i)
  | .bl b => some (.int (if b then 1 else 0))
  | _ => none
theorem und_int (K : PySem.W.Frag) : UnD K (fun x H Q => (∃ i, [x] = [V.int i] ∧ Q (.int i) H) ∨ ∃ k, [x] = [V.bl k] ∧ Q (.int (if k then 1 else 0)) H) intD := by
  intro x d z H0 H s hx hg Q k
  unfold intD at hg
  split at hg
  · cases hg
    cases hx
    exact .inl ⟨_, rfl, sc s (.int _) k⟩
  · cases hg
    cases hx
    exact .inr ⟨_, rfl, sc s (.int _) k⟩
  · cases hg
theorem de_toint (hg : Gl X "int") (hm : X.mg "int" = none) (ha : DK X W e f1) (he : starEach (e :: []) X.env = (false, eval e X.env) :: starEach [] X.env := by rfl) : DE X W (.Call (.Name "int" p) [e] [] pos) (un intD f1) :=
  de_t1 call_int1 (und_int _) hg hm (by decide +kernel) ha (he := he)
end
end DW

set_option Elab.async false
set_option linter.all false
set_option maxRecDepth 100000
set_option maxHeartbeats 4000000
/-! DW7: isinstance, calls of defs, statements, a def's promise -/
namespace DW
open PySem PySem.Spec PyProof.Rows L2

/-! ### isinstance -/
inductive Ty where
  | int | bool | tuple | str | list | dict | none
  deriving DecidableEq
def Ty.nm : Ty → String
  | .int => "int" | .bool => "bool" | .tuple => "tuple" | .str => "str" | .list => "list" | .dict => "dict" | .none => "NoneType"
def tyD : Dt → Ty
  | .non => .none
  | .bl _ => .bool
  | .int _ => .int
  | .str _ => .str
  | .lst _ => .list
  | .tup _ => .tuple
  | .dct _ => .dict
  | .scr _ => .list
  | .xo _ _ _ => .none
def isiT : Ty → Ty → Bool
  | .int, .int => true | .int, .bool => true | .bool, .bool => true | .tuple, .tuple => true | .str, .str => true | .list, .list => true | .dict, .dict => true | .none, .none => true
  | _, _ => false
theorem kit_T (T t : Ty) (h : T ≠ .none) : kitB t.nm T.nm = some (isiT T t) := by
  cases T <;> cases t <;> first | exact absurd rfl h | decide +kernel
def isiD (T : Ty) (d : Dt) : Option Dt := match d with
  | .xo _ _ _ => none
  | d => some (.bl (isiT T (tyD d)))
theorem isiD_some {T : Ty} {d z : Dt} (h : isiD T d = some z) : z = .bl (isiT T (tyD d)) ∧ ∀ c f v, d ≠ .xo c f v := by
  cases d with
  | xo _ _ _ => cases h
  | _ => cases h; exact ⟨rfl, fun _ _ _ z => nomatch z⟩
theorem tyX_of {K : PySem.W.Frag} {H0 H : Hp} {v : V} {d : Dt} (s : Same H0 H) (h : Pk K H0 H v d) (hx : ∀ c f v, d ≠ .xo c f v) : TyX K H v (.type (tyD d).nm) := by
  cases d with
  | xo c f v => exact absurd rfl (hx c f v)
  | non => cases h; exact .base .non
  | bl b => cases h; exact .base (.bl b)
  | int b => cases h; exact .base (.int b)
  | str b => cases h; exact .base (.str b)
  | lst ds =>
    obtain ⟨a, vs, rfl, h1, _⟩ := h
    exact .base (.lst h1)
  | dct ds =>
    obtain ⟨a, vs, rfl, h1, _⟩ := h
    exact .base (.dK h1)
  | tup ds =>
    cases h with
    | tup h1 h2 =>
      rcases seqT_mono s h1 with (h | ⟨o, h⟩) | ⟨o, its, n, h, c, _⟩
      · exact .base (.tup h)
      · exact .fTuple h
      · exact .kTuple h c
  | scr ds =>
    cases h with
    | scr h1 =>
      rcases seqL_mono s h1 with (h | ⟨o, h⟩) | ⟨o, its, n, h, c, _⟩
      · exact .base (.lst h)
      · exact .base (.frz h)
      · exact .kList h c
section
variable {X : Cx} {W : WX} {a b c e : Expr} {es : List Expr} {pos p p2 : Pos} {f1 f2 f3 : Rho → R Dt}
theorem de_isi (T : Ty) {x : Str} (hT : T ≠ .none) (hg : Gl X "isinstance") (hm : X.mg "isinstance" = none) (hgT : Gl X x) (hmT : X.mg x = none) (hvT : bootBuiltins x = some (.type T.nm)) (ha : DK X W e f1) (hnx : x ≠ "__name__" := by decide) (hdx : (x == ("__debug__" : Str)) = false := by decide)
    (he : starEach (e :: [.Name x p2]) X.env = (false, eval e X.env) :: starEach [.Name x p2] X.env := by rfl) (hpl : (backTo pos (starEach [.Name x p2] X.env)).any (·.1) = false := by rfl) (he2 : starEach (.Name x p2 :: []) X.env = (false, eval (.Name x p2) X.env) :: starEach [] X.env := by rfl) :
    DE X W (.Call (.Name "isinstance" p) [e, .Name x p2] [] pos) (un (isiD T) f1) := fun F =>
  PE.wk (pe_callB call_isi hg hm (by decide +kernel) (pa_cons (ha F) (pa_cons (pe_bltn (v := .ty T.nm) hgT hmT hvT rfl hnx hdx) pa_nil he2) he) (he := he) (hpl := hpl)) fun σ H Q h =>
    tUn_un (r := fun x H Q => rIsi X.K [x, .ty T.nm] H Q) (fun x d z H0 H s hx hg Q k => by
      obtain ⟨rfl, hn⟩ := isiD_some hg
      exact ⟨x, .ty T.nm, _, _, _, rfl, .ty _, tyX_of s hx hn, kit_ty (kit_T T (tyD d) hT), sc s (.bl _) k⟩) h

/-! ### a def's promise -/
inductive FR where
  | ok (s : Sl) | ex (e : Xc) | bad
abbrev Fn := List Dt → FR
def envOf (n : Nat) (ds : List Dt) : Rho := ds.map (fun d => some (.fr d)) ++ List.replicate (n - ds.length) none
def runF (np nn : Nat) (body : Rho → SR) : Fn := fun ds => if ds.length = np then match body (envOf nn ds) with
  | .rt s _ => .ok s
  | .nx _ => .ok (.fr .non)
  | .ex e _ => .ex e
  | _ => .bad
  else .bad
def spF (g : Gx) (fn : Fn) : Sp := fun vs H Q _ => ∃ H0 ds, Same H0 H ∧ TbOk g.K H0 H ∧ DaAll g.K H0 vs ds ∧ match fn ds with
  | .ok s => ∀ v H0' H', Gw ⟨H0, H, none⟩ H0' H' → TbOk g.K H0' H' → Same H0' H' → SlR g.K ⟨H0, H, none⟩ H0' H' v s → Q v H'
  | _ => False
abbrev WF : WX := fun _ _ _ _ => False
/-- a def with a dict handed in that it may change -/
inductive FM where
  | ok (s : Sl) (kvs : List (Key × Dt)) | ex (e : Xc) | bad
abbrev FnM := List (Key × Dt) → List Dt → FM
def envM (n : Nat) (kvs : List (Key × Dt)) (ds : List Dt) : Rho := some (.io kvs) :: (ds.map (fun d => some (.fr d)) ++ List.replicate (n - (ds.length + 1)) none)
def ioOf (ρ : Rho) : Option (List (Key × Dt)) := match ρ with
  | some (.io kvs) :: _ => some kvs
  | _ => none
def runM (np nn : Nat) (body : Rho → SR) : FnM := fun kvs ds => if ds.length + 1 = np then match body (envM nn kvs ds) with
  | .rt s ρ => match ioOf ρ with
    | some kvs' => .ok s kvs'
    | none => .bad
  | .nx ρ => match ioOf ρ with
    | some kvs' => .ok (.fr .non) kvs'
    | none => .bad
  | .ex e _ => .ex e
  | _ => .bad
  else .bad
def spM (g : Gx) (fn : FnM) : Sp := fun vs H Q _ => ∃ H0 a ks kvs vs' ds, vs = .ref a :: vs' ∧ Same H0 H ∧ TbOk g.K H0 H ∧ H0 a = none ∧ H a = some (.dK ks) ∧ DaKv g.K H0 ks kvs ∧ DaAll g.K H0 vs' ds ∧ match fn kvs ds with
  | .ok s kvs' => ∀ v ks' H0' H', Gw ⟨H0, H, some a⟩ H0' H' → TbOk g.K H0' H' → Same H0' H' → H' a = some (.dK ks') → DaKv g.K H0' ks' kvs' → SlR g.K ⟨H0, H, some a⟩ H0' H' v s → Q v H'
  | _ => False

theorem envOf_get {n : Nat} {ds : List Dt} {i : Nat} {s : Sl} (h : (envOf n ds)[i]? = some (some s)) : ∃ d, s = .fr d ∧ ds[i]? = some d := by
  unfold envOf at h
  by_cases hi : i < ds.length
  · rw [List.getElem?_append_left (by simpa using hi), List.getElem?_map] at h
    cases e : ds[i]? with
    | none => rw [e] at h; cases h
    | some d =>
      rw [e] at h
      cases h
      exact ⟨d, rfl, rfl⟩
  · rw [List.getElem?_append_right (by simpa using Nat.le_of_not_lt hi)] at h
    obtain ⟨h1, h2⟩ := List.getElem?_eq_some_iff.mp h
    rw [List.getElem_replicate] at h2
    cases h2
theorem start_get {N : List Str} {vs : List V} {i : Nat} {v : V} (h : vs[i]? = some v) : (L2.start N vs)[i]? = some (some v) := by
  unfold L2.start
  have hi := lt_of_get h
  rw [List.getElem?_append_left (by simpa using hi), List.getElem?_map, h]
  rfl
theorem en_start {K : PySem.W.Frag} {H0 H : Hp} {N : List Str} {vs : List V} {ds : List Dt} (s : Same H0 H) (t : TbOk K H0 H) (h : DaAll K H0 vs ds) (hl : ds.length ≤ N.length) : En K ⟨H0, H, none⟩ H0 H (L2.start N vs) (envOf N.length ds) where
  gr := Gw.refl H0 H none
  tb := t
  ex := s
  len := by
    unfold L2.start envOf
    simp only [List.length_append, List.length_map, List.length_replicate, h.length]
  sl := fun i s hs => by
    obtain ⟨d, rfl, hd⟩ := envOf_get hs
    obtain ⟨v, h1, h2⟩ := h.get hd
    exact ⟨v, start_get h1, h2⟩
  sep := fun i j s t a _ h1 _ o1 _ _ => by
    obtain ⟨d, rfl, _⟩ := envOf_get h1
    cases o1
  io := fun a z => nomatch z
  io1 := fun i kvs h => by
    obtain ⟨d, z, _⟩ := envOf_get h
    cases z
theorem envM_get {n : Nat} {kvs : List (Key × Dt)} {ds : List Dt} {i : Nat} {s : Sl} (h : (envM n kvs ds)[i]? = some (some s)) : (i = 0 ∧ s = .io kvs) ∨ ∃ j d, i = j + 1 ∧ s = .fr d ∧ ds[j]? = some d := by
  cases i with
  | zero =>
    simp [envM] at h
    exact .inl ⟨rfl, h.symm⟩
  | succ j =>
    refine .inr ⟨j, ?_⟩
    have h' : (ds.map (fun d => some (Sl.fr d)) ++ List.replicate (n - (ds.length + 1)) none)[j]? = some (some s) := by simpa [envM] using h
    by_cases hi : j < ds.length
    · rw [List.getElem?_append_left (by simpa using hi), List.getElem?_map] at h'
      cases e : ds[j]? with
      | none => rw [e] at h'; cases h'
      | some d =>
        rw [e] at h'
        cases h'
        exact ⟨d, rfl, rfl, rfl⟩
    · rw [List.getElem?_append_right (by simpa using Nat.le_of_not_lt hi)] at h'
      obtain ⟨h1, h2⟩ := List.getElem?_eq_some_iff.mp h'
      rw [List.getElem_replicate] at h2
      cases h2
theorem en_startM {K : PySem.W.Frag} {H0 H : Hp} {N : List Str} {a : Addr} {ks : List (Key × V)} {kvs : List (Key × Dt)} {vs : List V} {ds : List Dt} (s : Same H0 H) (t : TbOk K H0 H) (h0 : H0 a = none) (ha : H a = some (.dK ks)) (hk : DaKv K H0 ks kvs) (h : DaAll K H0 vs ds) (hl : ds.length + 1 ≤ N.length) :
    En K ⟨H0, H, some a⟩ H0 H (L2.start N (.ref a :: vs)) (envM N.length kvs ds) where
  gr := Gw.refl H0 H (some a)
  tb := t
  ex := s
  len := by
    unfold L2.start envM
    simp only [List.length_append, List.length_map, List.length_replicate, List.length_cons, h.length]
    omega
  sl := fun i s hs => by
    rcases envM_get hs with ⟨rfl, rfl⟩ | ⟨j, d, rfl, rfl, hd⟩
    · exact ⟨.ref a, start_get rfl, a, ks, rfl, h0, rfl, ha, hk⟩
    · obtain ⟨v, h1, h2⟩ := h.get hd
      exact ⟨v, start_get (by simpa using h1), h2⟩
  sep := fun i j s t b hij h1 _ o1 _ _ => by
    rcases envM_get h1 with ⟨_, rfl⟩ | ⟨_, d, _, rfl, _⟩ <;> cases o1
  io := fun b z => by
    cases z
    refine ⟨start_get rfl, ⟨kvs, rfl⟩, ?_⟩
    show H a ≠ none
    rw [ha]
    exact fun z => nomatch z
  io1 := fun i kvs' h => by
    rcases envM_get h with ⟨rfl, _⟩ | ⟨j, d, _, z, _⟩
    · rfl
    · cases z
end
section
variable {P : Program} {w : World} {K : PySem.W.Frag} {mg : Str → Option Value} {base : Heap}
/-- THE RULE for a def that raises nothing -/
theorem fn0 {x qual : Str} {st : Stmt} {f : Addr} {fd : FuncData} {N ps : List Str} {k : Nat} {body : Rho → SR} (F : Fun K x qual st f fd) (S : FnScope N ps (defScope st)) (hN : ps.length ≤ N.length)
    (hb : ∀ (cdv : Value) (A : Around) (outer : List Env) (s : Shared) (H : Hp) (E : XK), Room k (A.deeper (envOfC qual (defScope st) s.heap.objs.size f cdv)) → DSs (cxOf CX0 P w K mg base N qual (defScope st) f cdv A outer s H E).nox WF (defBody st) body) :
    FnOk P w K mg base CX0 (k + 1) f fd ps (spF ⟨K, mg⟩ (runF ps.length N.length body)) := by
  have lem : ∀ ds : List Dt, (∃ s, runF ps.length N.length body ds = .ok s) → ds.length = ps.length := fun ds ⟨s, h⟩ => by
    unfold runF at h
    split at h
    · assumption
    · cases h
  refine F.ok S (fun vs H Q E h => ?_) (fun cdv A outer s H vs Q E hr h => ?_)
  · obtain ⟨H0, ds, h1, tb, h2, h3⟩ := h
    cases e : runF ps.length N.length body ds with
    | ok s => rw [h2.length]; exact lem ds ⟨s, e⟩
    | ex _ => rw [e] at h3; exact h3.elim
    | bad => rw [e] at h3; exact h3.elim
  · obtain ⟨H0, ds, h1, tb, h2, h3⟩ := h
    have hl : ds.length = ps.length := by
      cases e : runF ps.length N.length body ds with
      | ok s => exact lem ds ⟨s, e⟩
      | ex _ => rw [e] at h3; exact h3.elim
      | bad => rw [e] at h3; exact h3.elim
    refine ⟨_, hb cdv A outer s H E hr ⟨H0, H, none⟩, H0, envOf N.length ds, en_start h1 tb h2 (by omega), ?_⟩
    unfold runF at h3
    rw [if_pos hl] at h3
    cases e : body (envOf N.length ds) with
    | nx ρ' =>
      rw [e] at h3
      exact fun σ' H0' H' E' _ => h3 _ H0' H' E'.gr E'.tb E'.ex (Da.non : Da K H0' .non .non)
    | rt s ρ' =>
      rw [e] at h3
      exact fun v σ' H0' H' E' hs => h3 _ H0' H' E'.gr E'.tb E'.ex hs
    | bk _ => rw [e] at h3; exact h3.elim
    | ct _ => rw [e] at h3; exact h3.elim
    | ex _ _ => rw [e] at h3; exact h3.elim
    | bad => rw [e] at h3; exact h3.elim
theorem fnM {x qual : Str} {st : Stmt} {f : Addr} {fd : FuncData} {N ps : List Str} {k : Nat} {body : Rho → SR} (F : Fun K x qual st f fd) (S : FnScope N ps (defScope st)) (hN : ps.length ≤ N.length)
    (hb : ∀ (cdv : Value) (A : Around) (outer : List Env) (s : Shared) (H : Hp) (E : XK), Room k (A.deeper (envOfC qual (defScope st) s.heap.objs.size f cdv)) → DSs (cxOf CX0 P w K mg base N qual (defScope st) f cdv A outer s H E).nox WF (defBody st) body) :
    FnOk P w K mg base CX0 (k + 1) f fd ps (spM ⟨K, mg⟩ (runM ps.length N.length body)) := by
  have lem : ∀ kvs (ds : List Dt), (∃ s kvs', runM ps.length N.length body kvs ds = .ok s kvs') → ds.length + 1 = ps.length := fun kvs ds ⟨s, kvs', h⟩ => by
    unfold runM at h
    split at h
    · assumption
    · cases h
  have lem2 : ∀ {Q : VK} {E : XK} {vs : List V} {H : Hp}, spM ⟨K, mg⟩ (runM ps.length N.length body) vs H Q E → vs.length = ps.length := fun {Q E vs H} h => by
    obtain ⟨H0, a, ks, kvs, vs', ds, rfl, h1, tb, h2, h3, h4, h5, h6⟩ := h
    cases e : runM ps.length N.length body kvs ds with
    | ok s kvs' => rw [List.length_cons, h5.length]; exact lem kvs ds ⟨s, kvs', e⟩
    | ex _ => rw [e] at h6; exact h6.elim
    | bad => rw [e] at h6; exact h6.elim
  refine F.ok S (fun vs H Q E h => lem2 h) (fun cdv A outer s H vs Q E hr h => ?_)
  have hvl := lem2 h
  obtain ⟨H0, a, ks, kvs, vs', ds, rfl, h1, tb, h2, h3, h4, h5, h6⟩ := h
  have hl : ds.length + 1 = ps.length := by rw [List.length_cons, h5.length] at hvl; exact hvl
  refine ⟨_, hb cdv A outer s H E hr ⟨H0, H, some a⟩, H0, envM N.length kvs ds, en_startM h1 tb h2 h3 h4 h5 (by omega), ?_⟩
  unfold runM at h6
  rw [if_pos hl] at h6
  have atIo : ∀ {σ' : L2.St} {ρ' : Rho} {H0' H' : Hp} {kvs' : List (Key × Dt)}, En K ⟨H0, H, some a⟩ H0' H' σ' ρ' → ioOf ρ' = some kvs' → ∃ ks', H' a = some (.dK ks') ∧ DaKv K H0' ks' kvs' := fun {σ' ρ' H0' H' kvs'} E' hio => by
    obtain ⟨y1, ⟨kv, y2⟩, _⟩ := E'.io a rfl
    obtain ⟨v, z1, b, ks2, rfl, z2, z3, z4, z5⟩ := E'.sl 0 _ y2
    rw [y1] at z1
    cases z1
    refine ⟨ks2, z4, ?_⟩
    cases ρ' with
    | nil => cases y2
    | cons x r =>
      have hx : x = some (.io kv) := by simpa using y2
      subst hx
      have : kv = kvs' := by simpa [ioOf] using hio
      subst this
      exact z5
  cases e : body (envM N.length kvs ds) with
  | nx ρ' =>
    rw [e] at h6
    intro σ' H0' H' E' _
    cases e2 : ioOf ρ' with
    | none => dsimp only at h6; rw [e2] at h6; exact h6.elim
    | some kvs' =>
      dsimp only at h6
      rw [e2] at h6
      obtain ⟨ks', q1, q2⟩ := atIo E' e2
      exact h6 _ ks' H0' H' E'.gr E'.tb E'.ex q1 q2 (Da.non : Da K H0' .non .non)
  | rt s ρ' =>
    rw [e] at h6
    intro v σ' H0' H' E' hs
    cases e2 : ioOf ρ' with
    | none => dsimp only at h6; rw [e2] at h6; exact h6.elim
    | some kvs' =>
      dsimp only at h6
      rw [e2] at h6
      obtain ⟨ks', q1, q2⟩ := atIo E' e2
      exact h6 _ ks' H0' H' E'.gr E'.tb E'.ex q1 q2 hs
  | bk _ => rw [e] at h6; exact h6.elim
  | ct _ => rw [e] at h6; exact h6.elim
  | ex _ _ => rw [e] at h6; exact h6.elim
  | bad => rw [e] at h6; exact h6.elim
end

/-! ### calls of defs -/
def callF (fn : Fn) (fa : Rho → R (List Dt)) : Rho → R Dt := fun ρ => (fa ρ).bind fun ds ρ1 => match fn ds with
  | .ok (.fr d) => .ok d ρ1
  | _ => .bad
def callO (fn : Fn) (fa : Rho → R (List Dt)) : Rho → R Sl := fun ρ => (fa ρ).bind fun ds ρ1 => match fn ds with
  | .ok (.raw _ _) => .bad
  | .ok s => .ok s ρ1
  | _ => .bad
/-- the dict in a slot, what stands there when it has become another -/
def dAt (i : Nat) (ρ : Rho) : Option (List (Key × Dt)) := match (ρ[i]? : Option (Option Sl)) with
  | some (some (.od kvs)) => some kvs
  | some (some (.io kvs)) => some kvs
  | _ => none
def dPut (i : Nat) (kvs' : List (Key × Dt)) (ρ : Rho) : Rho := match (ρ[i]? : Option (Option Sl)) with
  | some (some (.od _)) => ρ.set i (some (.od kvs'))
  | some (some (.io _)) => ρ.set i (some (.io kvs'))
  | _ => ρ
def callM (fn : FnM) (i : Nat) (fa : Rho → R (List Dt)) : Rho → R Dt := fun ρ => match dAt i ρ with
  | none => .bad
  | some _ => (fa ρ).bind fun ds ρ1 => match dAt i ρ1 with
    | none => .bad
    | some kvs => match fn kvs ds with
      | .ok (.fr d) kvs' => .ok d (dPut i kvs' ρ1)
      | _ => .bad
section
variable {g : Gx} {F : Fm} {W : WX} {σ : L2.St} {H : Hp} {Q : VK}
theorem tCall_of {fn : Fn} {fa : Rho → R (List Dt)} {E : XK} (h : tD g F W (callF fn fa) σ H Q) : tCall (spF g fn) [] E (tDA g F W fa) σ H Q := by
  obtain ⟨H0, ρ, E, q⟩ := h
  refine ⟨H0, ρ, E, ?_⟩
  unfold callF at q
  cases e : fa ρ with
  | ok ds ρ1 =>
    rw [e] at q
    dsimp only [R.bind] at q
    intro vs H0' H' E' m hd
    rw [List.append_nil]
    refine ⟨H0', ds, E'.ex, E'.tb, hd, ?_⟩
    cases e2 : fn ds with
    | ok s =>
      rw [e2] at q
      cases s with
      | fr d =>
        intro v C0 C gr tt s2 hv
        obtain ⟨E3, m3⟩ := E'.postW m gr tt s2
        exact q v C0 C E3 m3 hv
      | _ => exact q.elim
    | ex _ => rw [e2] at q; exact q.elim
    | bad => rw [e2] at q; exact q.elim
  | ex x ρ1 =>
    rw [e] at q
    exact q
  | bad =>
    rw [e] at q
    exact q
theorem tCallO_of {fn : Fn} {fa : Rho → R (List Dt)} {E : XK} (h : tO g F W (callO fn fa) σ H Q) : tCall (spF g fn) [] E (tDA g F W fa) σ H Q := by
  obtain ⟨H0, ρ, E, q⟩ := h
  refine ⟨H0, ρ, E, ?_⟩
  unfold callO at q
  cases e : fa ρ with
  | ok ds ρ1 =>
    rw [e] at q
    dsimp only [R.bind] at q
    intro vs H0' H' E' m hd
    rw [List.append_nil]
    refine ⟨H0', ds, E'.ex, E'.tb, hd, ?_⟩
    cases e2 : fn ds with
    | ok s =>
      rw [e2] at q
      intro v C0 C gr tt s2 hv
      obtain ⟨E3, m3⟩ := E'.postW m gr tt s2
      have up : ∀ a, H' a = none → F.H a = none := fun a ha => by
        cases z : F.H a with
        | none => rfl
        | some o => exact absurd ha (E'.still (by rw [z]; exact fun z => nomatch z))
      cases s with
      | fr d => exact q v C0 C E3 m3 hv (fun z => nomatch z)
      | ol ds =>
        obtain ⟨a, us, rfl, q1, q2, q3, q4⟩ := hv
        exact q _ C0 C E3 m3 ⟨a, us, rfl, q1, up a q2, q3, q4⟩ (fun _ b z => by cases z; exact m.fresh q2)
      | od ds =>
        obtain ⟨a, us, rfl, q1, q2, q3, q4⟩ := hv
        exact q _ C0 C E3 m3 ⟨a, us, rfl, q1, up a q2, q3, q4⟩ (fun _ b z => by cases z; exact m.fresh q2)
      | raw w _ => exact q.elim
      | io ds =>
        obtain ⟨a, us, rfl, q1, q2, q3, q4⟩ := hv
        cases q2
    | ex _ => rw [e2] at q; exact q.elim
    | bad => rw [e2] at q; exact q.elim
  | ex x ρ1 =>
    rw [e] at q
    exact q
  | bad =>
    rw [e] at q
    exact q
theorem dAt_put {K : PySem.W.Frag} {H0 H : Hp} {ρ : Rho} {i : Nat} {kvs : List (Key × Dt)} (E : En K F H0 H σ ρ) (h : dAt i ρ = some kvs) : ∃ a ks, σ[i]? = some (some (.ref a)) ∧ H0 a = none ∧ H a = some (.dK ks) ∧ DaKv K H0 ks kvs ∧ OwnAt σ ρ a ∧
    ∀ (ks' : List (Key × V)) (kvs' : List (Key × Dt)) H0' H', Gw ⟨H0, H, some a⟩ H0' H' → TbOk K H0' H' → Same H0' H' → H' a = some (.dK ks') → DaKv K H0' ks' kvs' → En K F H0' H' σ (dPut i kvs' ρ) ∧ Mv σ ρ (dPut i kvs' ρ) H0 H H0' H' := by
  have main : ∀ (s s' : List (Key × Dt) → Sl), (s = .od ∧ s' = .od) ∨ (s = .io ∧ s' = .io) → ρ[i]? = some (some (s kvs)) → (∀ kvs', dPut i kvs' ρ = ρ.set i (some (s' kvs'))) → (∃ a ks, σ[i]? = some (some (.ref a)) ∧ H0 a = none ∧ H a = some (.dK ks) ∧ DaKv K H0 ks kvs ∧ OwnAt σ ρ a ∧
      ∀ (ks' : List (Key × V)) (kvs' : List (Key × Dt)) H0' H', Gw ⟨H0, H, some a⟩ H0' H' → TbOk K H0' H' → Same H0' H' → H' a = some (.dK ks') → DaKv K H0' ks' kvs' → En K F H0' H' σ (dPut i kvs' ρ) ∧ Mv σ ρ (dPut i kvs' ρ) H0 H H0' H') := fun s s' hs hi hp => by
    have : ∃ a ks, σ[i]? = some (some (.ref a)) ∧ H0 a = none ∧ H a = some (.dK ks) ∧ DaKv K H0 ks kvs ∧ (s kvs).mut = true := by
      rcases hs with ⟨rfl, rfl⟩ | ⟨rfl, rfl⟩
      · obtain ⟨v, h1, a, ks, rfl, h2, h3, h4, h5⟩ := E.sl i _ hi
        exact ⟨a, ks, h1, h2, h4, h5, rfl⟩
      · obtain ⟨v, h1, a, ks, rfl, h2, h3, h4, h5⟩ := E.sl i _ hi
        exact ⟨a, ks, h1, h2, h4, h5, rfl⟩
    obtain ⟨a, ks, h1, h2, h3, h4, h5⟩ := this
    have own : OwnAt σ ρ a := ⟨i, _, hi, h5, h1⟩
    refine ⟨a, ks, h1, h2, h3, h4, own, fun ks' kvs' H0' H' gr tt sm ha hd => ?_⟩
    rw [hp kvs']
    refine ⟨E.mutD hi h1 (by rcases hs with ⟨rfl, rfl⟩ | ⟨rfl, rfl⟩; exact .inl ⟨_, rfl, rfl⟩; exact .inr ⟨_, rfl, rfl⟩) gr tt sm ha hd, gr.b0, fun b o hb nt ho => gr.keep b o hb nt fun z => ho (Option.some.inj z ▸ own), fun b hb h0 _ => gr.off b hb h0, fun b ⟨j, t, e, mt, y⟩ => ?_, fun b hb => ?_⟩
    · rcases set_get e with ⟨rfl, z⟩ | ⟨hne, z⟩
      · exact ⟨j, _, hi, h5, y⟩
      · exact ⟨j, t, z, mt, y⟩
    · exact gr.st b hb
  unfold dAt at h
  split at h
  · rename_i e
    cases h
    exact main .od .od (.inl ⟨rfl, rfl⟩) e fun kvs' => by unfold dPut; rw [e]
  · rename_i e
    cases h
    exact main .io .io (.inr ⟨rfl, rfl⟩) e fun kvs' => by unfold dPut; rw [e]
  · cases h
theorem tCallM_of {fn : FnM} {i : Nat} {fa : Rho → R (List Dt)} {E : XK} (h : tD g F W (callM fn i fa) σ H Q) : tCall (spM g fn) [] E (tCons (tVar i) (tDA g F W fa)) σ H Q := by
  obtain ⟨H0, ρ, E, q⟩ := h
  unfold callM at q
  cases e0 : dAt i ρ with
  | none => rw [e0] at q; exact q.elim
  | some kvs0 =>
    rw [e0] at q
    dsimp only at q
    obtain ⟨a, ks0, ha, _⟩ := dAt_put E e0
    refine ⟨.ref a, ha, H0, ρ, E, ?_⟩
    cases e : fa ρ with
    | ok ds ρ1 =>
      rw [e] at q
      dsimp only [R.bind] at q
      intro vs H0' H' E' m hd
      show spM g fn ((V.ref a :: vs) ++ []) H' Q _
      rw [List.append_nil]
      cases e1 : dAt i ρ1 with
      | none => rw [e1] at q; exact q.elim
      | some kvs =>
        rw [e1] at q
        dsimp only at q
        obtain ⟨a', ks, ha', h2, h3, h4, own, k⟩ := dAt_put E' e1
        rw [ha] at ha'
        cases ha'
        refine ⟨H0', a, ks, kvs, vs, ds, rfl, E'.ex, E'.tb, h2, h3, h4, hd, ?_⟩
        cases e2 : fn kvs ds with
        | ok s kvs' =>
          rw [e2] at q
          cases s with
          | fr d =>
            intro v ks' C0 C gr tt s2 hc hdk hv
            obtain ⟨E3, m3⟩ := k ks' kvs' C0 C gr tt s2 hc hdk
            exact q v C0 C E3 (m.trans m3) hv
          | _ => exact q.elim
        | ex _ => rw [e2] at q; exact q.elim
        | bad => rw [e2] at q; exact q.elim
    | ex x ρ1 =>
      rw [e] at q
      exact q
    | bad =>
      rw [e] at q
      exact q
end
section
variable {X : Cx} {W : WX} {e : Expr} {es : List Expr} {pos p p2 : Pos} {fa : Rho → R (List Dt)} {k : Nat} {f : Addr} {fd : FuncData} {ps : List Str} {x : Str}
theorem de_call {fn : Fn} (G : FnOk X.prog X.w X.K X.mg X.base CX0 k f fd ps (spF ⟨X.K, X.mg⟩ fn)) (hr : Room k X.A) (hg : Gl X x) (hm : X.mg x = some (.ref f)) (hk : PySem.W.keepIn X.K (.ref f) = true) (hb : Binds X.K fd ps [])
    (ha : DA X W (e :: es) fa) (hdb : (x == ("__debug__" : Str)) = false := by decide) (he : starEach (e :: es) X.env = (false, eval e X.env) :: starEach es X.env := by rfl) (hpl : (backTo pos (starEach es X.env)).any (·.1) = false := by rfl) :
    DE X W (.Call (.Name x p) (e :: es) [] pos) (callF fn fa) := fun F => PE.wk (pe_call G hr hg hm hk hb .nil pass0 (ha F) hdb he hpl) fun _ _ _ h => tCall_of h
theorem de_call0 {fn : Fn} (G : FnOk X.prog X.w X.K X.mg X.base CX0 k f fd ps (spF ⟨X.K, X.mg⟩ fn)) (hr : Room k X.A) (hg : Gl X x) (hm : X.mg x = some (.ref f)) (hk : PySem.W.keepIn X.K (.ref f) = true) (hb : Binds X.K fd ps [])
    (hdb : (x == ("__debug__" : Str)) = false := by decide) : DE X W (.Call (.Name x p) [] [] pos) (callF fn nilA) := fun F => PE.wk (pe_call0 G hr hg hm hk hb .nil pass0 hdb) fun σ H Q h => by
  obtain ⟨H0, ρ, E, q⟩ := tCall_of (E := E0) h
  exact q [] H0 H E Mv.refl .nil
theorem do_call {fn : Fn} (G : FnOk X.prog X.w X.K X.mg X.base CX0 k f fd ps (spF ⟨X.K, X.mg⟩ fn)) (hr : Room k X.A) (hg : Gl X x) (hm : X.mg x = some (.ref f)) (hk : PySem.W.keepIn X.K (.ref f) = true) (hb : Binds X.K fd ps [])
    (ha : DA X W (e :: es) fa) (hdb : (x == ("__debug__" : Str)) = false := by decide) (he : starEach (e :: es) X.env = (false, eval e X.env) :: starEach es X.env := by rfl) (hpl : (backTo pos (starEach es X.env)).any (·.1) = false := by rfl) :
    DO X W (.Call (.Name x p) (e :: es) [] pos) (callO fn fa) := fun F => PE.wk (pe_call G hr hg hm hk hb .nil pass0 (ha F) hdb he hpl) fun _ _ _ h => tCallO_of h
theorem de_callM {fn : FnM} {i : Nat} {y : Str} (G : FnOk X.prog X.w X.K X.mg X.base CX0 k f fd ps (spM ⟨X.K, X.mg⟩ fn)) (hr : Room k X.A) (hg : Gl X x) (hm : X.mg x = some (.ref f)) (hk : PySem.W.keepIn X.K (.ref f) = true) (hb : Binds X.K fd ps [])
    (hy : PE X (.Name y p2) (tVar i)) (ha : DA X W es fa) (hdb : (x == ("__debug__" : Str)) = false := by decide) (he : starEach (.Name y p2 :: es) X.env = (false, eval (.Name y p2) X.env) :: starEach es X.env := by rfl) (hpl : (backTo pos (starEach es X.env)).any (·.1) = false := by rfl) :
    DE X W (.Call (.Name x p) (.Name y p2 :: es) [] pos) (callM fn i fa) := fun F => PE.wk (pe_call G hr hg hm hk hb .nil pass0 (pa_cons hy (ha F) he) hdb he hpl) fun _ _ _ h => tCallM_of h
end
end DW

set_option Elab.async false
set_option linter.all false
set_option maxRecDepth 100000
set_option maxHeartbeats 4000000
/-! DW8: statements, loops -/
namespace DW
open PySem PySem.Spec PyProof.Rows L2

def skipS : Rho → SR := fun ρ => .nx ρ
def badS : Rho → SR := fun _ => .bad
def bkS : Rho → SR := fun ρ => .bk ρ
def ctS : Rho → SR := fun ρ => .ct ρ
def seqS (f k : Rho → SR) : Rho → SR := fun ρ => match f ρ with
  | .nx ρ1 => k ρ1
  | .rt s ρ1 => .rt s ρ1
  | .bk ρ1 => .bk ρ1
  | .ct ρ1 => .ct ρ1
  | .ex e ρ1 => .ex e ρ1
  | .bad => .bad
def nxO : Option Rho → SR
  | some ρ => .nx ρ
  | none => .bad
def setS (i : Nat) (f : Rho → R Dt) : Rho → SR := fun ρ => (f ρ).bindS fun d ρ1 => nxO (putR i (.fr d) ρ1)
def setOS (i : Nat) (f : Rho → R Sl) : Rho → SR := fun ρ => (f ρ).bindS fun s ρ1 => match s with
  | .io _ => .bad
  | s => nxO (putR i s ρ1)
def retS (f : Rho → R Dt) : Rho → SR := fun ρ => (f ρ).bindS fun d ρ1 => .rt (.fr d) ρ1
def retOS (f : Rho → R Sl) : Rho → SR := fun ρ => (f ρ).bindS fun s ρ1 => .rt s ρ1
def exprS (f : Rho → R Dt) : Rho → SR := fun ρ => (f ρ).bindS fun _ ρ1 => .nx ρ1
def ifS (c : Rho → R Bool) (f k : Rho → SR) : Rho → SR := fun ρ => (c ρ).bindS fun b ρ1 => if b = true then f ρ1 else k ρ1
def whS (c : Rho → R Bool) (b : Rho → SR) : Nat → Rho → SR
  | 0, _ => .bad
  | n + 1, ρ => (c ρ).bindS fun t ρ1 => if t = true then (match b ρ1 with
    | .nx ρ2 => whS c b n ρ2
    | .ct ρ2 => whS c b n ρ2
    | .bk ρ2 => .nx ρ2
    | .rt s ρ2 => .rt s ρ2
    | .ex e ρ2 => .ex e ρ2
    | .bad => .bad) else .nx ρ1
def forL (t : Dt → Rho → Option Rho) (b : Rho → SR) : List Dt → Rho → SR
  | [], ρ => .nx ρ
  | d :: ds, ρ => match t d ρ with
    | none => .bad
    | some ρ1 => match b ρ1 with
      | .nx ρ2 => forL t b ds ρ2
      | .ct ρ2 => forL t b ds ρ2
      | .bk ρ2 => .nx ρ2
      | .rt s ρ2 => .rt s ρ2
      | .ex e ρ2 => .ex e ρ2
      | .bad => .bad
def forS (it : Rho → R (List Dt)) (t : Dt → Rho → Option Rho) (b : Rho → SR) : Rho → SR := fun ρ => (it ρ).bindS fun ds ρ1 => forL t b ds ρ1
/-- targets -/
def tgN (i : Nat) : Dt → Rho → Option Rho := fun d ρ => putR i (.fr d) ρ
def putAll : List Nat → List Dt → Rho → Option Rho
  | [], [], ρ => some ρ
  | i :: is, d :: ds, ρ => match putR i (.fr d) ρ with
    | some ρ1 => putAll is ds ρ1
    | none => none
  | _, _, _ => none
def tgT (is : List Nat) : Dt → Rho → Option Rho := fun d ρ => match d with
  | .tup ds => putAll is ds ρ
  | _ => none
def asgS (t : Dt → Rho → Option Rho) (f : Rho → R Dt) : Rho → SR := fun ρ => (f ρ).bindS fun d ρ1 => nxO (t d ρ1)
/-- the own list in a slot -/
def lAt (i : Nat) (ρ : Rho) : Option (List Dt) := match (ρ[i]? : Option (Option Sl)) with
  | some (some (.ol xs)) => some xs
  | _ => none
def appS (i : Nat) (f : Rho → R Dt) : Rho → SR := fun ρ => match lAt i ρ with
  | none => .bad
  | some _ => (f ρ).bindS fun d ρ1 => match lAt i ρ1 with
    | none => .bad
    | some xs => if xs.length < 1000000 then .nx (ρ1.set i (some (.ol (xs ++ [d])))) else .bad
/-- d[k] = v -/
def dputS (i : Nat) (fk fv : Rho → R Dt) : Rho → SR := fun ρ => (fv ρ).bindS fun d ρ1 => match dAt i ρ1 with
  | none => .bad
  | some _ => (fk ρ1).bindS fun k ρ2 => match keyD k, dAt i ρ2 with
    | some k, some kvs => if kvs.length < 1000000 then .nx (dPut i (putKD kvs k d) ρ2) else .bad
    | _, _ => .bad
/-- several things that are made, in a row -/
def argsO : List (Rho → R Sl) → Rho → R (List Sl)
  | [], ρ => .ok [] ρ
  | f :: fs, ρ => (f ρ).bind fun s ρ1 => (argsO fs ρ1).bind fun ss ρ2 => .ok (s :: ss) ρ2
def putSl : List Nat → List Sl → Rho → Option Rho
  | [], [], ρ => some ρ
  | i :: is, s :: ss, ρ => match s with
    | .io _ => none
    | s => match putR i s ρ with
      | some ρ1 => putSl is ss ρ1
      | none => none
  | _, _, _ => none
def parS (is : List Nat) (fs : List (Rho → R Sl)) : Rho → SR := fun ρ => (argsO fs ρ).bindS fun ss ρ1 => nxO (putSl is ss ρ1)

theorem En.notOwn {K : PySem.W.Frag} {F : Fm} {H0 H : Hp} {σ : L2.St} {ρ : Rho} {a : Addr} (E : En K F H0 H σ ρ) (hn : H a = none) : ¬ OwnAt σ ρ a := fun ⟨i, t, h1, h2, h3⟩ => by
  obtain ⟨w, h4, h5⟩ := E.sl i t h1
  rw [h3] at h4
  cases h4
  cases t with
  | fr _ => cases h2
  | ol _ => obtain ⟨b, _, e', _, _, q3, _⟩ := h5; cases e'; rw [hn] at q3; cases q3
  | od _ => obtain ⟨b, _, e', _, _, q3, _⟩ := h5; cases e'; rw [hn] at q3; cases q3
  | raw _ _ => cases h2
  | io _ => obtain ⟨b, _, e', _, _, q3, _⟩ := h5; cases e'; rw [hn] at q3; cases q3
section
variable {g : Gx} {F : Fm} {W : WX} {σ : L2.St} {H : Hp}
theorem tSeq_of {f k : Rho → SR} {D : Ends} (h : tS g F W (seqS f k) D σ H) : tSeq (tS g F W f) (tS g F W k) D σ H := by
  obtain ⟨H0, ρ, E, q⟩ := h
  refine ⟨H0, ρ, E, ?_⟩
  unfold seqS at q
  cases e : f ρ with
  | nx ρ1 =>
    rw [e] at q
    exact fun σ' H0' H' E' s' => ⟨H0', ρ1, E', q.mono s'⟩
  | rt s ρ1 => rw [e] at q; exact q
  | bk ρ1 => rw [e] at q; exact q
  | ct ρ1 => rw [e] at q; exact q
  | ex _ _ => rw [e] at q; exact q
  | bad => rw [e] at q; exact q
/-- an expression, then something -/
theorem tD_bindS {f : Rho → R Dt} {k : Dt → Rho → SR} {D : Ends} {Q : VK} (h : tS g F W (fun ρ => (f ρ).bindS k) D σ H)
    (hQ : ∀ v H0 H' ρ1 d, En g.K F H0 H' σ ρ1 → Da g.K H0 v d → PostS g F W D H0 (k d ρ1) → Q v H') : tD g F W f σ H Q := by
  obtain ⟨H0, ρ, E, q⟩ := h
  refine ⟨H0, ρ, E, ?_⟩
  dsimp only at q
  cases e : f ρ with
  | ok d ρ1 =>
    rw [e] at q
    exact fun v H0' H' E' m hd => hQ v H0' H' ρ1 d E' hd (PostS.mono m.b0 q)
  | ex x ρ1 =>
    rw [e] at q
    exact q σ
  | bad =>
    rw [e] at q
    exact q
theorem tO_bindS {f : Rho → R Sl} {k : Sl → Rho → SR} {D : Ends} {Q : VK} (h : tS g F W (fun ρ => (f ρ).bindS k) D σ H)
    (hQ : ∀ v H0 H' ρ1 s, En g.K F H0 H' σ ρ1 → SlR g.K F H0 H' v s → (s.own = true → ∀ a, v = .ref a → ¬ OwnAt σ ρ1 a) → PostS g F W D H0 (k s ρ1) → Q v H') : tO g F W f σ H Q := by
  obtain ⟨H0, ρ, E, q⟩ := h
  refine ⟨H0, ρ, E, ?_⟩
  dsimp only at q
  cases e : f ρ with
  | ok d ρ1 =>
    rw [e] at q
    intro v H0' H' E' m hd hfr
    exact hQ v H0' H' ρ1 d E' hd (fun ho a ea own => E.notOwn (hfr ho a ea) (m.sub a own)) (PostS.mono m.b0 q)
  | ex x ρ1 =>
    rw [e] at q
    exact q σ
  | bad =>
    rw [e] at q
    exact q
theorem tDT_bindS {f : Rho → R Bool} {k : Bool → Rho → SR} {D : Ends} {Q : Bool → Hp → Prop} (h : tS g F W (fun ρ => (f ρ).bindS k) D σ H)
    (hQ : ∀ H0 H' ρ1 b, En g.K F H0 H' σ ρ1 → PostS g F W D H0 (k b ρ1) → Q b H') : tDT g F W f σ H Q := by
  obtain ⟨H0, ρ, E, q⟩ := h
  refine ⟨H0, ρ, E, ?_⟩
  dsimp only at q
  cases e : f ρ with
  | ok d ρ1 =>
    rw [e] at q
    exact fun H0' H' E' m => hQ H0' H' ρ1 d E' (PostS.mono m.b0 q)
  | ex x ρ1 =>
    rw [e] at q
    exact q σ
  | bad =>
    rw [e] at q
    exact q
theorem nxO_post {D : Ends} {H0 : Hp} {o : Option Rho} (h : PostS g F W D H0 (nxO o)) : ∃ ρ, o = some ρ ∧ ∀ σ' H', En g.K F H0 H' σ' ρ → D.nx σ' H' := by
  cases o with
  | none => exact h.elim
  | some ρ => exact ⟨ρ, rfl, fun σ' H' E => h σ' H0 H' E (Same.refl _)⟩

/-! ### targets -/
def setAll : List Nat → List V → L2.St → L2.St
  | i :: is, v :: vs, σ => setAll is vs (σ.set i (some v))
  | _, _, σ => σ
def tG (g : Gx) (F : Fm) (is : List Nat) (t : Dt → Rho → Option Rho) : TG := fun v σ H Q => ∃ H0 ρ d, En g.K F H0 H σ ρ ∧ Da g.K H0 v d ∧ ∃ ρ', t d ρ = some ρ' ∧ ∀ us, En g.K F H0 H (setAll is us σ) ρ' → (∀ a, OwnAt (setAll is us σ) ρ' a → OwnAt σ ρ a) → Q (setAll is us σ) H
def tGs (g : Gx) (F : Fm) (is : List Nat) : TGs := fun vs σ H Q => ∃ H0 ρ ds, En g.K F H0 H σ ρ ∧ DaAll g.K H0 vs ds ∧ ∃ ρ', putAll is ds ρ = some ρ' ∧ ∀ us, En g.K F H0 H (setAll is us σ) ρ' → (∀ a, OwnAt (setAll is us σ) ρ' a → OwnAt σ ρ a) → Q (setAll is us σ) H
theorem own_put {i : Nat} {v : V} {d : Dt} {σ : L2.St} {ρ ρ' : Rho} (h : putR i (.fr d) ρ = some ρ') {a : Addr} (o : OwnAt (σ.set i (some v)) ρ' a) : OwnAt σ ρ a := by
  unfold putR at h
  split at h
  · cases h
  · cases h
    obtain ⟨j, s, h1, h2, h3⟩ := o
    rcases set_get h1 with ⟨rfl, z⟩ | ⟨hne, z⟩
    · cases z
      cases h2
    · rw [List.getElem?_set_ne (Ne.symm hne)] at h3
      exact ⟨j, s, z, h2, h3⟩

/-! ### loops -/
theorem whS_succ (c : Rho → R Bool) (b : Rho → SR) (n : Nat) (ρ : Rho) : whS c b (n + 1) ρ = (c ρ).bindS fun t ρ1 => if t = true then (match b ρ1 with
    | .nx ρ2 => whS c b n ρ2
    | .ct ρ2 => whS c b n ρ2
    | .bk ρ2 => .nx ρ2
    | .rt s ρ2 => .rt s ρ2
    | .ex e ρ2 => .ex e ρ2
    | .bad => .bad) else .nx ρ1 := rfl
theorem tWhile_of {c : Rho → R Bool} {b : Rho → SR} {n : Nat} {D : Ends} (h : tS g F W (whS c b n) D σ H) : tWhile (tDT g F W c) (tS g F W b) D σ H := by
  refine ⟨fun m σ H => tS g F W (whS c b m) D σ H, ⟨n, h⟩, fun m σ H w => ?_⟩
  cases m with
  | zero =>
    obtain ⟨_, _, _, q⟩ := w
    exact q.elim
  | succ m =>
    have w' : tS g F W (fun ρ => (c ρ).bindS fun t ρ1 => if t = true then (match b ρ1 with
      | .nx ρ2 => whS c b m ρ2
      | .ct ρ2 => whS c b m ρ2
      | .bk ρ2 => .nx ρ2
      | .rt s ρ2 => .rt s ρ2
      | .ex e ρ2 => .ex e ρ2
      | .bad => .bad) else .nx ρ1) D σ H := w
    refine tDT_bindS w' fun H0 H' ρ1 t E q => ?_
    cases t with
    | false =>
      rw [if_neg Bool.false_ne_true] at q ⊢
      exact q σ H0 H' E (Same.refl _)
    | true =>
      rw [if_pos rfl] at q ⊢
      refine ⟨fun σ' H' => tS g F W (whS c b m) D σ' H', fun σ' H' z => ⟨m, Nat.lt_succ_self m, z⟩, H0, ρ1, E, ?_⟩
      cases e : b ρ1 with
      | nx ρ2 => rw [e] at q; exact fun σ' C0 C E' s' => ⟨C0, ρ2, E', q.mono s'⟩
      | ct ρ2 => rw [e] at q; exact fun σ' C0 C E' s' => ⟨C0, ρ2, E', q.mono s'⟩
      | bk ρ2 => rw [e] at q; exact q
      | rt s ρ2 => rw [e] at q; exact q
      | ex _ _ => rw [e] at q; exact q
      | bad => rw [e] at q; exact q
/-- what a walk gives, by data that stand in a base -/
def ItD (K : PySem.W.Frag) (J : It) (H0 : Hp) (ds : List Dt) : Prop := ∃ G Y, Walk J ds.length G Y ∧ (∀ H, Same H0 H → G H) ∧ ∀ i H x H', i < ds.length → Same H0 H → Y i H x H' → ∃ d, ds[i]? = some d ∧
  ((H' = H ∧ Da K H0 x d) ∨ ∃ T vs es, x = .ref T ∧ H T = none ∧ H' = upd H T (.tup vs) ∧ DaAll K H0 vs es ∧ d = .tup es)
def tI (g : Gx) (F : Fm) (W : WX) (f : Rho → R (List Dt)) : TI := fun σ H Rk => ∃ H0 ρ, En g.K F H0 H σ ρ ∧ match f ρ with
  | .ok ds ρ' => ∀ J H0' H', En g.K F H0' H' σ ρ' → Mv σ ρ ρ' H0 H H0' H' → ItD g.K J H0' ds → Rk J H'
  | .ex e ρ' => XW g F W σ e ρ'
  | .bad => False
/-- the item's data over a base of now -/
theorem item_at {K : PySem.W.Frag} {H0 B0 H H' : Hp} {ρ : Rho} {x : V} {d : Dt} (E : En K F B0 H σ ρ) (s : Same H0 B0)
    (h : (H' = H ∧ Da K H0 x d) ∨ ∃ T vs es, x = .ref T ∧ H T = none ∧ H' = upd H T (.tup vs) ∧ DaAll K H0 vs es ∧ d = .tup es) :
    ∃ C0, En K F C0 H' σ ρ ∧ Mv σ ρ ρ B0 H C0 H' ∧ Da K C0 x d := by
  rcases h with ⟨rfl, h⟩ | ⟨T, vs, es, rfl, hT, rfl, hd, rfl⟩
  · exact ⟨B0, E, Mv.refl, h.mono s⟩
  · have g1 := gr_new (o := .tup vs) hT E.ex
    exact ⟨upd B0 T (.tup vs), E.new hT, g1.mv, .tup (SqT.of upd_same) ((hd.mono s).mono g1.b0)⟩
theorem tFor_of {it : Rho → R (List Dt)} {t : Dt → Rho → Option Rho} {b : Rho → SR} {is : List Nat} {D : Ends} (h : tS g F W (forS it t b) D σ H) : tFor (tI g F W it) (tG g F is t) (tS g F W b) D σ H := by
  obtain ⟨H0, ρ, E, q⟩ := h
  refine ⟨H0, ρ, E, ?_⟩
  unfold forS at q
  cases e : it ρ with
  | ok ds ρ1 =>
    rw [e] at q
    intro J B0 B E1 m1 hJ
    obtain ⟨G, Y, wk, hG, hY⟩ := hJ
    have q1 : PostS g F W D B0 (forL t b ds ρ1) := PostS.mono m1.b0 q
    refine for_it wk (fun i σ H => ∃ C0 ρc, En g.K F C0 H σ ρc ∧ Same B0 C0 ∧ PostS g F W D C0 (forL t b (ds.drop i) ρc)) ⟨B0, ρ1, E1, Same.refl _, by rw [List.drop_zero]; exact q1⟩ (fun i σ H _ ⟨C0, ρc, Ec, sc', _⟩ => hG H (sc'.trans Ec.ex)) ?_ ?_
    · rintro i x σ H H' hi ⟨C0, ρc, Ec, sc', qc⟩ y
      obtain ⟨d, hd, hx⟩ := hY i H x H' hi (sc'.trans Ec.ex) y
      obtain ⟨D0, Ed, md, dd⟩ := item_at Ec sc' hx
      have hdrop : ds.drop i = d :: ds.drop (i + 1) := by
        obtain ⟨hlt, hget⟩ := List.getElem?_eq_some_iff.mp hd
        rw [List.drop_eq_getElem_cons hlt, hget]
      rw [hdrop] at qc
      unfold forL at qc
      cases et : t d ρc with
      | none => rw [et] at qc; exact qc.elim
      | some ρ2 =>
        rw [et] at qc
        dsimp only at qc
        refine ⟨D0, ρc, d, Ed, dd, ρ2, et, fun us E2 _ => ⟨D0, ρ2, E2, ?_⟩⟩
        cases eb : b ρ2 with
        | nx ρ3 => rw [eb] at qc; exact fun σ' I0 I E3 s3 => ⟨I0, ρ3, E3, (sc'.trans md.b0).trans s3, qc.mono (md.b0.trans s3)⟩
        | ct ρ3 => rw [eb] at qc; exact fun σ' I0 I E3 s3 => ⟨I0, ρ3, E3, (sc'.trans md.b0).trans s3, qc.mono (md.b0.trans s3)⟩
        | bk ρ3 => rw [eb] at qc; exact PostS.mono (r := .nx ρ3) md.b0 qc
        | rt s ρ3 => rw [eb] at qc; exact qc
        | ex _ _ => rw [eb] at qc; exact qc
        | bad => rw [eb] at qc; exact qc
    · rintro σ H ⟨C0, ρc, Ec, sc', qc⟩
      rw [List.drop_length] at qc
      exact qc σ C0 H Ec (Same.refl _)
  | ex x ρ1 =>
    rw [e] at q
    exact q σ
  | bad =>
    rw [e] at q
    exact q
end

section
variable {X : Cx} {W : WX} {a b c e : Expr} {es : List Expr} {pos p p2 : Pos} {f1 f2 f3 : Rho → R Dt} {st : Stmt} {rest : List Stmt} {s1 s2 : Rho → SR} {t1 : Rho → R Bool}
theorem ds_nil : DSs X W [] skipS := fun F => PSs.wk pss_nil fun D σ H ⟨H0, ρ, E, q⟩ => q σ H0 H E (Same.refl _)
theorem ds_cons (h1 : DS X W st s1) (h2 : DSs X W rest s2) : DSs X W (st :: rest) (seqS s1 s2) := fun F => PSs.wk (pss_cons (h1 F) (h2 F)) fun _ _ _ h => tSeq_of h
theorem ds_one (h1 : DS X W st s1) : DSs X W [st] s1 := fun F => pss_one (h1 F)
theorem ds_never : DS X W st badS := fun F => ⟨fun _ _ _ _ _ _ ⟨_, _, _, q⟩ => q.elim⟩
theorem dss_never {sts : List Stmt} : DSs X W sts badS := fun F => ⟨fun _ _ _ _ _ _ ⟨_, _, _, q⟩ => q.elim⟩
theorem ds_pass : DS X W (.Pass pos) skipS := fun F => PS.wk ps_pass fun D σ H ⟨H0, ρ, E, q⟩ => q σ H0 H E (Same.refl _)
theorem ds_break : DS X W (.Break pos) bkS := fun F => PS.wk ps_break fun D σ H ⟨H0, ρ, E, q⟩ => q σ H0 H E (Same.refl _)
theorem ds_continue : DS X W (.Continue pos) ctS := fun F => PS.wk ps_continue fun D σ H ⟨H0, ρ, E, q⟩ => q σ H0 H E (Same.refl _)
theorem ds_doc {x j p'} : DS X W (.Expr (.Constant (.str x) j p') pos) skipS := fun F => PS.wk ps_doc fun D σ H ⟨H0, ρ, E, q⟩ => q σ H0 H E (Same.refl _)
theorem ds_set (i : Nat) {x : Str} (hN : X.N.Nodup) (he : DE X W e f1) (hi : X.N[i]? = some x := by rfl) (hx : Loc X.env.scope x := by first | exact .inl rfl | exact .inr rfl) (hs : swapsWith e (some (.Name x p)) pos.line X.env = pure false := by rfl)
    (hf : X.fn x = true ∨ X.env.scope.names.lookup x = some .local := by first | exact .inl rfl | exact .inr rfl) : DS X W (.Assign [.Name x p] e pos) (setS i f1) := fun F => PS.wk (ps_set hN hi hx (he F) hs hf) fun D σ H h => by
  refine tD_bindS h fun v H0 H' ρ1 d E hd q => ?_
  obtain ⟨ρ2, e, k⟩ := nxO_post q
  exact k _ H' (E.putFr hd e)
theorem ds_setO (i : Nat) {x : Str} {fo : Rho → R Sl} (hN : X.N.Nodup) (he : DO X W e fo) (hi : X.N[i]? = some x := by rfl) (hx : Loc X.env.scope x := by first | exact .inl rfl | exact .inr rfl) (hs : swapsWith e (some (.Name x p)) pos.line X.env = pure false := by rfl)
    (hf : X.fn x = true ∨ X.env.scope.names.lookup x = some .local := by first | exact .inl rfl | exact .inr rfl) : DS X W (.Assign [.Name x p] e pos) (setOS i fo) := fun F => PS.wk (ps_set hN hi hx (he F) hs hf) fun D σ H h => by
  refine tO_bindS h fun v H0 H' ρ1 s E hd ho q => ?_
  cases s with
  | raw _ _ =>
    obtain ⟨ρ2, e, k⟩ := nxO_post q
    exact k _ H' (E.put hd (fun _ z => nomatch z) ho e)
  | io _ => exact q.elim
  | fr d =>
    obtain ⟨ρ2, e, k⟩ := nxO_post q
    exact k _ H' (E.put hd (fun _ z => nomatch z) ho e)
  | ol d =>
    obtain ⟨ρ2, e, k⟩ := nxO_post q
    exact k _ H' (E.put hd (fun _ z => nomatch z) ho e)
  | od d =>
    obtain ⟨ρ2, e, k⟩ := nxO_post q
    exact k _ H' (E.put hd (fun _ z => nomatch z) ho e)
theorem ds_ret (he : DE X W e f1) : DS X W (.Return (some e) pos) (retS f1) := fun F => PS.wk (ps_ret (he F)) fun D σ H h => tD_bindS h fun v H0 H' ρ1 d E hd q => q v σ H0 H' E hd
theorem ds_retO {fo : Rho → R Sl} (he : DO X W e fo) : DS X W (.Return (some e) pos) (retOS fo) := fun F => PS.wk (ps_ret (he F)) fun D σ H h => tO_bindS h fun v H0 H' ρ1 d E hd ho q => q v σ H0 H' E hd
theorem ds_retN : DS X W (.Return none pos) (retS (cst .non)) := fun F => PS.wk ps_retN fun D σ H ⟨H0, ρ, E, q⟩ => q .non σ H0 H E (Da.non : Da X.K H0 .non .non)
theorem ds_expr (he : DE X W e f1) (hs : swapsWith e none pos.line X.env = pure false := by rfl) : DS X W (.Expr e pos) (exprS f1) := fun F => PS.wk (ps_expr (he F) hs) fun D σ H h => tD_bindS h fun v H0 H' ρ1 d E hd q => q σ H0 H' E (Same.refl _)
theorem ds_if {sa sb : List Stmt} (hc : DT X W c t1) (ha : DSs X W sa s1) (hb : DSs X W sb s2) : DS X W (.If c sa sb pos) (ifS t1 s1 s2) := fun F => PS.wk (ps_if (hc F) (ha F) (hb F)) fun D σ H h => by
  refine tDT_bindS h fun H0 H' ρ1 b E q => ?_
  cases b with
  | true =>
    rw [if_pos rfl] at q ⊢
    exact ⟨H0, ρ1, E, q⟩
  | false =>
    rw [if_neg Bool.false_ne_true] at q ⊢
    exact ⟨H0, ρ1, E, q⟩
theorem ds_while (n : Nat) {sa : List Stmt} (hp : PassesOwn (model X.prog X.w) X.A X.env X.xe) (hc : DT X W c t1) (ha : DSs X W sa s1) : DS X W (.While c sa [] pos) (whS t1 s1 n) := fun F => PS.wk (ps_while hp (hc F) (ha F)) fun D σ H h => tWhile_of h
def DI (X : Cx) (W : WX) (tg iter : Expr) (f : Rho → R (List Dt)) : Prop := ∀ F, PI X tg iter (tI (gx X) F W f)
def DG (X : Cx) (tg : Expr) (is : List Nat) (t : Dt → Rho → Option Rho) : Prop := ∀ F, PG X tg (tG (gx X) F is t)
def DGs (X : Cx) (tg : List Expr) (is : List Nat) : Prop := ∀ F, PGs X tg (tGs (gx X) F is)
theorem ds_for {tg iter : Expr} {sa : List Stmt} {it : Rho → R (List Dt)} {t : Dt → Rho → Option Rho} {is : List Nat} (hp : PassesOwn (model X.prog X.w) X.A X.env X.xe) (hc : X.calm = true) (hi : DI X W tg iter it) (hg : DG X tg is t) (ha : DSs X W sa s1)
    (hs : ∀ x, foldedSetIterable iter X.env x = pure x := by intro _; rfl) : DS X W (.For tg iter sa [] pos) (forS it t s1) := fun F => PS.wk (ps_for hp hc (hi F) (hg F) (ha F) hs) fun D σ H h => tFor_of h
/-! ### targets -/
theorem PG.wk {e : Expr} {t u : TG} (h : PG X e t) (k : ∀ v σ H Q, u v σ H Q → t v σ H Q) : PG X e u := ⟨fun pins s σ H v w Q I r q => h.run pins s σ H v w Q I r (k v σ H Q q)⟩
theorem PGs.wk {e : List Expr} {t u : TGs} (h : PGs X e t) (k : ∀ v σ H Q, u v σ H Q → t v σ H Q) : PGs X e u := ⟨fun pins s σ H v w Q I r q => h.run pins s σ H v w Q I r (k v σ H Q q)⟩
theorem dg_name (i : Nat) {x : Str} (hN : X.N.Nodup) (hi : X.N[i]? = some x := by rfl) (hx : Loc X.env.scope x := by first | exact .inl rfl | exact .inr rfl) (hf : X.fn x = true ∨ X.env.scope.names.lookup x = some .local := by first | exact .inl rfl | exact .inr rfl) : DG X (.Name x p) [i] (tgN i) :=
  fun F => PG.wk (pg_name hN hi hx hf) fun v σ H Q ⟨H0, ρ, d, E, hd, ρ', e, k⟩ => k [v] (E.putFr hd e) fun a o => own_put e o
theorem dgs_nil : DGs X [] [] := fun F => PGs.wk pgs_nil fun v σ H Q ⟨H0, ρ, d, E, hd, ρ', e, k⟩ => by
  cases d with
  | nil =>
    cases hd
    cases e
    exact ⟨rfl, k [] E fun _ o => o⟩
  | cons _ _ => cases e
theorem dgs_cons (i : Nat) {x : Str} {es : List Expr} {is : List Nat} (hN : X.N.Nodup) (h2 : DGs X es is) (hi : X.N[i]? = some x := by rfl) (hx : Loc X.env.scope x := by first | exact .inl rfl | exact .inr rfl) (hf : X.fn x = true ∨ X.env.scope.names.lookup x = some .local := by first | exact .inl rfl | exact .inr rfl)
    (hs : (assignEach (.Name x p :: es) X.env).map (·.2) = assign (.Name x p) X.env :: (assignEach es X.env).map (·.2) := by rfl) : DGs X (.Name x p :: es) (i :: is) :=
  fun F => PGs.wk (pgs_cons (pg_name hN hi hx hf) (h2 F) hs) fun v σ H Q ⟨H0, ρ, d, E, hd, ρ', e, k⟩ => by
    cases d with
    | nil => cases e
    | cons d ds =>
      cases hd with
      | @cons v0 vs _ _ h3 h4 =>
        refine ⟨v0, vs, rfl, H0, ?_⟩
        unfold putAll at e
        cases e1 : putR i (.fr d) ρ with
        | none => rw [e1] at e; cases e
        | some ρ1 =>
          rw [e1] at e
          exact ⟨ρ1, ds, E.putFr h3 e1, h4, ρ', e, fun us E' o' => k (v0 :: us) E' fun a o => own_put e1 (o' a o)⟩
theorem dg_tup {es : List Expr} {is : List Nat} {k : Nat} (hc : X.calm = true) (h : DGs X es is) (hn : (assignEach es X.env).length = is.length := by rfl) (hst : (assignEach es X.env).findIdx? (·.1) = none := by rfl) : DG X (.Tuple es k p) is (tgT is) :=
  fun F => PG.wk (pg_tup hc (h F) hn hst) fun v σ H Q ⟨H0, ρ, d, E, hd, ρ', e, k⟩ => by
    cases d with
    | tup ds =>
      cases hd with
      | tup h1 h2 =>
        refine ⟨_, _, rfl, seqT_mono E.ex h1, ?_, H0, ρ, ds, E, h2, ρ', e, k⟩
        rw [h2.length]
        have len : ∀ (is : List Nat) (ds : List Dt) (ρ ρ' : Rho), putAll is ds ρ = some ρ' → ds.length = is.length := by
          intro is
          induction is with
          | nil => intro ds ρ ρ' e; cases ds with | nil => rfl | cons _ _ => cases e
          | cons i is ih =>
            intro ds ρ ρ' e
            cases ds with
            | nil => cases e
            | cons d ds =>
              unfold putAll at e
              cases e1 : putR i (.fr d) ρ with
              | none => rw [e1] at e; cases e
              | some ρ1 => rw [e1] at e; rw [List.length_cons, List.length_cons, ih ds ρ1 ρ' e]
        exact len is ds ρ ρ' e
    | _ => cases e
theorem ds_asg {tg : Expr} {t : Dt → Rho → Option Rho} {is : List Nat} (he : DE X W e f1) (hg : DG X tg is t) (hs : swapsWithSole [tg] e pos.line X.env = pure false := by rfl) (hw : swappedStores [tg] e X.env = pure none := by rfl)
    (h1 : (assignEach [tg] X.env).map (·.2) = [assign tg X.env] := by rfl) : DS X W (.Assign [tg] e pos) (asgS t f1) := fun F => PS.wk (ps_asg (he F) (hg F) hs hw h1) fun D σ H h => by
  refine tD_bindS h fun v H0 H' ρ1 d E hd q => ?_
  obtain ⟨ρ2, e, k⟩ := nxO_post q
  exact ⟨H0, ρ1, d, E, hd, ρ2, e, fun us E' _ => k _ H' E'⟩
end
end DW

set_option Elab.async false
set_option linter.all false
set_option maxRecDepth 100000
set_option maxHeartbeats 4000000
/-! DW9: things that are made: displays, comprehensions; append, d[k] = v, a, b = x, y; what is walked -/
namespace DW
open PySem PySem.Spec PyProof.Rows L2

def toD : Sl → Option Dt
  | .fr d => some d
  | .ol xs => some (.lst xs)
  | .od kvs => some (.dct kvs)
  | .io _ => none
  | .raw _ _ => none
def frzR (f : Rho → R Sl) : Rho → R Dt := fun ρ => (f ρ).bind fun s ρ1 => match toD s with
  | some d => .ok d ρ1
  | none => .bad
def wipeR (ρ : Rho) : List Nat → Rho
  | [] => ρ
  | v :: vs => (wipeR ρ vs).set v none
def okW (vs : List Nat) (ρ : Rho) : Bool := noIo ρ || vs.all (fun v => decide (v ≠ 0))
def lcL (t : Dt → Rho → Option Rho) (c : Rho → R Bool) (e : Rho → R Dt) (vs : List Nat) : List Dt → Rho → R (List Dt)
  | [], ρ => .ok [] ρ
  | x :: xs, ρ => match t x ρ with
    | none => .bad
    | some ρ1 => (c ρ1).bind fun b ρ2 => if b = true then (e ρ2).bind fun d ρ3 => (lcL t c e vs xs (wipeR ρ3 vs)).bind fun ds ρ4 => .ok (d :: ds) ρ4 else lcL t c e vs xs (wipeR ρ2 vs)
def lcO (it : Rho → R (List Dt)) (t : Dt → Rho → Option Rho) (c : Rho → R Bool) (e : Rho → R Dt) (vs : List Nat) : Rho → R Sl := fun ρ => (it ρ).bind fun xs ρ1 =>
  if okW vs ρ1 = true ∧ xs.length ≤ 1000000 then (match lcL t c e vs xs (wipeR ρ1 vs) with
    | .ok ds ρ2 => .ok (.ol ds) ρ2
    | _ => .bad) else .bad
def yesT : Rho → R Bool := fun ρ => .ok true ρ
def dcL (t : Dt → Rho → Option Rho) (c : Rho → R Bool) (ek ev : Rho → R Dt) (vs : List Nat) : List Dt → Rho → List (Key × Dt) → R (List (Key × Dt))
  | [], ρ, acc => .ok acc ρ
  | x :: xs, ρ, acc => match t x ρ with
    | none => .bad
    | some ρ1 => (c ρ1).bind fun b ρ2 => if b = true then (ek ρ2).bind fun k ρ3 => (ev ρ3).bind fun d ρ4 => (match keyD k with
      | some k => dcL t c ek ev vs xs (wipeR ρ4 vs) (putKD acc k d)
      | none => .bad) else dcL t c ek ev vs xs (wipeR ρ2 vs) acc
def dcO (it : Rho → R (List Dt)) (t : Dt → Rho → Option Rho) (c : Rho → R Bool) (ek ev : Rho → R Dt) (vs : List Nat) : Rho → R Sl := fun ρ => (it ρ).bind fun xs ρ1 =>
  if okW vs ρ1 = true ∧ xs.length ≤ 1000000 then (match dcL t c ek ev vs xs (wipeR ρ1 vs) [] with
    | .ok ds ρ2 => .ok (.od ds) ρ2
    | _ => .bad) else .bad

section
variable {K : PySem.W.Frag} {F : Fm} {H0 H H0' H' : Hp} {σ : L2.St} {ρ : Rho} {v : V} {d : Dt} {s : Sl} {i : Nat} {a p : Addr} {o : HO} {g : Gx} {W : WX}
theorem wipe_get : ∀ (vs : List Nat) {i : Nat} {x : V}, (wipe σ vs)[i]? = some (some x) → σ[i]? = some (some x)
  | [], _, _, h => h
  | v :: vs, i, x, h => by
    unfold wipe at h
    rcases set_get h with ⟨_, z⟩ | ⟨_, z⟩
    · cases z
    · exact wipe_get vs z
theorem wipeR_get : ∀ (vs : List Nat) {i : Nat} {x : Sl}, (wipeR ρ vs)[i]? = some (some x) → ρ[i]? = some (some x)
  | [], _, _, h => h
  | v :: vs, i, x, h => by
    unfold wipeR at h
    rcases set_get h with ⟨_, z⟩ | ⟨_, z⟩
    · cases z
    · exact wipeR_get vs z
theorem noIo_iff : noIo ρ = true ↔ ∀ kvs, ρ[0]? ≠ some (some (.io kvs)) := by
  unfold noIo
  split
  · rename_i k e
    exact ⟨fun h => (Bool.false_ne_true h).elim, fun h => (h k e).elim⟩
  · rename_i h
    exact ⟨fun _ k e => h k e, fun _ => rfl⟩
theorem En.setN (E : En K F H0 H σ ρ) (hi : noIo ρ = true ∨ i ≠ 0) : En K F H0 H (σ.set i none) (ρ.set i none) := by
  have get : ∀ {j : Nat} {t : Sl}, (ρ.set i none)[j]? = some (some t) → j ≠ i ∧ ρ[j]? = some (some t) := fun {j t} e => by
    rcases set_get e with ⟨_, z⟩ | ⟨hne, z⟩
    · cases z
    · exact ⟨hne, z⟩
  refine ⟨E.gr, E.tb, E.ex, by rw [List.length_set, List.length_set, E.len], fun j t e => ?_, fun j k t u b hjk e1 e2 o1 o2 h1 h2 => ?_, fun b hb => ?_, fun j kvs e => E.io1 j kvs (get e).2⟩
  · obtain ⟨hne, z⟩ := get e
    obtain ⟨w, h1, h2⟩ := E.sl j t z
    exact ⟨w, by rw [List.getElem?_set_ne (Ne.symm hne)]; exact h1, h2⟩
  · obtain ⟨n1, z1⟩ := get e1
    obtain ⟨n2, z2⟩ := get e2
    rw [List.getElem?_set_ne (Ne.symm n1)] at h1
    rw [List.getElem?_set_ne (Ne.symm n2)] at h2
    exact E.sep j k t u b hjk z1 z2 o1 o2 h1 h2
  · obtain ⟨h1, ⟨kvs, h2⟩, h3⟩ := E.io b hb
    have hi0 : i ≠ 0 := by
      rcases hi with hi | hi
      · exact absurd h2 (noIo_iff.mp hi kvs)
      · exact hi
    exact ⟨by rw [List.getElem?_set_ne hi0]; exact h1, ⟨kvs, by rw [List.getElem?_set_ne hi0]; exact h2⟩, h3⟩
theorem noIo_wipe : ∀ (vs : List Nat), noIo ρ = true → noIo (wipeR ρ vs) = true := fun vs h => noIo_iff.mpr fun kvs e => noIo_iff.mp h kvs (wipeR_get vs e)
theorem En.wipe (E : En K F H0 H σ ρ) : ∀ (vs : List Nat), okW vs ρ = true → En K F H0 H (L2.wipe σ vs) (wipeR ρ vs)
  | [], _ => E
  | v :: vs, h => by
    unfold okW at h
    rw [Bool.or_eq_true] at h
    have h1 : okW vs ρ = true := by
      unfold okW
      rw [Bool.or_eq_true]
      rcases h with h | h
      · exact .inl h
      · rw [List.all_cons, Bool.and_eq_true] at h
        exact .inr h.2
    refine (E.wipe vs h1).setN ?_
    rcases h with h | h
    · exact .inl (noIo_wipe vs h)
    · rw [List.all_cons, Bool.and_eq_true] at h
      exact .inr (of_decide_eq_true h.1)
theorem En.unwipe {vs : List Nat} (E : En K F H0 H (L2.wipe σ vs) ρ) (hl : σ.length = ρ.length) : En K F H0 H σ ρ where
  gr := E.gr
  tb := E.tb
  ex := E.ex
  len := hl
  sl := fun j t e => by
    obtain ⟨w, h1, h2⟩ := E.sl j t e
    exact ⟨w, wipe_get vs h1, h2⟩
  sep := fun j k t u b hjk e1 e2 o1 o2 h1 h2 => by
    obtain ⟨w1, y1, _⟩ := E.sl j t e1
    obtain ⟨w2, y2, _⟩ := E.sl k u e2
    have z1 := wipe_get vs y1
    have z2 := wipe_get vs y2
    rw [h1] at z1
    rw [h2] at z2
    cases z1
    cases z2
    exact E.sep j k t u b hjk e1 e2 o1 o2 y1 y2
  io := fun b hb => by
    obtain ⟨h1, h2, h3⟩ := E.io b hb
    exact ⟨wipe_get vs h1, h2, h3⟩
  io1 := E.io1
theorem own_wipe {vs : List Nat} (o : OwnAt (wipe σ vs) ρ a) : OwnAt σ ρ a := by
  obtain ⟨i, s, h1, h2, h3⟩ := o
  exact ⟨i, s, h1, h2, wipe_get vs h3⟩
theorem own_wipeR {vs : List Nat} (o : OwnAt σ (wipeR ρ vs) a) : OwnAt σ ρ a := by
  obtain ⟨i, s, h1, h2, h3⟩ := o
  exact ⟨i, s, wipeR_get vs h1, h2, h3⟩
theorem wipe_set : ∀ (vs : List Nat) (σ : L2.St) {i : Nat} (x : Option V), i ∈ vs → wipe (σ.set i x) vs = wipe σ vs
  | v :: vs, σ, i, x, h => by
    unfold wipe
    by_cases hv : i = v
    · subst hv
      by_cases hm : i ∈ vs
      · rw [wipe_set vs σ x hm]
      · have : ∀ (us : List Nat) (σ : L2.St), i ∉ us → wipe (σ.set i x) us = (wipe σ us).set i x := by
          intro us
          induction us with
          | nil => intro σ _; rfl
          | cons u us ih =>
            intro σ hu
            unfold wipe
            rw [ih σ (fun z => hu (List.mem_cons_of_mem _ z))]
            have hne : i ≠ u := fun z => hu (by rw [z]; exact List.mem_cons_self)
            exact List.set_comm _ _ hne
        rw [this vs σ hm, List.set_set]
    · rw [wipe_set vs σ x (by rcases List.mem_cons.mp h with z | z; exact absurd z hv; exact z)]
theorem wipe_idem : ∀ (vs us : List Nat) (σ : L2.St), (∀ i ∈ us, i ∈ vs) → wipe (wipe σ us) vs = wipe σ vs
  | vs, [], σ, _ => rfl
  | vs, u :: us, σ, h => by
    show wipe ((wipe σ us).set u none) vs = _
    rw [wipe_set vs _ none (h u List.mem_cons_self), wipe_idem vs us σ fun i hi => h i (List.mem_cons_of_mem _ hi)]
theorem wipe_setAll (vs : List Nat) : ∀ (is : List Nat) (us : List V) (σ : L2.St), (∀ i ∈ is, i ∈ vs) → wipe (setAll is us σ) vs = wipe σ vs
  | [], _, σ, _ => rfl
  | i :: is, [], σ, _ => rfl
  | i :: is, u :: us, σ, h => by
    show wipe (setAll is us (σ.set i (some u))) vs = _
    rw [wipe_setAll vs is us _ fun j hj => h j (List.mem_cons_of_mem _ hj), wipe_set vs σ _ (h i List.mem_cons_self)]
/-- an object beside all is changed -/
theorem En.beside (E : En K F H0 H σ ρ) (h0 : H0 p = none) (hF : F.H p = none) (hn : ¬ OwnAt σ ρ p) (hl : (∃ xs, H p = some (.lst xs)) ∨ (∃ xs, H p = some (.dK xs)) ∨ H p = none) : En K F H0 (upd H p o) σ ρ := by
  have np : ∀ b u, H b = some u → (∀ xs, u ≠ .lst xs) → (∀ xs, u ≠ .dK xs) → b ≠ p := fun b u hb n1 n2 z => by
    rw [z] at hb
    rcases hl with ⟨xs, e⟩ | ⟨xs, e⟩ | e
    · rw [e] at hb; exact n1 xs (Option.some.inj hb).symm
    · rw [e] at hb; exact n2 xs (Option.some.inj hb).symm
    · rw [e] at hb; cases hb
  refine ⟨⟨E.gr.b0, fun b u hb nt hi => ?_, E.gr.off, fun b hb => ?_⟩, tab_away E.tb (fun b u hb n1 n2 => by rw [upd_ne (np b u hb n1 n2)]; exact hb) (fun _ _ h _ _ => h), fun b u hb => ?_, E.len, fun j t e => ?_, E.sep, E.io, E.io1⟩
  · have : b ≠ p := fun z => by rw [z, hF] at hb; cases hb
    rw [upd_ne this]
    exact E.gr.keep b u hb nt hi
  · have nb : b ≠ p := fun z => hb (by rw [z]; exact hF)
    rw [upd_ne nb]
    exact E.gr.st b hb
  · rw [upd_ne (ne_of_none hb h0)]
    exact E.ex b u hb
  · obtain ⟨w, y1, y2⟩ := E.sl j t e
    refine ⟨w, y1, ?_⟩
    cases t with
    | fr d => exact y2
    | ol es =>
      obtain ⟨c, us, rfl, q1, q2, q3, q4⟩ := y2
      have : c ≠ p := fun z => hn ⟨j, _, e, rfl, z ▸ y1⟩
      exact ⟨c, us, rfl, q1, q2, by rw [upd_ne this]; exact q3, q4⟩
    | od es =>
      obtain ⟨c, us, rfl, q1, q2, q3, q4⟩ := y2
      have : c ≠ p := fun z => hn ⟨j, _, e, rfl, z ▸ y1⟩
      exact ⟨c, us, rfl, q1, q2, by rw [upd_ne this]; exact q3, q4⟩
    | raw w _ => exact y2
    | io es =>
      obtain ⟨c, us, rfl, q1, q2, q3, q4⟩ := y2
      have : c ≠ p := fun z => hn ⟨j, _, e, rfl, z ▸ y1⟩
      exact ⟨c, us, rfl, q1, q2, by rw [upd_ne this]; exact q3, q4⟩
theorem En.upF (E : En K F H0 H σ ρ) (hp : H p = none) : F.H p = none := by
  cases z : F.H p with
  | none => rfl
  | some o => exact absurd hp (E.still (by rw [z]; exact fun z => nomatch z))
theorem En.up0 (E : En K F H0 H σ ρ) (hp : H p = none) : H0 p = none := by
  cases z : H0 p with
  | none => rfl
  | some o => rw [E.ex p o z] at hp; cases hp
/-- a new thing becomes the base's -/
theorem tO_frz {f : Rho → R Sl} {σ : L2.St} {H : Hp} {Q : VK} (h : tD g F W (frzR f) σ H Q) : tO g F W f σ H Q := by
  obtain ⟨H0, ρ, E, q⟩ := h
  refine ⟨H0, ρ, E, ?_⟩
  unfold frzR at q
  cases e : f ρ with
  | ok s ρ1 =>
    rw [e] at q
    dsimp only [R.bind] at q
    intro v H0' H' E' m hs hfr
    cases s with
    | fr d => exact q v H0' H' E' m hs
    | raw d => exact q.elim
    | io d => exact q.elim
    | ol ds =>
      obtain ⟨a, vs, rfl, h1, h2, h3, h4⟩ := hs
      have hn := hfr rfl a rfl
      have no : ¬ OwnAt σ ρ1 a := fun z => E.notOwn hn (m.sub a z)
      have sm : Same H0' (upd H0' a (.lst vs)) := fun b u hb => by rw [upd_ne (ne_of_none hb h1)]; exact hb
      have gr : Gr ⟨H0', H', none⟩ H0' H' := Gr.refl H0' H' none
      have E2 : En g.K F (upd H0' a (.lst vs)) H' σ ρ1 := by
        refine ⟨⟨E'.gr.b0.trans sm, E'.gr.keep, fun b hb h => ?_, E'.gr.st⟩, fun p hp => ⟨by
          have np : p.1 ≠ a := fun z => by
            obtain ⟨_, ps, w2, _⟩ := E'.tb p hp
            rw [z, h3] at w2
            cases w2
          rw [upd_ne np]
          exact (E'.tb p hp).1, (E'.tb p hp).2⟩, fun b u hb => ?_, E'.len, fun j t ej => ?_, E'.sep, E'.io, E'.io1⟩
        · have : b ≠ a := fun z => hb (z ▸ h2)
          rw [upd_ne this]
          exact E'.gr.off b hb h
        · by_cases hba : b = a
          · subst hba; rw [upd_same] at hb; cases hb; exact h3
          · rw [upd_ne hba] at hb; exact E'.ex b u hb
        · obtain ⟨w, y1, y2⟩ := E'.sl j t ej
          refine ⟨w, y1, ?_⟩
          cases t with
          | fr d => exact Da.mono sm y2
          | ol es =>
            obtain ⟨c, us, rfl, q1, q2, q3, q4⟩ := y2
            have : c ≠ a := fun z => no ⟨j, _, ej, rfl, z ▸ y1⟩
            exact ⟨c, us, rfl, by rw [upd_ne this]; exact q1, q2, q3, q4.mono sm⟩
          | od es =>
            obtain ⟨c, us, rfl, q1, q2, q3, q4⟩ := y2
            have : c ≠ a := fun z => no ⟨j, _, ej, rfl, z ▸ y1⟩
            exact ⟨c, us, rfl, by rw [upd_ne this]; exact q1, q2, q3, q4.mono sm⟩
          | raw w _ => exact y2
          | io es =>
            obtain ⟨c, us, rfl, q1, q2, q3, q4⟩ := y2
            have : c ≠ a := fun z => no ⟨j, _, ej, rfl, z ▸ y1⟩
            exact ⟨c, us, rfl, by rw [upd_ne this]; exact q1, q2, q3, q4.mono sm⟩
      refine q _ _ H' E2 ⟨m.b0.trans sm, m.keep, fun b hb h hno => ?_, m.sub, m.st⟩ (.lst upd_same (h4.mono sm))
      have : b ≠ a := fun z => hb (z ▸ hn)
      rw [upd_ne this]
      exact m.off b hb h hno
    | od ds =>
      obtain ⟨a, vs, rfl, h1, h2, h3, h4⟩ := hs
      have hn := hfr rfl a rfl
      have no : ¬ OwnAt σ ρ1 a := fun z => E.notOwn hn (m.sub a z)
      have sm : Same H0' (upd H0' a (.dK vs)) := fun b u hb => by rw [upd_ne (ne_of_none hb h1)]; exact hb
      have E2 : En g.K F (upd H0' a (.dK vs)) H' σ ρ1 := by
        refine ⟨⟨E'.gr.b0.trans sm, E'.gr.keep, fun b hb h => ?_, E'.gr.st⟩, fun p hp => ⟨by
          have np : p.1 ≠ a := fun z => by
            obtain ⟨_, ps, w2, _⟩ := E'.tb p hp
            rw [z, h3] at w2
            cases w2
          rw [upd_ne np]
          exact (E'.tb p hp).1, (E'.tb p hp).2⟩, fun b u hb => ?_, E'.len, fun j t ej => ?_, E'.sep, E'.io, E'.io1⟩
        · have : b ≠ a := fun z => hb (z ▸ h2)
          rw [upd_ne this]
          exact E'.gr.off b hb h
        · by_cases hba : b = a
          · subst hba; rw [upd_same] at hb; cases hb; exact h3
          · rw [upd_ne hba] at hb; exact E'.ex b u hb
        · obtain ⟨w, y1, y2⟩ := E'.sl j t ej
          refine ⟨w, y1, ?_⟩
          cases t with
          | fr d => exact Da.mono sm y2
          | ol es =>
            obtain ⟨c, us, rfl, q1, q2, q3, q4⟩ := y2
            have : c ≠ a := fun z => no ⟨j, _, ej, rfl, z ▸ y1⟩
            exact ⟨c, us, rfl, by rw [upd_ne this]; exact q1, q2, q3, q4.mono sm⟩
          | od es =>
            obtain ⟨c, us, rfl, q1, q2, q3, q4⟩ := y2
            have : c ≠ a := fun z => no ⟨j, _, ej, rfl, z ▸ y1⟩
            exact ⟨c, us, rfl, by rw [upd_ne this]; exact q1, q2, q3, q4.mono sm⟩
          | raw w _ => exact y2
          | io es =>
            obtain ⟨c, us, rfl, q1, q2, q3, q4⟩ := y2
            have : c ≠ a := fun z => no ⟨j, _, ej, rfl, z ▸ y1⟩
            exact ⟨c, us, rfl, by rw [upd_ne this]; exact q1, q2, q3, q4.mono sm⟩
      refine q _ _ H' E2 ⟨m.b0.trans sm, m.keep, fun b hb h hno => ?_, m.sub, m.st⟩ (.dct upd_same (h4.mono sm))
      have : b ≠ a := fun z => hb (z ▸ hn)
      rw [upd_ne this]
      exact m.off b hb h hno
  | ex x ρ1 =>
    rw [e] at q
    exact q
  | bad =>
    rw [e] at q
    exact q
/-- a new thing, not the base's -/
theorem En.postO {ρ1 : Rho} {B0 B : Hp} (E : En K F H0 H σ ρ1) (m : Mv σ ρ ρ1 B0 B H0 H) (hp : H p = none) : En K F H0 (upd H p o) σ ρ1 ∧ Mv σ ρ ρ1 B0 B H0 (upd H p o) ∧ H0 p = none ∧ F.H p = none ∧ B p = none :=
  ⟨E.grow (gr_newO hp) (same_newO hp E.ex), m.trans (gr_newO hp).mv, E.up0 hp, E.upF hp, m.fresh hp⟩
theorem tLstO_of {f : Rho → R (List Dt)} {σ : L2.St} {H : Hp} {Q : VK} (h : tO g F W (lstO f) σ H Q) : tLst (tDA g F W f) σ H Q := by
  obtain ⟨H0, ρ, E, q⟩ := h
  refine ⟨H0, ρ, E, ?_⟩
  unfold lstO at q
  cases e : f ρ with
  | ok ds ρ1 =>
    rw [e] at q
    dsimp only [R.bind] at q
    intro vs H0' H' E' m hd
    by_cases hl : ds.length ≤ 1000000
    · rw [if_pos hl] at q
      refine ⟨by rw [hd.length]; exact sizeM hl, fun p hp => ?_⟩
      obtain ⟨q1, q2, q3, q4, q5⟩ := E'.postO (o := .lst vs) m hp
      exact q _ _ _ q1 q2 ⟨p, vs, rfl, q3, q4, upd_same, hd⟩ fun _ b z => by cases z; exact q5
    · rw [if_neg hl] at q
      exact q.elim
  | ex x ρ1 =>
    rw [e] at q
    exact q
  | bad =>
    rw [e] at q
    exact q
theorem tDNew_of {σ : L2.St} {H : Hp} {Q : VK} (h : tO g F W dctO0 σ H Q) : tDNewK σ H Q := by
  obtain ⟨H0, ρ, E, q⟩ := h
  intro p hp
  obtain ⟨q1, q2, q3, q4, q5⟩ := E.postO (o := .dK []) Mv.refl hp
  exact q _ _ _ q1 q2 ⟨p, [], rfl, q3, q4, upd_same, .nil⟩ fun _ b z => by cases z; exact q5
theorem tO_fr {f : Rho → R Dt} {σ : L2.St} {H : Hp} {Q : VK} (h : tO g F W (frO f) σ H Q) : tD g F W f σ H Q := by
  obtain ⟨H0, ρ, E, q⟩ := h
  refine ⟨H0, ρ, E, ?_⟩
  unfold frO at q
  cases e : f ρ with
  | ok d ρ1 =>
    rw [e] at q
    exact fun v H0' H' E' m hd => q v H0' H' E' m hd (fun z => nomatch z)
  | ex x ρ1 =>
    rw [e] at q
    exact q
  | bad =>
    rw [e] at q
    exact q
theorem bind_okR {α β : Type} {r : R α} {k : α → Rho → R β} {b : β} {ρ' : Rho} (h : r.bind k = .ok b ρ') : ∃ a ρ1, r = .ok a ρ1 ∧ k a ρ1 = .ok b ρ' := bind_ok h

/-- [e for t in it if c] -/
theorem tLc_of {it : Rho → R (List Dt)} {t : Dt → Rho → Option Rho} {c : Rho → R Bool} {el : Rho → R Dt} {vs is : List Nat} (his : ∀ i ∈ is, i ∈ vs) {σ : L2.St} {H : Hp} {Q : VK} (h : tO g F W (lcO it t c el vs) σ H Q) :
    tLc (tI g F W it) (tG g F is t) (tDT g F WF c) (tD g F WF el) vs σ H Q := by
  obtain ⟨H0, ρ, E, q⟩ := h
  refine ⟨H0, ρ, E, ?_⟩
  unfold lcO at q
  cases e : it ρ with
  | ex x ρ1 =>
    rw [e] at q
    exact q
  | bad =>
    rw [e] at q
    exact q
  | ok xs ρ1 =>
    rw [e] at q
    dsimp only [R.bind] at q
    intro J B0 B E1 m1 hJ D hD
    by_cases hc : okW vs ρ1 = true ∧ xs.length ≤ 1000000
    · rw [if_pos hc] at q
      cases er : lcL t c el vs xs (wipeR ρ1 vs) with
      | ex _ _ => rw [er] at q; exact q.elim
      | bad => rw [er] at q; exact q.elim
      | ok full ρe =>
        rw [er] at q
        dsimp only at q
        obtain ⟨G, Y, wk, hG, hY⟩ := hJ
        have hFD : F.H D = none := E1.upF hD
        have nD : ¬ OwnAt σ ρ1 D := E1.notOwn hD
        have Ew := E1.wipe vs hc.1
        have nDw : ¬ OwnAt (wipe σ vs) (wipeR ρ1 vs) D := fun z => nD (own_wipe (own_wipeR z))
        refine lc_it wk (fun i H => ∃ C0 ρc acc done tl, En g.K F C0 H (wipe σ vs) ρc ∧ Mw σ ρ1 (wipe σ vs) ρc B0 B C0 H ∧ H D = some (.lst acc) ∧ C0 D = none ∧ DaAll g.K C0 acc done ∧ done.length ≤ i ∧
          lcL t c el vs (xs.drop i) ρc = .ok tl ρe ∧ full = done ++ tl) ?_ (fun i H _ ⟨C0, ρc, acc, done, tl, Ec, mc, _⟩ => hG H (mc.b0.trans Ec.ex)) ?_ ?_
        · refine ⟨B0, wipeR ρ1 vs, [], [], full, Ew.beside (E1.up0 hD) hFD nDw (.inr (.inr hD)), ⟨Same.refl _, fun a o h _ _ => ?_, fun _ _ h _ => h, fun a o => own_wipe (own_wipeR o), fun a h => ?_⟩, upd_same, E1.up0 hD, .nil, Nat.le_refl _, by rw [List.drop_zero]; exact er, rfl⟩
          · rw [upd_ne (ne_of_none h hD)]
            exact h
          · have : a ≠ D := fun z => h (z ▸ hD)
            rw [upd_ne this]
            exact h
        · rintro i x H H' hi ⟨C0, ρc, acc, done, tl, Ec, mc, hacc, hC, hdd, hlen, hrun, hfull⟩ y
          obtain ⟨d, hd, hx⟩ := hY i H x H' hi (mc.b0.trans Ec.ex) y
          have nc : ¬ OwnAt (wipe σ vs) ρc D := fun z => nD (mc.sub D z)
          obtain ⟨D0, Ed, md, dd⟩ := item_at Ec mc.b0 hx
          have hacc' : H' D = some (.lst acc) := md.kl D hacc nc
          have hC' : D0 D = none := md.off D (by rw [hacc]; exact fun z => nomatch z) hC nc
          have hdrop : xs.drop i = d :: xs.drop (i + 1) := by
            obtain ⟨hlt, hget⟩ := List.getElem?_eq_some_iff.mp hd
            rw [List.drop_eq_getElem_cons hlt, hget]
          rw [hdrop] at hrun
          unfold lcL at hrun
          cases et : t d ρc with
          | none => rw [et] at hrun; cases hrun
          | some ρ2 =>
            rw [et] at hrun
            dsimp only at hrun
            obtain ⟨b, ρ3, hb, hrun⟩ := bind_ok hrun
            refine ⟨D0, ρc, d, Ed, dd, ρ2, et, fun us E2 ow => ?_⟩
            have hw2 : wipe (setAll is us (wipe σ vs)) vs = wipe σ vs := by rw [wipe_setAll vs is us _ his, wipe_idem vs vs σ fun _ z => z]
            have n2 : ¬ OwnAt (setAll is us (wipe σ vs)) ρ2 D := fun z => nc (ow D z)
            have m2 : Mw (wipe σ vs) ρc (setAll is us (wipe σ vs)) ρ2 D0 H' D0 H' := ⟨Same.refl _, fun _ _ h _ _ => h, fun _ _ h _ => h, fun a o => ow a o, fun _ h => h⟩
            refine ⟨hw2, D0, ρ2, E2, ?_⟩
            rw [hb]
            intro I0 I E3 m3
            have n3 : ¬ OwnAt (setAll is us (wipe σ vs)) ρ3 D := fun z => n2 (m3.sub D z)
            have acc3 : I D = some (.lst acc) := m3.kl D hacc' n2
            have C3 : I0 D = none := m3.off D (by rw [hacc']; exact fun z => nomatch z) hC' n2
            have M3 := (mc.trans md).trans (m2.trans m3)
            have down : ∀ {J0 J : Hp} {ρ4 : Rho}, En g.K F J0 J (setAll is us (wipe σ vs)) ρ4 → Mw σ ρ1 (setAll is us (wipe σ vs)) ρ4 B0 B J0 J → En g.K F J0 J (wipe σ vs) (wipeR ρ4 vs) ∧ Mw σ ρ1 (wipe σ vs) (wipeR ρ4 vs) B0 B J0 J := fun {J0 J ρ4} E4 M4 => by
              have ok4 : okW vs ρ4 = true := by
                have h1 := hc.1
                unfold okW at h1 ⊢
                rw [Bool.or_eq_true] at h1 ⊢
                rcases h1 with h1 | h1
                · left
                  refine noIo_iff.mpr fun kvs ek => ?_
                  obtain ⟨w, y1, a, ks, rfl, z2, z3, z4, z5⟩ := E4.sl 0 _ ek
                  obtain ⟨_, ⟨kv, y2⟩, _⟩ := E1.io a z3
                  exact noIo_iff.mp h1 kv y2
                · exact .inr h1
              have E5 := E4.wipe vs ok4
              rw [hw2] at E5
              refine ⟨E5, M4.b0, M4.keep, M4.off, fun a o => M4.sub a ?_, M4.st⟩
              have o2 := own_wipeR o
              obtain ⟨i, s, y1, y2, y3⟩ := o2
              rw [← hw2] at y3
              exact ⟨i, s, y1, y2, wipe_get vs y3⟩
            cases b with
            | true =>
              rw [if_pos rfl] at hrun ⊢
              obtain ⟨d2, ρ4, hel, hrun⟩ := bind_ok hrun
              obtain ⟨ds, ρ5, hrest, hrun⟩ := bind_ok hrun
              cases hrun
              refine ⟨I0, ρ3, E3, ?_⟩
              rw [hel]
              intro v2 J0 J' E4 m4 dv
              have n4 : ¬ OwnAt (setAll is us (wipe σ vs)) ρ4 D := fun z => n3 (m4.sub D z)
              have acc4 : J' D = some (.lst acc) := m4.kl D acc3 n3
              have C4 : J0 D = none := m4.off D (by rw [acc3]; exact fun z => nomatch z) C3 n3
              obtain ⟨E5, M5⟩ := down E4 (M3.trans m4)
              have n5 : ¬ OwnAt (wipe σ vs) (wipeR ρ4 vs) D := fun z => nD (M5.sub D z)
              have hal : acc.length = done.length := hdd.length
              refine ⟨acc, acc4, Nat.lt_of_le_of_lt (by rw [hal]; exact Nat.le_trans hlen (Nat.le_trans (Nat.le_of_lt hi) hc.2)) (by decide), J0, wipeR ρ4 vs, acc ++ [v2], done ++ [d2], ds, E5.beside C4 hFD n5 (.inl ⟨_, acc4⟩), ⟨M5.b0, fun a o h nt ho => ?_, M5.off, M5.sub, fun a h => ?_⟩, upd_same, C4,
                (((hdd.mono md.b0).mono m3.b0).mono m4.b0).append (.cons dv .nil), by rw [List.length_append]; exact Nat.succ_le_succ hlen, hrest, by rw [hfull, List.append_assoc]; rfl⟩
              · rw [upd_ne (ne_of_none h hD)]
                exact M5.keep a o h nt ho
              · have : a ≠ D := fun z => h (z ▸ hD)
                rw [upd_ne this]
                exact M5.st a h
            | false =>
              rw [if_neg Bool.false_ne_true] at hrun ⊢
              obtain ⟨E5, M5⟩ := down E3 M3
              exact ⟨I0, wipeR ρ3 vs, acc, done, tl, E5, M5, acc3, C3, (hdd.mono md.b0).mono m3.b0, Nat.le_succ_of_le hlen, hrun, hfull⟩
        · rintro H ⟨C0, ρc, acc, done, tl, Ec, mc, hacc, hC, hdd, hlen, hrun, hfull⟩
          rw [List.drop_length] at hrun
          cases hrun
          rw [List.append_nil] at hfull
          subst hfull
          have E6 : En g.K F C0 H σ ρe := Ec.unwipe (by rw [E1.len, ← E1.len, ← wipe_length σ vs, Ec.len])
          refine q _ C0 H E6 (m1.trans ⟨mc.b0, mc.keep, mc.off, fun a o => ?_, mc.st⟩) ⟨D, acc, rfl, hC, hFD, hacc, hdd⟩ fun _ b z => by cases z; exact m1.fresh hD
          obtain ⟨i, s, y1, y2, y3⟩ := o
          obtain ⟨w, z1, _⟩ := Ec.sl i s y1
          have z2 := wipe_get vs z1
          rw [y3] at z2
          cases z2
          exact mc.sub a ⟨i, s, y1, y2, z1⟩
    · rw [if_neg hc] at q
      exact q.elim
end
end DW

set_option Elab.async false
set_option linter.all false
set_option maxRecDepth 100000
set_option maxHeartbeats 4000000
/-! DWA: the text's side of DW9; walks; append, d[k] = v, a, b = x, y -/
namespace DW
open PySem PySem.Spec PyProof.Rows L2

/-! ### what is walked -/
def itD : Dt → Option (List Dt)
  | .lst ds => some ds
  | .tup ds => some ds
  | .scr ns => some (ns.map .int)
  | .str z => some (z.cps.toList.map fun c => .str ⟨#[c]⟩)
  | _ => none
def itF (f : Rho → R Dt) : Rho → R (List Dt) := fun ρ => (f ρ).bind fun d ρ1 => match itD d with
  | some ds => .ok ds ρ1
  | none => .bad
def rngD1 : List Dt → Option (List Dt)
  | [.int n] => if -(2 ^ 62) ≤ n ∧ n < 2 ^ 62 then some ((List.range n.toNat).map fun i => .int (i : Nat)) else none
  | _ => none
def rngD2 : List Dt → Option (List Dt)
  | [.int a, .int b] => if -(2 ^ 62) ≤ a ∧ a < 2 ^ 62 ∧ -(2 ^ 62) ≤ b ∧ b < 2 ^ 62 then some ((List.range (b - a).toNat).map fun i => .int (a + (i : Nat))) else none
  | _ => none
def rngD3 : List Dt → Option (List Dt)
  | [.int a, .int b, .int c] => if 0 < c ∧ c < 2 ^ 29 ∧ -(2 ^ 62) ≤ a ∧ a < 2 ^ 62 ∧ -(2 ^ 62) ≤ b ∧ b < 2 ^ 62 then some ((List.range (if a < b then (b - a - 1) / c + 1 else 0).toNat).map fun i => .int (a + (i : Nat) * c)) else none
  | _ => none
def rngF (gd : List Dt → Option (List Dt)) (f : Rho → R (List Dt)) : Rho → R (List Dt) := fun ρ => (f ρ).bind fun ds ρ1 => match gd ds with
  | some xs => .ok xs ρ1
  | none => .bad
theorem PI.wk {X : Cx} {tg e : Expr} {t u : TI} (h : PI X tg e t) (k : ∀ σ H Q, u σ H Q → t σ H Q) : PI X tg e u := ⟨fun pins s σ H Q I q => h.run pins s σ H Q I (k σ H Q q)⟩
theorem PI.or {X : Cx} {tg e : Expr} {t u : TI} (h : PI X tg e t) (h' : PI X tg e u) : PI X tg e (fun σ H Q => t σ H Q ∨ u σ H Q) := ⟨fun pins s σ H Q I q => by
  rcases q with q | q
  · exact h.run pins s σ H Q I q
  · exact h'.run pins s σ H Q I q⟩
section
variable {g : Gx} {F : Fm} {W : WX} {σ : L2.St} {H : Hp} {K : PySem.W.Frag}
theorem itd_list {H0 : Hp} {a : Addr} {vs : List V} {ds : List Dt} (h1 : H0 a = some (.lst vs)) (h2 : DaAll K H0 vs ds) : ItD K (Itl K a) H0 ds := by
  refine ⟨_, _, by rw [← h2.length]; exact walk_list (K := K) (a := a) (xs := vs), fun H s => SqL.of (s _ _ h1), fun i H x H' hi s y => ?_⟩
  obtain ⟨rfl, hx⟩ := y
  obtain ⟨d, hd, dd⟩ := h2.getV hx
  exact ⟨d, hd, .inl ⟨rfl, dd⟩⟩
theorem itd_tup {H0 : Hp} {a : Addr} {vs : List V} {ds : List Dt} (h1 : SqT K H0 a vs) (h2 : DaAll K H0 vs ds) : ItD K (Itt K a) H0 ds := by
  refine ⟨_, _, by rw [← h2.length]; exact walk_tup (K := K) (a := a) (xs := vs), fun H s => seqT_mono s h1, fun i H x H' hi s y => ?_⟩
  obtain ⟨rfl, hx⟩ := y
  obtain ⟨d, hd, dd⟩ := h2.getV hx
  exact ⟨d, hd, .inl ⟨rfl, dd⟩⟩
theorem itd_scr {H0 : Hp} {a : Addr} {ns : List Int} (h1 : SqL K H0 a (ns.map V.int)) : ItD K (Itl K a) H0 (ns.map .int) := by
  refine ⟨_, _, by rw [List.length_map, ← List.length_map (f := V.int) (as := ns)]; exact walk_list (K := K) (a := a) (xs := ns.map V.int), fun H s => seqL_mono s h1, fun i H x H' hi s y => ?_⟩
  obtain ⟨rfl, hx⟩ := y
  obtain ⟨d, hd, dd⟩ := (daInts (K := K) (H := H0) ns).getV hx
  exact ⟨d, hd, .inl ⟨rfl, dd⟩⟩
theorem itd_str {H0 : Hp} {z : Str} : ItD K (Its z) H0 (z.cps.toList.map fun c => .str ⟨#[c]⟩) := by
  refine ⟨_, _, by rw [List.length_map]; exact walk_str (z := z), fun H s => trivial, fun i H x H' hi s y => ?_⟩
  obtain ⟨rfl, c, hc, rfl⟩ := y
  refine ⟨.str ⟨#[c]⟩, ?_, .inl ⟨rfl, .str _⟩⟩
  rw [List.getElem?_map, Array.getElem?_toList, hc]
  rfl
theorem itd_rng {H0 : Hp} (lo : Int) (n : Nat) : ItD K (Itr lo n) H0 ((List.range n).map fun i => .int (lo + (i : Nat))) := by
  refine ⟨_, _, by rw [List.length_map, List.length_range]; exact walk_range (lo := lo) (n := n), fun H s => trivial, fun i H x H' hi s y => ?_⟩
  rw [List.length_map, List.length_range] at hi
  obtain ⟨rfl, rfl⟩ := y
  refine ⟨.int (lo + i), ?_, .inl ⟨rfl, .int _⟩⟩
  rw [List.getElem?_map, List.getElem?_range hi]
  rfl
theorem itd_rngC {H0 : Hp} (lo c : Int) (n : Nat) : ItD K (Itc lo c n) H0 ((List.range n).map fun i => .int (lo + (i : Nat) * c)) := by
  refine ⟨_, _, by rw [List.length_map, List.length_range]; exact walk_rangeC (lo := lo) (c := c) (n := n), fun H s => trivial, fun i H x H' hi s y => ?_⟩
  rw [List.length_map, List.length_range] at hi
  obtain ⟨rfl, rfl⟩ := y
  refine ⟨.int (lo + i * c), ?_, .inl ⟨rfl, .int _⟩⟩
  rw [List.getElem?_map, List.getElem?_range hi]
  rfl
def iAll (K : PySem.W.Frag) (t : TE) : TI := fun σ H R => iList K t σ H R ∨ iTup K t σ H R ∨ iStr t σ H R
theorem iAll_of {f : Rho → R Dt} {Rk : It → Hp → Prop} (h : tI g F W (itF f) σ H Rk) : iAll g.K (tD g F W f) σ H Rk := by
  obtain ⟨H0, ρ, E, q⟩ := h
  unfold itF at q
  cases e : f ρ with
  | ok d ρ1 =>
    rw [e] at q
    dsimp only [R.bind] at q
    cases d with
    | lst ds =>
      refine .inl ⟨H0, ρ, E, ?_⟩
      rw [e]
      intro v H0' H' E' m hd
      cases hd with
      | lst h1 h2 => exact ⟨_, rfl, ⟨_, SqL.of (E'.ex _ _ h1)⟩, q _ H0' H' E' m (itd_list h1 h2)⟩
    | scr ds =>
      refine .inl ⟨H0, ρ, E, ?_⟩
      rw [e]
      intro v H0' H' E' m hd
      cases hd with
      | scr h1 => exact ⟨_, rfl, ⟨_, seqL_mono E'.ex h1⟩, q _ H0' H' E' m (itd_scr h1)⟩
    | tup ds =>
      refine .inr (.inl ⟨H0, ρ, E, ?_⟩)
      rw [e]
      intro v H0' H' E' m hd
      cases hd with
      | tup h1 h2 => exact ⟨_, rfl, ⟨_, seqT_mono E'.ex h1⟩, q _ H0' H' E' m (itd_tup h1 h2)⟩
    | str z =>
      refine .inr (.inr ⟨H0, ρ, E, ?_⟩)
      rw [e]
      intro v H0' H' E' m hd
      cases hd
      exact ⟨z, rfl, q _ H0' H' E' m itd_str⟩
    | _ => exact q.elim
  | ex x ρ1 =>
    rw [e] at q
    refine .inl ⟨H0, ρ, E, ?_⟩
    rw [e]
    exact q
  | bad =>
    rw [e] at q
    exact q.elim
theorem rng_small {a b c : Int} (h : 0 < c ∧ c < 2 ^ 29 ∧ -(2 ^ 62) ≤ a ∧ a < 2 ^ 62 ∧ -(2 ^ 62) ≤ b ∧ b < 2 ^ 62) : RgC a b c (if a < b then (b - a - 1) / c + 1 else 0).toNat := by
  obtain ⟨h1, h2, h3, h4, h5, h6⟩ := h
  refine ⟨by omega, by omega, ?_, ?_⟩
  · have hs : Builtin.Range.rangeSize a b c = (if a < b then (b - a - 1) / c + 1 else 0) := by
      unfold Builtin.Range.rangeSize
      rw [if_pos h1]
    have hq : a < b → 0 ≤ (b - a - 1) / c ∧ (b - a - 1) / c ≤ b - a - 1 := fun hab => ⟨Int.ediv_nonneg (by omega) (by omega), Int.ediv_le_self _ (by omega)⟩
    unfold Builtin.Range.small
    rw [hs]
    simp only [Builtin.Range.rangeFitsLong, Bool.and_eq_true, Bool.or_eq_true, decide_eq_true_eq, beq_iff_eq, gt_iff_lt, h1, if_true]
    split
    · rename_i hab
      obtain ⟨q1, q2⟩ := hq hab
      omega
    · omega
  · unfold Builtin.Range.rangeSize
    rw [if_pos h1]
    split
    · have : 0 ≤ (b - a - 1) / c := Int.ediv_nonneg (by omega) (by omega)
      omega
    · rfl
theorem iRng1_of {f : Rho → R (List Dt)} {Rk : It → Hp → Prop} (h : tI g F W (rngF rngD1 f) σ H Rk) : iRng1 (tDA g F W f) σ H Rk := by
  obtain ⟨H0, ρ, E, q⟩ := h
  refine ⟨H0, ρ, E, ?_⟩
  unfold rngF at q
  cases e : f ρ with
  | ok ds ρ1 =>
    rw [e] at q
    dsimp only [R.bind] at q
    intro vs H0' H' E' m hd
    cases e2 : rngD1 ds with
    | none => rw [e2] at q; exact q.elim
    | some xs =>
      rw [e2] at q
      unfold rngD1 at e2
      split at e2
      · split at e2
        · rename_i n hb
          cases e2
          have : vs = [V.int n] := hd.ints (ns := [n])
          refine ⟨n, this, hb.1, hb.2, q _ H0' H' E' m ?_⟩
          have z := itd_rng (K := g.K) (H0 := H0') 0 n.toNat
          simpa using z
        · cases e2
      · cases e2
  | ex x ρ1 =>
    rw [e] at q
    exact q
  | bad =>
    rw [e] at q
    exact q
theorem iRng2_of {f : Rho → R (List Dt)} {Rk : It → Hp → Prop} (h : tI g F W (rngF rngD2 f) σ H Rk) : iRng2 (tDA g F W f) σ H Rk := by
  obtain ⟨H0, ρ, E, q⟩ := h
  refine ⟨H0, ρ, E, ?_⟩
  unfold rngF at q
  cases e : f ρ with
  | ok ds ρ1 =>
    rw [e] at q
    dsimp only [R.bind] at q
    intro vs H0' H' E' m hd
    cases e2 : rngD2 ds with
    | none => rw [e2] at q; exact q.elim
    | some xs =>
      rw [e2] at q
      unfold rngD2 at e2
      split at e2
      · split at e2
        · rename_i a b hb
          cases e2
          have : vs = [V.int a, V.int b] := hd.ints (ns := [a, b])
          exact ⟨a, b, this, hb, q _ H0' H' E' m (itd_rng _ _)⟩
        · cases e2
      · cases e2
  | ex x ρ1 =>
    rw [e] at q
    exact q
  | bad =>
    rw [e] at q
    exact q
theorem iRng3_of {f : Rho → R (List Dt)} {Rk : It → Hp → Prop} (h : tI g F W (rngF rngD3 f) σ H Rk) : iRng3 (tDA g F W f) σ H Rk := by
  obtain ⟨H0, ρ, E, q⟩ := h
  refine ⟨H0, ρ, E, ?_⟩
  unfold rngF at q
  cases e : f ρ with
  | ok ds ρ1 =>
    rw [e] at q
    dsimp only [R.bind] at q
    intro vs H0' H' E' m hd
    cases e2 : rngD3 ds with
    | none => rw [e2] at q; exact q.elim
    | some xs =>
      rw [e2] at q
      unfold rngD3 at e2
      split at e2
      · split at e2
        · rename_i a b c hb
          cases e2
          have : vs = [V.int a, V.int b, V.int c] := hd.ints (ns := [a, b, c])
          exact ⟨a, b, c, _, this, rng_small hb, q _ H0' H' E' m (itd_rngC _ _ _)⟩
        · cases e2
      · cases e2
  | ex x ρ1 =>
    rw [e] at q
    exact q
  | bad =>
    rw [e] at q
    exact q
end
end DW

set_option Elab.async false
set_option linter.all false
set_option maxRecDepth 100000
set_option maxHeartbeats 4000000
/-! DWB: rules: made things, walks, append, stores, methods -/
namespace DW
open PySem PySem.Spec PyProof.Rows L2

section
variable {X : Cx} {W : WX} {a b c e : Expr} {es : List Expr} {pos p p2 p3 : Pos} {f1 f2 f3 : Rho → R Dt} {fa : Rho → R (List Dt)} {fo : Rho → R Sl}
theorem do_lst (h : DA X W es fa) : DO X W (.List es pos) (lstO fa) := fun F => PE.wk (pe_lst (h F)) fun _ _ _ q => tLstO_of q
theorem do_dct0 : DO X W (.Dict [] [] pos) dctO0 := fun F => PE.wk pe_dnewK fun _ _ _ q => tDNew_of q
theorem do_fr (h : DE X W e f1) : DO X W e (frO f1) := fun F => PE.wk (h F) fun _ _ _ q => tO_fr q
theorem de_do (h : DO X W e fo) : DE X W e (frzR fo) := fun F => PE.wk (h F) fun _ _ _ q => tO_frz q
/-! ### walks -/
theorem di_all {tg : Expr} (h : DE X W e f1) : DI X W tg e (itF f1) := fun F => PI.wk (PI.or (pi_list (h F)) (PI.or (pi_tup (h F)) (pi_str (h F)))) fun _ _ _ q => iAll_of q
theorem di_range1 {tg : Expr} (hg : Gl X "range") (hm : X.mg "range" = none) (h : DA X W [a] fa) (hs : starEach [a] X.env = [(false, eval a X.env)] := by rfl) : DI X W tg (.Call (.Name "range" p) [a] [] pos) (rngF rngD1 fa) := fun F => PI.wk (pi_range1 hg hm (h F) hs) fun _ _ _ q => iRng1_of q
theorem di_range2 {tg : Expr} (hg : Gl X "range") (hm : X.mg "range" = none) (h : DA X W [a, b] fa) (hs : starEach [a, b] X.env = [(false, eval a X.env), (false, eval b X.env)] := by rfl) (hs2 : starEach [b] X.env = [(false, eval b X.env)] := by rfl) : DI X W tg (.Call (.Name "range" p) [a, b] [] pos) (rngF rngD2 fa) := fun F => PI.wk (pi_range2 hg hm (h F) hs hs2) fun _ _ _ q => iRng2_of q
theorem di_range3 {tg : Expr} (hg : Gl X "range") (hm : X.mg "range" = none) (h : DA X W [a, b, c] fa) (hs : starEach [a, b, c] X.env = (false, eval a X.env) :: starEach [b, c] X.env := by rfl) (hpl : (backTo pos (starEach [b, c] X.env)).any (·.1) = false := by rfl) : DI X W tg (.Call (.Name "range" p) [a, b, c] [] pos) (rngF rngD3 fa) := fun F => PI.wk (pi_range3 hg hm (h F) hs hpl) fun _ _ _ q => iRng3_of q
/-! ### tests of comprehensions -/
def DTs (X : Cx) (W : WX) (ifs : List Expr) (f : Rho → R Bool) : Prop := ∀ F, PTs X ifs (tDT (gx X) F W f)
theorem PTs.wk {ifs : List Expr} {t u : TT} (h : PTs X ifs t) (k : ∀ σ H Q, u σ H Q → t σ H Q) : PTs X ifs u := ⟨fun pins s σ H Q I q => h.run pins s σ H Q I (k σ H Q q)⟩
theorem dts_nil : DTs X W [] yesT := fun F => PTs.wk pts_nil fun σ H Q ⟨H0, ρ, E, q⟩ => q H0 H E Mv.refl
theorem dts_one {t1 : Rho → R Bool} (h : DT X W c t1) : DTs X W [c] t1 := fun F => pts_one (h F)
abbrev blkX (X : Cx) (scope : Scope) (s : Shared) (H : Hp) (C : Addr) (cl : List (Str × Addr)) (fp : List Addr) : Cx := X.blk s H scope (compEnvC scope cl C X.env) fp
theorem do_lc {elt tg iter : Expr} {ifs : List Expr} {scope : Scope} {own : List (Str × Nat)} {it : Rho → R (List Dt)} {t : Dt → Rho → Option Rho} {ct : Rho → R Bool} {el : Rho → R Dt} {is : List Nat} (hc : X.calm = true) (hN : X.N.Nodup) (hi : DI X W tg iter it) (ok : BlkOk X.N X.env.scope scope own)
    (hg : ∀ s H C cl fp, DG (blkX X scope s H C cl fp) tg is t) (ht : ∀ s H C cl fp, DTs (blkX X scope s H C cl fp) WF ifs ct) (he : ∀ s H C cl fp, DE (blkX X scope s H C cl fp) WF elt el) (his : ∀ i ∈ is, i ∈ own.map (·.2))
    (hs : ∀ x, foldedSetIterable iter X.env x = pure x := by intro _; rfl) : DO X W (.ListComp elt [⟨tg, iter, ifs, 0⟩] scope pos) (lcO it t ct el (own.map (·.2))) :=
  fun F => PE.wk (pe_lc hc hN (hi F) ok (fun s H C cl fp => hg s H C cl fp F) (fun s H C cl fp => ht s H C cl fp F) (fun s H C cl fp => he s H C cl fp F) hs) fun _ _ _ q => tLc_of his q
theorem ds_setLc (i : Nat) {y : Str} {py spos : Pos} {elt tg iter : Expr} {ifs : List Expr} {scope : Scope} {own : List (Str × Nat)} {it : Rho → R (List Dt)} {t : Dt → Rho → Option Rho} {ct : Rho → R Bool} {el : Rho → R Dt} {is : List Nat} (hc : X.calm = true) (hN : X.N.Nodup)
    (hsw : swapsWith (.ListComp elt [⟨tg, iter, ifs, 0⟩] scope pos) (some (.Name y py)) spos.line X.env = pure true) (hi : DI X W tg iter it) (ok : BlkOk X.N X.env.scope scope own)
    (hg : ∀ s H C cl fp, DG (blkX X scope s H C cl fp) tg is t) (ht : ∀ s H C cl fp, DTs (blkX X scope s H C cl fp) WF ifs ct) (he : ∀ s H C cl fp, DE (blkX X scope s H C cl fp) WF elt el) (his : ∀ i ∈ is, i ∈ own.map (·.2))
    (hy : X.N[i]? = some y := by rfl) (hyl : X.env.scope.names.lookup y = some .local := by rfl)
    (hs : ∀ x, foldedSetIterable iter X.env x = pure x := by intro _; rfl) : DS X W (.Assign [.Name y py] (.ListComp elt [⟨tg, iter, ifs, 0⟩] scope pos) spos) (setS i (frzR (lcO it t ct el (own.map (·.2))))) :=
  fun F => PS.wk (ps_setLc hc hN hy hyl hsw (hi F) ok (fun s H C cl fp => hg s H C cl fp F) (fun s H C cl fp => ht s H C cl fp F) (fun s H C cl fp => he s H C cl fp F) hs) fun D σ H h => by
    have h2 : tD (gx X) F W (frzR (lcO it t ct el (own.map (·.2)))) σ H (fun x H1 => gName i x σ H1 D.nx) := by
      refine tD_bindS h fun v H0 H' ρ1 d E hd q => ?_
      obtain ⟨ρ2, e, k⟩ := nxO_post q
      exact k _ H' (E.putFr hd e)
    exact tLc_of his (tO_frz h2)
theorem ds_setLcO (i : Nat) {y : Str} {py spos : Pos} {elt tg iter : Expr} {ifs : List Expr} {scope : Scope} {own : List (Str × Nat)} {it : Rho → R (List Dt)} {t : Dt → Rho → Option Rho} {ct : Rho → R Bool} {el : Rho → R Dt} {is : List Nat} (hc : X.calm = true) (hN : X.N.Nodup)
    (hsw : swapsWith (.ListComp elt [⟨tg, iter, ifs, 0⟩] scope pos) (some (.Name y py)) spos.line X.env = pure true) (hi : DI X W tg iter it) (ok : BlkOk X.N X.env.scope scope own)
    (hg : ∀ s H C cl fp, DG (blkX X scope s H C cl fp) tg is t) (ht : ∀ s H C cl fp, DTs (blkX X scope s H C cl fp) WF ifs ct) (he : ∀ s H C cl fp, DE (blkX X scope s H C cl fp) WF elt el) (his : ∀ i ∈ is, i ∈ own.map (·.2))
    (hy : X.N[i]? = some y := by rfl) (hyl : X.env.scope.names.lookup y = some .local := by rfl)
    (hs : ∀ x, foldedSetIterable iter X.env x = pure x := by intro _; rfl) : DS X W (.Assign [.Name y py] (.ListComp elt [⟨tg, iter, ifs, 0⟩] scope pos) spos) (setOS i (lcO it t ct el (own.map (·.2)))) :=
  fun F => PS.wk (ps_setLc hc hN hy hyl hsw (hi F) ok (fun s H C cl fp => hg s H C cl fp F) (fun s H C cl fp => ht s H C cl fp F) (fun s H C cl fp => he s H C cl fp F) hs) fun D σ H h => by
    refine tLc_of his (tO_bindS h fun v H0 H' ρ1 s E hd ho q => ?_)
    cases s with
    | raw _ _ =>
      obtain ⟨ρ2, e, k⟩ := nxO_post q
      exact k _ H' (E.put hd (fun _ z => nomatch z) ho e)
    | io _ => exact q.elim
    | fr d =>
      obtain ⟨ρ2, e, k⟩ := nxO_post q
      exact k _ H' (E.put hd (fun _ z => nomatch z) ho e)
    | ol d =>
      obtain ⟨ρ2, e, k⟩ := nxO_post q
      exact k _ H' (E.put hd (fun _ z => nomatch z) ho e)
    | od d =>
      obtain ⟨ρ2, e, k⟩ := nxO_post q
      exact k _ H' (E.put hd (fun _ z => nomatch z) ho e)

/-! ### x.append(e) -/
theorem ds_app (i : Nat) {x : Str} {apos cpos spos : Pos} (hx : PE X (.Name x p) (tVar i)) (he : DE X W e f1) (hbase : attributeBase (.Name x p) "append" X.env (eval (.Name x p) X.env) = eval (.Name x p) X.env := by rfl)
    (hfew : ((backTo cpos (starEach (e :: []) X.env)).all (fun x => !x.1) && (backToKw cpos (keywordEach [] X.env)).all (fun x => x.1.isSome)
      && decide ((e :: ([] : List Expr)).length + ([] : List Keyword).length + (if ([] : List Keyword).isEmpty then 0 else 1) < 30)) = true := by rfl)
    (hline : (apos.endLine == cpos.line) = true := by rfl) (hs : starEach (e :: []) X.env = (false, eval e X.env) :: starEach [] X.env := by rfl) (hplain : (backTo cpos (starEach [] X.env)).any (·.1) = false := by rfl)
    (hsw : swapsWith (.Call (.Attribute (.Name x p) "append" apos) [e] [] cpos) none spos.line X.env = pure false := by rfl) :
    DS X W (.Expr (.Call (.Attribute (.Name x p) "append" apos) [e] [] cpos) spos) (appS i f1) :=
  fun F => PS.wk (ps_expr (pe_bm PySem.F.plainAttrs_list PySem.F.slot_list_append PySem.F.type_list_append mt_append hx (pa_cons (he F) pa_nil hs) hbase hfew hline hs hplain) hsw) fun D σ H ⟨H0, ρ, E, q⟩ => by
    unfold appS at q
    cases e0 : lAt i ρ with
    | none => rw [e0] at q; exact q.elim
    | some xs0 =>
      rw [e0] at q
      dsimp only at q
      have at_ : ∀ {H0 H : Hp} {ρ : Rho} {xs : List Dt}, En X.K F H0 H σ ρ → lAt i ρ = some xs → ∃ a vs, σ[i]? = some (some (.ref a)) ∧ H a = some (.lst vs) ∧ DaAll X.K H0 vs xs ∧ ρ[i]? = some (some (.ol xs)) := fun {H0 H ρ xs} E h => by
        unfold lAt at h
        split at h
        · rename_i e
          cases h
          obtain ⟨v, h1, a, vs, rfl, h2, h3, h4, h5⟩ := E.sl i _ e
          exact ⟨a, vs, h1, h4, h5, e⟩
        · cases h
      obtain ⟨a, vs, ha, hv, _⟩ := at_ E e0
      refine ⟨.ref a, ha, .inl ⟨rfl, _, SqL.of hv⟩, H0, ρ, E, ?_⟩
      cases e1 : f1 ρ with
      | ok d ρ1 =>
        rw [e1] at q
        dsimp only [R.bindS] at q
        intro v H0' H' E' m hd
        cases e2 : lAt i ρ1 with
        | none => rw [e2] at q; exact q.elim
        | some xs =>
          rw [e2] at q
          dsimp only at q
          obtain ⟨a', vs', ha', hv', hd', hi'⟩ := at_ E' e2
          rw [ha] at ha'
          cases ha'
          split at q
          · rename_i hl
            refine ⟨a, vs', v, rfl, rfl, hv', by rw [hd'.length]; exact Nat.lt_of_lt_of_le hl (by decide), ?_⟩
            exact q σ H0' _ (E'.mutL hi' ha (hd'.append (.cons hd .nil))) m.b0
          · exact q.elim
      | ex x ρ1 => rw [e1] at q; exact q σ
      | bad => rw [e1] at q; exact q
/-! ### d[k] = v -/
theorem ds_dput (i : Nat) {x : Str} {k v : Expr} {spos : Pos} {fk fv : Rho → R Dt} (hu : X.A.units + 1 < cLine) (hx : PE X (.Name x p) (tVar i)) (hk : DE X W k fk) (hv : DE X W v fv) (hs : swapsWith v (some (.Subscript (.Name x p) k p2)) spos.line X.env = pure false := by rfl) :
    DS X W (.Assign [.Subscript (.Name x p) k p2] v spos) (dputS i fk fv) := fun F => PS.wk (ps_dput hu hx (hk F) (hv F) hs) fun D σ H h => by
  refine tD_bindS h fun v H0 H' ρ1 d E hd q => ?_
  cases e0 : dAt i ρ1 with
  | none => rw [e0] at q; exact q.elim
  | some kvs0 =>
    rw [e0] at q
    dsimp only at q
    obtain ⟨a, ks0, ha, _⟩ := dAt_put E e0
    refine ⟨.ref a, ha, H0, ρ1, E, ?_⟩
    cases e1 : fk ρ1 with
    | ok kd ρ2 =>
      rw [e1] at q
      dsimp only [R.bindS] at q
      intro y B0 B E2 m2 dy
      cases ek : keyD kd with
      | none => rw [ek] at q; exact q.elim
      | some key =>
        cases e2 : dAt i ρ2 with
        | none => rw [ek, e2] at q; exact q.elim
        | some kvs =>
          rw [ek, e2] at q
          dsimp only at q
          obtain ⟨a', ks, ha', h0, hH, hkv, own, put⟩ := dAt_put E2 e2
          rw [ha] at ha'
          cases ha'
          split at q
          · rename_i hl
            have hy : y = kV key := keyD_V (H := B) (Da.pk E2.ex dy) ek
            refine ⟨a, upd B a (.dK (putK ks key v)), rfl, ?_, q σ B0 _ (put (putK ks key v) _ B0 _ (gw_upd hH) (tb_upd E2.tb hH) ?_ upd_same (hkv.put (hd.mono m2.b0))).1 m2.b0⟩
            · rw [hy]
              exact DPut.k hH (by rw [hkv.length]; exact Nat.lt_of_lt_of_le hl (by decide))
            · intro b o hb
              rw [upd_ne (ne_of_none hb h0)]
              exact E2.ex b o hb
          · exact q.elim
    | ex x ρ1 => rw [e1] at q; exact q σ
    | bad => rw [e1] at q; exact q
end
end DW

set_option Elab.async false
set_option linter.all false
set_option maxRecDepth 100000
set_option maxHeartbeats 4000000
/-! DWC: a, b = x, y; dict comprehensions; methods of dicts and lists; sorted; ranges as lists -/
namespace DW
open PySem PySem.Spec PyProof.Rows L2

/-! ### a, b = x, y -/
def SlAll (K : PySem.W.Frag) (F : Fm) (B H0 H : Hp) : List V → List Sl → Prop
  | [], [] => True
  | v :: vs, s :: ss => SlR K F H0 H v s ∧ (∀ k, s ≠ .io k) ∧ (s.own = true → ∀ a, v = .ref a → B a = none ∧ ∀ w ∈ vs, w ≠ v ∨ ∀ (i : Nat) (t : Sl), vs[i]? = some w → ss[i]? = some t → t.own = false) ∧ SlAll K F B H0 H vs ss
  | _, _ => False
def notIo : Sl → Bool
  | .io _ => false
  | _ => true
def argsP : List (Rho → R Sl) → Rho → R (List Sl)
  | [], ρ => .ok [] ρ
  | f :: fs, ρ => (f ρ).bind fun s ρ1 => if notIo s = true then (argsP fs ρ1).bind fun ss ρ2 => .ok (s :: ss) ρ2 else .bad
def putP : List Nat → List Sl → Rho → Option Rho
  | [], [], ρ => some ρ
  | i :: is, s :: ss, ρ => match putR i s ρ with
    | some ρ1 => putP is ss ρ1
    | none => none
  | _, _, _ => none
def parP (is : List Nat) (fs : List (Rho → R Sl)) : Rho → SR := fun ρ => (argsP fs ρ).bindS fun ss ρ1 => nxO (putP is ss ρ1)
theorem SlR.mv {K : PySem.W.Frag} {F : Fm} {H0 H H0' H' : Hp} {σ : L2.St} {ρ ρ' : Rho} {v : V} {s : Sl} (h : SlR K F H0 H v s) (hn : s.own = true → ∀ a, v = .ref a → ¬ OwnAt σ ρ a) (hio : ∀ k, s ≠ .io k) (m : Mv σ ρ ρ' H0 H H0' H') : SlR K F H0' H' v s := by
  cases s with
  | fr d => exact Da.mono m.b0 h
  | ol ds =>
    obtain ⟨a, vs, rfl, h1, h2, h3, h4⟩ := h
    exact ⟨a, vs, rfl, m.off a (by rw [h3]; exact fun z => nomatch z) h1 (hn rfl a rfl), h2, m.kl a h3 (hn rfl a rfl), h4.mono m.b0⟩
  | od ds =>
    obtain ⟨a, vs, rfl, h1, h2, h3, h4⟩ := h
    exact ⟨a, vs, rfl, m.off a (by rw [h3]; exact fun z => nomatch z) h1 (hn rfl a rfl), h2, m.kd a h3 (hn rfl a rfl), h4.mono m.b0⟩
  | raw w _ => exact h
  | io k => exact absurd rfl (hio k)
theorem own_addr {K : PySem.W.Frag} {F : Fm} {H0 H : Hp} {v : V} {s : Sl} (h : SlR K F H0 H v s) (ho : s.own = true) : ∃ a, v = .ref a ∧ H a ≠ none := by
  cases s with
  | fr d => cases ho
  | ol ds => obtain ⟨a, vs, rfl, h1, h2, h3, h4⟩ := h; exact ⟨a, rfl, by rw [h3]; exact fun z => nomatch z⟩
  | od ds => obtain ⟨a, vs, rfl, h1, h2, h3, h4⟩ := h; exact ⟨a, rfl, by rw [h3]; exact fun z => nomatch z⟩
  | raw w _ => cases ho
  | io k => cases ho
def tP (g : Gx) (F : Fm) (W : WX) (fs : List (Rho → R Sl)) : TA := fun σ H Q => ∃ H0 ρ, En g.K F H0 H σ ρ ∧ match argsP fs ρ with
  | .ok ss ρ' => ∀ vs H0' H', En g.K F H0' H' σ ρ' → Mv σ ρ ρ' H0 H H0' H' → vs.length = ss.length → (∀ (i : Nat) v s, vs[i]? = some v → ss[i]? = some s → SlR g.K F H0' H' v s ∧ (∀ k, s ≠ .io k) ∧ (s.own = true → ∀ a, v = .ref a → H a = none)) →
      (∀ (i j : Nat) v s t, i ≠ j → vs[i]? = some v → vs[j]? = some v → ss[i]? = some s → ss[j]? = some t → s.own = true → t.own = true → False) → Q vs H'
  | .ex e ρ' => XW g F W σ e ρ'
  | .bad => False
section
variable {g : Gx} {F : Fm} {W : WX} {σ : L2.St} {H : Hp}
theorem tP_nil {Q : List V → Hp → Prop} (h : tP g F W [] σ H Q) : tNil σ H Q := by
  obtain ⟨H0, ρ, E, q⟩ := h
  exact q [] H0 H E Mv.refl rfl (fun i v s z => by simp at z) (fun i j v s t _ z => by simp at z)
theorem tP_cons {f : Rho → R Sl} {fs : List (Rho → R Sl)} {Q : List V → Hp → Prop} (h : tP g F W (f :: fs) σ H Q) : tCons (tO g F W f) (tP g F W fs) σ H Q := by
  obtain ⟨H0, ρ, E, q⟩ := h
  refine ⟨H0, ρ, E, ?_⟩
  unfold argsP at q
  cases e : f ρ with
  | ok s ρ1 =>
    rw [e] at q
    dsimp only [R.bind] at q
    intro v H0' H' E' m hs hfr
    by_cases hio : notIo s = true
    · rw [if_pos hio] at q
      have hio' : ∀ k, s ≠ .io k := fun k z => by rw [z] at hio; cases hio
      refine ⟨H0', ρ1, E', ?_⟩
      cases e2 : argsP fs ρ1 with
      | ok ss ρ2 =>
        rw [e2] at q
        intro vs C0 C E2 m2 hl hall hdis
        have hno : s.own = true → ∀ a, v = .ref a → ¬ OwnAt σ ρ1 a := fun ho a ea z => E.notOwn (hfr ho a ea) (m.sub a z)
        have hs2 := hs.mv hno hio' m2
        refine q (v :: vs) C0 C E2 (m.trans m2) (by rw [List.length_cons, List.length_cons, hl]) (fun i w t hw ht => ?_) (fun i j w t u hij hw hw' ht hu o1 o2 => ?_)
        · cases i with
          | zero =>
            simp at hw ht
            subst hw ht
            exact ⟨hs2, hio', hfr⟩
          | succ i =>
            obtain ⟨q1, q2, q3⟩ := hall i w t (by simpa using hw) (by simpa using ht)
            exact ⟨q1, q2, fun o a ea => m.fresh (q3 o a ea)⟩
        · have cross : ∀ (k : Nat) (w : V) (u : Sl), vs[k]? = some w → ss[k]? = some u → u.own = true → s.own = true → w = v → False := fun k w u hw hu o2 o1 ev => by
            obtain ⟨_, _, q3⟩ := hall k w u hw hu
            obtain ⟨a, ea, hne⟩ := own_addr hs o1
            exact hne (q3 o2 a (ev.trans ea))
          cases i with
          | zero =>
            cases j with
            | zero => exact hij rfl
            | succ j =>
              simp at hw ht
              subst hw ht
              exact cross j _ u (by simpa using hw') (by simpa using hu) o2 o1 rfl
          | succ i =>
            cases j with
            | zero =>
              simp at hw' hu
              subst hw' hu
              exact cross i _ t (by simpa using hw) (by simpa using ht) o1 o2 rfl
            | succ j => exact hdis i j w t u (fun z => hij (by rw [z])) (by simpa using hw) (by simpa using hw') (by simpa using ht) (by simpa using hu) o1 o2
      | ex x ρ1 => rw [e2] at q; exact q
      | bad => rw [e2] at q; exact q
    · rw [if_neg hio] at q
      exact q.elim
  | ex x ρ1 => rw [e] at q; exact q
  | bad => rw [e] at q; exact q
theorem put_all {K : PySem.W.Frag} : ∀ (is : List Nat) (vs : List V) (ss : List Sl) {σ : L2.St} {ρ ρ' : Rho} {H0 H : Hp}, En K F H0 H σ ρ → vs.length = ss.length → (∀ (i : Nat) v s, vs[i]? = some v → ss[i]? = some s → SlR K F H0 H v s ∧ (∀ k, s ≠ .io k) ∧ (s.own = true → ∀ a, v = .ref a → ¬ OwnAt σ ρ a)) →
    (∀ (i j : Nat) v s t, i ≠ j → vs[i]? = some v → vs[j]? = some v → ss[i]? = some s → ss[j]? = some t → s.own = true → t.own = true → False) → putP is ss ρ = some ρ' → En K F H0 H (setAll is vs σ) ρ'
  | [], vs, [], σ, ρ, ρ', H0, H, E, hl, hall, hd, h => by
    cases h
    cases vs with
    | nil => exact E
    | cons _ _ => cases hl
  | [], vs, s :: ss, σ, ρ, ρ', H0, H, E, hl, hall, hd, h => by cases h
  | i :: is, vs, [], σ, ρ, ρ', H0, H, E, hl, hall, hd, h => by cases h
  | i :: is, [], s :: ss, σ, ρ, ρ', H0, H, E, hl, hall, hd, h => by cases hl
  | i :: is, v :: vs, s :: ss, σ, ρ, ρ', H0, H, E, hl, hall, hd, h => by
    unfold putP at h
    cases e : putR i s ρ with
    | none => rw [e] at h; cases h
    | some ρ1 =>
      rw [e] at h
      obtain ⟨h1, h2, h3⟩ := hall 0 v s rfl rfl
      have E1 := E.put h1 h2 h3 e
      refine put_all is vs ss E1 (by simpa using hl) (fun k w t hw ht => ?_) (fun j k w t u hjk hw hw' ht hu o1 o2 => hd (j + 1) (k + 1) w t u (fun z => hjk (Nat.succ.inj z)) (by simpa using hw) (by simpa using hw') (by simpa using ht) (by simpa using hu) o1 o2) h
      obtain ⟨q1, q2, q3⟩ := hall (k + 1) w t (by simpa using hw) (by simpa using ht)
      refine ⟨q1, q2, fun o a ea own => ?_⟩
      unfold putR at e
      split at e
      · cases e
      · cases e
        obtain ⟨j, u, y1, y2, y3⟩ := own
        rcases set_get y1 with ⟨rfl, z⟩ | ⟨hne, z⟩
        · cases z
          rcases set_get y3 with ⟨_, z3⟩ | ⟨hne, _⟩
          · cases z3
            refine hd (k + 1) 0 (.ref a) t s (Nat.succ_ne_zero k) (by rw [← ea]; simpa using hw) rfl (by simpa using ht) rfl o ?_
            cases s with
            | fr _ => cases y2
            | ol _ => rfl
            | od _ => rfl
            | raw w _ => cases y2
            | io k => exact absurd rfl (h2 k)
          · exact hne rfl
        · rw [List.getElem?_set_ne (Ne.symm hne)] at y3
          exact q3 o a ea ⟨j, u, z, y2, y3⟩
theorem tPar_post {D : Ends} {fs : List (Rho → R Sl)} {is : List Nat} {Q : List V → Hp → Prop} (h : tS g F W (parP is fs) D σ H) (hQ : ∀ vs H', vs.length = is.length → D.nx (setAll is vs σ) H' → Q vs H') : tP g F W fs σ H Q := by
  obtain ⟨H0, ρ, E, q⟩ := h
  refine ⟨H0, ρ, E, ?_⟩
  unfold parP at q
  cases e : argsP fs ρ with
  | ok ss ρ1 =>
    rw [e] at q
    intro vs H0' H' E' m hl hall hd
    obtain ⟨ρ2, e2, k⟩ := nxO_post (PostS.mono m.b0 q)
    have hlen : ∀ (is : List Nat) (ss : List Sl) (ρ ρ' : Rho), putP is ss ρ = some ρ' → ss.length = is.length := by
      intro is
      induction is with
      | nil => intro ss ρ ρ' e; cases ss with | nil => rfl | cons _ _ => cases e
      | cons i is ih =>
        intro ss ρ ρ' e
        cases ss with
        | nil => cases e
        | cons s ss =>
          unfold putP at e
          cases e1 : putR i s ρ with
          | none => rw [e1] at e; cases e
          | some ρ1 => rw [e1] at e; rw [List.length_cons, List.length_cons, ih ss ρ1 ρ' e]
    refine hQ vs H' (by rw [hl]; exact hlen is ss ρ1 ρ2 e2) (k _ H' (put_all is vs ss E' hl (fun i v s hv hs => ?_) hd e2))
    obtain ⟨q1, q2, q3⟩ := hall i v s hv hs
    exact ⟨q1, q2, fun o a ea z => E.notOwn (q3 o a ea) (m.sub a z)⟩
  | ex x ρ1 => rw [e] at q; exact q σ
  | bad => rw [e] at q; exact q
end
section
variable {X : Cx} {W : WX} {a b c e : Expr} {es : List Expr} {pos p p2 p3 : Pos} {f1 f2 f3 : Rho → R Dt} {fa : Rho → R (List Dt)} {fo : Rho → R Sl} {fs : List (Rho → R Sl)}
def DPs (X : Cx) (W : WX) (es : List Expr) (fs : List (Rho → R Sl)) : Prop := ∀ F, PA X es (tP (gx X) F W fs)
theorem dps_nil : DPs X W [] [] := fun F => PA.wk pa_nil fun _ _ _ h => tP_nil h
theorem dps_cons (ha : DO X W a fo) (hr : DPs X W es fs) (he : starEach (a :: es) X.env = (false, eval a X.env) :: starEach es X.env := by rfl) : DPs X W (a :: es) (fo :: fs) := fun F => PA.wk (pa_cons (ha F) (hr F) he) fun _ _ _ h => tP_cons h
theorem ds_par2 {i j : Nat} {x y : Str} {px py pt : Pos} {kt k2 pt2} (hc : X.calm = true) (hN : X.N.Nodup) (hij : i ≠ j) (ha : DPs X W [a, b] fs) (hw : swappedStores [.Tuple [.Name x px, .Name y py] kt pt] (.Tuple [a, b] k2 pt2) X.env = pure (some [x, y]))
    (hi : X.N[i]? = some x := by rfl) (hj : X.N[j]? = some y := by rfl) (hx : X.env.scope.names.lookup x = some .local := by rfl) (hy : X.env.scope.names.lookup y = some .local := by rfl)
    (hs : swapsWithSole [.Tuple [.Name x px, .Name y py] kt pt] (.Tuple [a, b] k2 pt2) pos.line X.env = pure false := by rfl) :
    DS X W (.Assign [.Tuple [.Name x px, .Name y py] kt pt] (.Tuple [a, b] k2 pt2) pos) (parP [i, j] fs) := fun F => PS.wk (ps_par hc hN hi hj hij hx hy (ha F) hw hs) fun D σ H h => tPar_post h fun vs H' hl k => by
  match vs, hl with
  | [v, w], _ => exact ⟨v, w, rfl, k⟩
theorem ds_par3 {i j l : Nat} {x y z : Str} {px py pz pt : Pos} {kt k2 pt2} (hc : X.calm = true) (hN : X.N.Nodup) (hij : i ≠ j) (hil : i ≠ l) (hjl : j ≠ l) (ha : DPs X W [a, b, c] fs)
    (hw : swappedStores [.Tuple [.Name x px, .Name y py, .Name z pz] kt pt] (.Tuple [a, b, c] k2 pt2) X.env = pure (some [x, y, z]))
    (hi : X.N[i]? = some x := by rfl) (hj : X.N[j]? = some y := by rfl) (hl : X.N[l]? = some z := by rfl) (hx : X.env.scope.names.lookup x = some .local := by rfl) (hy : X.env.scope.names.lookup y = some .local := by rfl) (hz : X.env.scope.names.lookup z = some .local := by rfl)
    (hs : swapsWithSole [.Tuple [.Name x px, .Name y py, .Name z pz] kt pt] (.Tuple [a, b, c] k2 pt2) pos.line X.env = pure false := by rfl) :
    DS X W (.Assign [.Tuple [.Name x px, .Name y py, .Name z pz] kt pt] (.Tuple [a, b, c] k2 pt2) pos) (parP [i, j, l] fs) := fun F => PS.wk (ps_par3 hc hN hi hj hl hij hil hjl hx hy hz (ha F) hw hs) fun D σ H h => tPar_post h fun vs H' hl k => by
  match vs, hl with
  | [v, w, u], _ => exact ⟨v, w, u, rfl, k⟩
end
end DW

set_option Elab.async false
set_option linter.all false
set_option maxRecDepth 100000
set_option maxHeartbeats 4000000
/-! DWD: dict comprehensions; methods of dicts and lists; sorted; ranges as lists -/
namespace DW
open PySem PySem.Spec PyProof.Rows L2
theorem dc_it {J : It} {n : Nat} {G : Hp → Prop} {Y : Nat → Hp → V → Hp → Prop} (w : Walk J n G Y) {g : TG} {tt : TT} {tk tv : TE} {vs : List Nat} {σ : L2.St} {H1 : Hp} {D : Addr} {Qd : Hp → Prop} (Pv : Nat → Hp → Prop) (h0 : Pv 0 (upd H1 D (.dK []))) (hG : ∀ i H, i ≤ n → Pv i H → G H)
    (hs : ∀ i x H H', i < n → Pv i H → Y i H x H' → g x (wipe σ vs) H' fun σ2 H2 => wipe σ2 vs = wipe σ vs ∧ tt σ2 H2 fun b H3 =>
      if b = true then tk σ2 H3 fun y H4 => tv σ2 H4 fun z H5 => ∃ kvs k, y = kV k ∧ H5 D = some (.dK kvs) ∧ kvs.length < sizeLine ∧ Pv (i + 1) (upd H5 D (.dK (putK kvs k z))) else Pv (i + 1) H3) (hd : ∀ H, Pv n H → Qd H) :
    ∃ W : Nat → Nat → Hp → Prop, (∃ m, W 0 m (upd H1 D (.dK []))) ∧ ∀ i m H, W i m H →
      (J.stop i H ∧ Qd H) ∨ (J.go i H ∧ ∃ Nx : Hp → Prop, (∀ H', Nx H' → ∃ m', m' < m ∧ W (i + 1) m' H') ∧ ∀ x H', J.yld i H x H' → g x (wipe σ vs) H' fun σ2 H2 => wipe σ2 vs = wipe σ vs ∧ tt σ2 H2 fun b H3 =>
        if b = true then tk σ2 H3 fun y H4 => tv σ2 H4 fun z H5 => ∃ kvs k, y = kV k ∧ H5 D = some (.dK kvs) ∧ kvs.length < sizeLine ∧ Nx (upd H5 D (.dK (putK kvs k z))) else Nx H3) := by
  refine ⟨fun i m H => m = n - i ∧ i ≤ n ∧ Pv i H, ⟨n, by simp, Nat.zero_le _, h0⟩, ?_⟩
  rintro i m H ⟨rfl, hi, p⟩
  have q := hG i H hi p
  by_cases hlt : i < n
  · exact .inr ⟨w.goes i H hlt q, Pv (i + 1), fun H' p' => ⟨n - (i + 1), by omega, rfl, hlt, p'⟩, fun x H' y => hs i x H H' hlt p (w.yields i H x H' hlt q y)⟩
  · have e : i = n := by omega
    subst e
    exact .inl ⟨w.stops H q, hd H p⟩
section
variable {K : PySem.W.Frag} {F : Fm} {H0 H H0' H' : Hp} {σ : L2.St} {ρ : Rho} {v : V} {d : Dt} {s : Sl} {i : Nat} {a p : Addr} {o : HO} {g : Gx} {W : WX}
/-- {k: v for t in it if c} -/
theorem tDc_of {it : Rho → R (List Dt)} {t : Dt → Rho → Option Rho} {c : Rho → R Bool} {ek ev : Rho → R Dt} {vs is : List Nat} (his : ∀ i ∈ is, i ∈ vs) {σ : L2.St} {H : Hp} {Q : VK} (h : tO g F W (dcO it t c ek ev vs) σ H Q) :
    tDc (tI g F W it) (tG g F is t) (tDT g F WF c) (tD g F WF ek) (tD g F WF ev) vs σ H Q := by
  obtain ⟨H0, ρ, E, q⟩ := h
  refine ⟨H0, ρ, E, ?_⟩
  unfold dcO at q
  cases e : it ρ with
  | ex x ρ1 =>
    rw [e] at q
    exact q
  | bad =>
    rw [e] at q
    exact q
  | ok xs ρ1 =>
    rw [e] at q
    dsimp only [R.bind] at q
    intro J B0 B E1 m1 hJ D hD
    by_cases hc : okW vs ρ1 = true ∧ xs.length ≤ 1000000
    · rw [if_pos hc] at q
      cases er : dcL t c ek ev vs xs (wipeR ρ1 vs) [] with
      | ex _ _ => rw [er] at q; exact q.elim
      | bad => rw [er] at q; exact q.elim
      | ok full ρe =>
        rw [er] at q
        dsimp only at q
        obtain ⟨G, Y, wk, hG, hY⟩ := hJ
        have hFD : F.H D = none := E1.upF hD
        have nD : ¬ OwnAt σ ρ1 D := E1.notOwn hD
        have Ew := E1.wipe vs hc.1
        have nDw : ¬ OwnAt (wipe σ vs) (wipeR ρ1 vs) D := fun z => nD (own_wipe (own_wipeR z))
        refine dc_it wk (fun i H => ∃ C0 ρc acc done, En g.K F C0 H (wipe σ vs) ρc ∧ Mw σ ρ1 (wipe σ vs) ρc B0 B C0 H ∧ H D = some (.dK acc) ∧ C0 D = none ∧ DaKv g.K C0 acc done ∧ done.length ≤ i ∧
          dcL t c ek ev vs (xs.drop i) ρc done = .ok full ρe) ?_ (fun i H _ ⟨C0, ρc, acc, done, Ec, mc, _⟩ => hG H (mc.b0.trans Ec.ex)) ?_ ?_
        · refine ⟨B0, wipeR ρ1 vs, [], [], Ew.beside (E1.up0 hD) hFD nDw (.inr (.inr hD)), ⟨Same.refl _, fun a o h _ _ => ?_, fun _ _ h _ => h, fun a o => own_wipe (own_wipeR o), fun a h => ?_⟩, upd_same, E1.up0 hD, .nil, Nat.le_refl _, by rw [List.drop_zero]; exact er⟩
          · rw [upd_ne (ne_of_none h hD)]
            exact h
          · have : a ≠ D := fun z => h (z ▸ hD)
            rw [upd_ne this]
            exact h
        · rintro i x H H' hi ⟨C0, ρc, acc, done, Ec, mc, hacc, hC, hdd, hlen, hrun⟩ y
          obtain ⟨d, hd, hx⟩ := hY i H x H' hi (mc.b0.trans Ec.ex) y
          have nc : ¬ OwnAt (wipe σ vs) ρc D := fun z => nD (mc.sub D z)
          obtain ⟨D0, Ed, md, dd⟩ := item_at Ec mc.b0 hx
          have hacc' : H' D = some (.dK acc) := md.kd D hacc nc
          have hC' : D0 D = none := md.off D (by rw [hacc]; exact fun z => nomatch z) hC nc
          have hdrop : xs.drop i = d :: xs.drop (i + 1) := by
            obtain ⟨hlt, hget⟩ := List.getElem?_eq_some_iff.mp hd
            rw [List.drop_eq_getElem_cons hlt, hget]
          rw [hdrop] at hrun
          unfold dcL at hrun
          cases et : t d ρc with
          | none => rw [et] at hrun; cases hrun
          | some ρ2 =>
            rw [et] at hrun
            dsimp only at hrun
            obtain ⟨b, ρ3, hb, hrun⟩ := bind_ok hrun
            refine ⟨D0, ρc, d, Ed, dd, ρ2, et, fun us E2 ow => ?_⟩
            have hw2 : wipe (setAll is us (wipe σ vs)) vs = wipe σ vs := by rw [wipe_setAll vs is us _ his, wipe_idem vs vs σ fun _ z => z]
            have n2 : ¬ OwnAt (setAll is us (wipe σ vs)) ρ2 D := fun z => nc (ow D z)
            have m2 : Mw (wipe σ vs) ρc (setAll is us (wipe σ vs)) ρ2 D0 H' D0 H' := ⟨Same.refl _, fun _ _ h _ _ => h, fun _ _ h _ => h, fun a o => ow a o, fun _ h => h⟩
            refine ⟨hw2, D0, ρ2, E2, ?_⟩
            rw [hb]
            intro I0 I E3 m3
            have n3 : ¬ OwnAt (setAll is us (wipe σ vs)) ρ3 D := fun z => n2 (m3.sub D z)
            have acc3 : I D = some (.dK acc) := m3.kd D hacc' n2
            have C3 : I0 D = none := m3.off D (by rw [hacc']; exact fun z => nomatch z) hC' n2
            have M3 := (mc.trans md).trans (m2.trans m3)
            have down : ∀ {J0 J : Hp} {ρ4 : Rho}, En g.K F J0 J (setAll is us (wipe σ vs)) ρ4 → Mw σ ρ1 (setAll is us (wipe σ vs)) ρ4 B0 B J0 J → En g.K F J0 J (wipe σ vs) (wipeR ρ4 vs) ∧ Mw σ ρ1 (wipe σ vs) (wipeR ρ4 vs) B0 B J0 J := fun {J0 J ρ4} E4 M4 => by
              have ok4 : okW vs ρ4 = true := by
                have h1 := hc.1
                unfold okW at h1 ⊢
                rw [Bool.or_eq_true] at h1 ⊢
                rcases h1 with h1 | h1
                · left
                  refine noIo_iff.mpr fun kvs ek => ?_
                  obtain ⟨w, y1, a, ks, rfl, z2, z3, z4, z5⟩ := E4.sl 0 _ ek
                  obtain ⟨_, ⟨kv, y2⟩, _⟩ := E1.io a z3
                  exact noIo_iff.mp h1 kv y2
                · exact .inr h1
              have E5 := E4.wipe vs ok4
              rw [hw2] at E5
              refine ⟨E5, M4.b0, M4.keep, M4.off, fun a o => M4.sub a ?_, M4.st⟩
              have o2 := own_wipeR o
              obtain ⟨i, s, y1, y2, y3⟩ := o2
              rw [← hw2] at y3
              exact ⟨i, s, y1, y2, wipe_get vs y3⟩
            cases b with
            | true =>
              rw [if_pos rfl] at hrun ⊢
              obtain ⟨kd, ρ4, hek, hrun⟩ := bind_ok hrun
              obtain ⟨d2, ρ5, hev, hrun⟩ := bind_ok hrun
              cases eky : keyD kd with
              | none => rw [eky] at hrun; cases hrun
              | some key =>
                rw [eky] at hrun
                dsimp only at hrun
                refine ⟨I0, ρ3, E3, ?_⟩
                rw [hek]
                intro yv J0 J' E4 m4 dy
                have n4 : ¬ OwnAt (setAll is us (wipe σ vs)) ρ4 D := fun z => n3 (m4.sub D z)
                have acc4 : J' D = some (.dK acc) := m4.kd D acc3 n3
                have C4 : J0 D = none := m4.off D (by rw [acc3]; exact fun z => nomatch z) C3 n3
                refine ⟨J0, ρ4, E4, ?_⟩
                rw [hev]
                intro zv L0 L E5 m5 dz
                have n5 : ¬ OwnAt (setAll is us (wipe σ vs)) ρ5 D := fun z => n4 (m5.sub D z)
                have acc5 : L D = some (.dK acc) := m5.kd D acc4 n4
                have C5 : L0 D = none := m5.off D (by rw [acc4]; exact fun z => nomatch z) C4 n4
                have hy : yv = kV key := keyD_V (H := J') (Da.pk E4.ex dy) eky
                obtain ⟨E6, M6⟩ := down E5 ((M3.trans m4).trans m5)
                have n6 : ¬ OwnAt (wipe σ vs) (wipeR ρ5 vs) D := fun z => nD (M6.sub D z)
                have hal : acc.length = done.length := hdd.length
                have hdd5 := ((((hdd.mono md.b0).mono m3.b0).mono m4.b0).mono m5.b0)
                refine ⟨acc, key, hy, acc5, Nat.lt_of_le_of_lt (by rw [hal]; exact Nat.le_trans hlen (Nat.le_trans (Nat.le_of_lt hi) hc.2)) (by decide), L0, wipeR ρ5 vs, putK acc key zv, putKD done key d2, E6.beside C5 hFD n6 (.inr (.inl ⟨_, acc5⟩)), ⟨M6.b0, fun a o h nt ho => ?_, M6.off, M6.sub, fun a h => ?_⟩, upd_same, C5,
                  hdd5.put dz, ?_, hrun⟩
                · rw [upd_ne (ne_of_none h hD)]
                  exact M6.keep a o h nt ho
                · have : a ≠ D := fun z => h (z ▸ hD)
                  rw [upd_ne this]
                  exact M6.st a h
                · have h1 := length_putK acc key zv
                  have h2 := (hdd5.put (k := key) dz).length
                  omega
            | false =>
              rw [if_neg Bool.false_ne_true] at hrun ⊢
              obtain ⟨E5, M5⟩ := down E3 M3
              exact ⟨I0, wipeR ρ3 vs, acc, done, E5, M5, acc3, C3, (hdd.mono md.b0).mono m3.b0, Nat.le_succ_of_le hlen, hrun⟩
        · rintro H ⟨C0, ρc, acc, done, Ec, mc, hacc, hC, hdd, hlen, hrun⟩
          rw [List.drop_length] at hrun
          cases hrun
          have E6 : En g.K F C0 H σ ρe := Ec.unwipe (by rw [E1.len, ← E1.len, ← wipe_length σ vs, Ec.len])
          refine q _ C0 H E6 (m1.trans ⟨mc.b0, mc.keep, mc.off, fun a o => ?_, mc.st⟩) ⟨D, acc, rfl, hC, hFD, hacc, hdd⟩ fun _ b z => by cases z; exact m1.fresh hD
          obtain ⟨i, s, y1, y2, y3⟩ := o
          obtain ⟨w, z1, _⟩ := Ec.sl i s y1
          have z2 := wipe_get vs z1
          rw [y3] at z2
          cases z2
          exact mc.sub a ⟨i, s, y1, y2, z1⟩
    · rw [if_neg hc] at q
      exact q.elim
end
section
variable {X : Cx} {W : WX} {a b c e : Expr} {es : List Expr} {pos p p2 p3 : Pos} {f1 f2 f3 : Rho → R Dt} {fa : Rho → R (List Dt)} {fo : Rho → R Sl}
theorem do_dc {kx vx tg iter : Expr} {ifs : List Expr} {scope : Scope} {own : List (Str × Nat)} {it : Rho → R (List Dt)} {t : Dt → Rho → Option Rho} {ct : Rho → R Bool} {ek ev : Rho → R Dt} {is : List Nat} (hc : X.calm = true) (hN : X.N.Nodup) (hi : DI X W tg iter it) (ok : BlkOk X.N X.env.scope scope own)
    (hg : ∀ s H C cl fp, DG (blkX X scope s H C cl fp) tg is t) (ht : ∀ s H C cl fp, DTs (blkX X scope s H C cl fp) WF ifs ct) (hk : ∀ s H C cl fp, DE (blkX X scope s H C cl fp) WF kx ek) (he : ∀ s H C cl fp, DE (blkX X scope s H C cl fp) WF vx ev) (his : ∀ i ∈ is, i ∈ own.map (·.2))
    (hs : ∀ x, foldedSetIterable iter X.env x = pure x := by intro _; rfl) : DO X W (.DictComp kx vx [⟨tg, iter, ifs, 0⟩] scope pos) (dcO it t ct ek ev (own.map (·.2))) :=
  fun F => PE.wk (pe_dc hc hN (hi F) ok (fun s H C cl fp => hg s H C cl fp F) (fun s H C cl fp => ht s H C cl fp F) (fun s H C cl fp => hk s H C cl fp F) (fun s H C cl fp => he s H C cl fp F) hs) fun _ _ _ q => tDc_of his q
/-! ### list(range(..)), tuple(range(..)) -/
def rgList (gd : List Dt → Option (List Dt)) (f : Rho → R (List Dt)) : Rho → R Dt := fun ρ => (f ρ).bind fun ds ρ1 => match gd ds with
  | some xs => if xs.length ≤ 1000000 then .ok (.lst xs) ρ1 else .bad
  | none => .bad
def rgTup (gd : List Dt → Option (List Dt)) (f : Rho → R (List Dt)) : Rho → R Dt := fun ρ => (f ρ).bind fun ds ρ1 => match gd ds with
  | some xs => if xs.length ≤ 1000000 then .ok (.tup xs) ρ1 else .bad
  | none => .bad
theorem rgV_da {K : PySem.W.Frag} {H : Hp} (a b : Int) : DaAll K H (rgV a b) ((List.range (b - a).toNat).map fun i => .int (a + (i : Nat))) := by
  have := daInts (K := K) (H := H) ((List.range (b - a).toNat).map fun i => a + ((i : Nat) : Int))
  rw [List.map_map, List.map_map] at this
  exact this
theorem rgOk2 {a b : Int} (h : -(2 ^ 62) ≤ a ∧ a < 2 ^ 62 ∧ -(2 ^ 62) ≤ b ∧ b < 2 ^ 62) (hl : ((List.range (b - a).toNat).map fun i => Dt.int (a + (i : Nat))).length ≤ 1000000) : RgOk a b := by
  rw [List.length_map, List.length_range] at hl
  exact ⟨h.1, h.2.1, h.2.2.1, h.2.2.2, by omega⟩
theorem de_listRg2 {pr : Pos} (hc : X.calm = true) (hg : Gl X "list") (hm : X.mg "list" = none) (hgr : Gl X "range") (hmr : X.mg "range" = none) (ha : DE X W a f1) (hb : DE X W b f2)
    (na : starEach [.Call (.Name "range" p2) [a, b] [] p3] X.env = (false, eval (.Call (.Name "range" p2) [a, b] [] p3) X.env) :: starEach [] X.env := by rfl) (nb : starEach [a, b] X.env = (false, eval a X.env) :: starEach [b] X.env := by rfl) (nc : starEach [b] X.env = (false, eval b X.env) :: starEach [] X.env := by rfl) (nd : (backTo p3 (starEach [b] X.env)).any (·.1) = false := by rfl) :
    DE X W (.Call (.Name "list" p) [.Call (.Name "range" p2) [a, b] [] p3] [] pos) (rgList rngD2 (consA f1 (consA f2 nilA))) := fun F => PE.wk (pe_listRg hc hg hm (prg_2 hgr hmr (ha F) (hb F) nb nc nd) na) fun σ H Q ⟨H0, ρ, E, q⟩ => by
  refine ⟨H0, ρ, E, ?_⟩
  unfold rgList consA at q
  cases e1 : f1 ρ with
  | ok x ρ1 =>
    rw [e1] at q
    dsimp only [R.bind] at q
    intro v B0 B E1 m1 d1
    refine ⟨B0, ρ1, E1, ?_⟩
    cases e2 : f2 ρ1 with
    | ok y ρ2 =>
      rw [e2] at q
      dsimp only [R.bind, nilA] at q
      intro w C0 C E2 m2 d2
      cases e3 : rngD2 [x, y] with
      | none => rw [e3] at q; exact q.elim
      | some xs =>
        rw [e3] at q
        dsimp only at q
        by_cases hl : xs.length ≤ 1000000
        · rw [if_pos hl] at q
          unfold rngD2 at e3
          split at e3
          · rename_i ds i j hd
            cases hd
            split at e3
            · rename_i hb
              cases e3
              cases d1
              cases d2
              refine ⟨i, j, rfl, rfl, rgOk2 hb hl, al_lst (K := X.K) E2.ex (rgV_da i j) fun v D0 D gr s3 hv => ?_⟩
              obtain ⟨E3, m3⟩ := E2.post (m1.trans m2) gr s3
              exact q v D0 D E3 m3 hv
            · cases e3
          · cases e3
        · rw [if_neg hl] at q
          exact q.elim
    | ex x ρ1 => rw [e2] at q; exact q
    | bad => rw [e2] at q; exact q
  | ex x ρ1 => rw [e1] at q; exact q
  | bad => rw [e1] at q; exact q
theorem de_tupRg2 {pr : Pos} (hc : X.calm = true) (hg : Gl X "tuple") (hm : X.mg "tuple" = none) (hgr : Gl X "range") (hmr : X.mg "range" = none) (ha : DE X W a f1) (hb : DE X W b f2)
    (na : starEach [.Call (.Name "range" p2) [a, b] [] p3] X.env = (false, eval (.Call (.Name "range" p2) [a, b] [] p3) X.env) :: starEach [] X.env := by rfl) (nb : starEach [a, b] X.env = (false, eval a X.env) :: starEach [b] X.env := by rfl) (nc : starEach [b] X.env = (false, eval b X.env) :: starEach [] X.env := by rfl) (nd : (backTo p3 (starEach [b] X.env)).any (·.1) = false := by rfl) :
    DE X W (.Call (.Name "tuple" p) [.Call (.Name "range" p2) [a, b] [] p3] [] pos) (rgTup rngD2 (consA f1 (consA f2 nilA))) := fun F => PE.wk (pe_tupRg hc hg hm (prg_2 hgr hmr (ha F) (hb F) nb nc nd) na) fun σ H Q ⟨H0, ρ, E, q⟩ => by
  refine ⟨H0, ρ, E, ?_⟩
  unfold rgTup consA at q
  cases e1 : f1 ρ with
  | ok x ρ1 =>
    rw [e1] at q
    dsimp only [R.bind] at q
    intro v B0 B E1 m1 d1
    refine ⟨B0, ρ1, E1, ?_⟩
    cases e2 : f2 ρ1 with
    | ok y ρ2 =>
      rw [e2] at q
      dsimp only [R.bind, nilA] at q
      intro w C0 C E2 m2 d2
      cases e3 : rngD2 [x, y] with
      | none => rw [e3] at q; exact q.elim
      | some xs =>
        rw [e3] at q
        dsimp only at q
        by_cases hl : xs.length ≤ 1000000
        · rw [if_pos hl] at q
          unfold rngD2 at e3
          split at e3
          · rename_i ds i j hd
            cases hd
            split at e3
            · rename_i hb
              cases e3
              cases d1
              cases d2
              refine ⟨i, j, rfl, rfl, rgOk2 hb hl, al_tup (K := X.K) E2.ex (rgV_da i j) fun v D0 D gr s3 hv => ?_⟩
              obtain ⟨E3, m3⟩ := E2.post (m1.trans m2) gr s3
              exact q v D0 D E3 m3 hv
            · cases e3
          · cases e3
        · rw [if_neg hl] at q
          exact q.elim
    | ex x ρ1 => rw [e2] at q; exact q
    | bad => rw [e2] at q; exact q
  | ex x ρ1 => rw [e1] at q; exact q
  | bad => rw [e1] at q; exact q
/-! ### sorted -/
def insI (n : Int) : List Int → List Int
  | [] => [n]
  | m :: ms => if n ≤ m then n :: m :: ms else m :: insI n ms
def sortI : List Int → List Int
  | [] => []
  | n :: ns => insI n (sortI ns)
theorem insI_perm (n : Int) : ∀ ms : List Int, (insI n ms).Perm (n :: ms)
  | [] => .refl _
  | m :: ms => by
    unfold insI
    split
    · exact .refl _
    · exact ((insI_perm n ms).cons m).trans (.swap n m ms)
theorem insI_sorted (n : Int) : ∀ {ms : List Int}, ms.Pairwise (· ≤ ·) → (insI n ms).Pairwise (· ≤ ·)
  | [], _ => List.pairwise_singleton _ _
  | m :: ms, h => by
    unfold insI
    obtain ⟨h1, h2⟩ := List.pairwise_cons.mp h
    split
    · rename_i hn
      exact List.pairwise_cons.mpr ⟨fun x hx => by
        rcases List.mem_cons.mp hx with rfl | hx
        · exact hn
        · exact Int.le_trans hn (h1 x hx), h⟩
    · rename_i hn
      refine List.pairwise_cons.mpr ⟨fun x hx => ?_, insI_sorted n h2⟩
      rcases List.mem_cons.mp ((insI_perm n ms).mem_iff.mp hx) with rfl | hx
      · omega
      · exact h1 x hx
theorem sortI_perm : ∀ ns : List Int, (sortI ns).Perm ns
  | [] => .refl _
  | n :: ns => (insI_perm n _).trans ((sortI_perm ns).cons n)
theorem sortI_sorted : ∀ ns : List Int, (sortI ns).Pairwise (· ≤ ·)
  | [] => .nil
  | n :: ns => insI_sorted n (sortI_sorted ns)
theorem sortI_one {ns ms : List Int} (h1 : ms.Perm ns) (h2 : ms.Pairwise (· ≤ ·)) : ms = sortI ns := PySem.W.ksm_same (h1.trans (sortI_perm ns).symm) h2 (sortI_sorted ns)
def keysI : List (Key × Dt) → Option (List Int)
  | [] => some []
  | (.inl i, _) :: r => (keysI r).map (i :: ·)
  | _ => none
theorem keysI_eq : ∀ {kvs : List (Key × Dt)} {ns : List Int}, keysI kvs = some ns → kvs.map (·.1) = ns.map Sum.inl
  | [], _, h => by cases h; rfl
  | (.inl i, _) :: r, ns, h => by
    obtain ⟨ms, h1, rfl⟩ := Option.map_eq_some_iff.mp h
    rw [List.map_cons, keysI_eq h1]
    rfl
  | (.inr _, _) :: r, ns, h => by cases h
theorem DaKv.keys {K : PySem.W.Frag} {H : Hp} : ∀ {ks : List (Key × V)} {kvs : List (Key × Dt)}, DaKv K H ks kvs → ks.map (·.1) = kvs.map (·.1)
  | _, _, .nil => rfl
  | _, _, .cons _ h => by rw [List.map_cons, List.map_cons, h.keys]
def sortD : Dt → Option Dt
  | .lst ds => (intsOf ds).map fun ns => .lst ((sortI ns).map .int)
  | .dct kvs => (keysI kvs).bind fun ns => if ns.length < 64 then some (.lst ((sortI ns).map .int)) else none
  | _ => none
theorem callr_sorted (hc : X.calm = true) : CallR X (.builtin "sorted") (fun xs H Q => rSortedI X.K xs H Q ∨ ∃ (a : Addr) (kvs : List (Key × V)) (ks : List Int), xs = [.ref a] ∧ Rd H a (.dK kvs) ∧ kvs.map (·.1) = ks.map Sum.inl ∧ ks.length < 64 ∧
    ∀ (ys : List Int) (p : Addr), ys.Perm ks → ys.Pairwise (· ≤ ·) → H p = none → Q (.ref p) (upd H p (.lst (ys.map V.int)))) := callr_or cr_sortedI (call_sortedDI hc)
theorem und_sort (K : PySem.W.Frag) : UnD K (fun x H Q => rSortedI K [x] H Q ∨ ∃ (a : Addr) (kvs : List (Key × V)) (ks : List Int), [x] = [V.ref a] ∧ Rd H a (.dK kvs) ∧ kvs.map (·.1) = ks.map Sum.inl ∧ ks.length < 64 ∧
    ∀ (ys : List Int) (p : Addr), ys.Perm ks → ys.Pairwise (· ≤ ·) → H p = none → Q (.ref p) (upd H p (.lst (ys.map V.int)))) sortD := by
  intro x d z H0 H s hx hg Q k
  unfold sortD at hg
  split at hg
  · obtain ⟨ns, h, rfl⟩ := Option.map_eq_some_iff.mp hg
    obtain ⟨a, vs, rfl, h1, h2⟩ := hx
    rw [intsOf_eq h] at h2
    rw [h2.ints] at h1
    refine .inl ⟨a, ns, rfl, SqL.of h1, fun ns' p q1 q2 => ?_⟩
    rw [sortI_one q1 q2]
    exact al_lst s (daInts _) k p
  · obtain ⟨ns, h, hg⟩ := Option.bind_eq_some_iff.mp hg
    split at hg
    · rename_i hl
      cases hg
      obtain ⟨a, ks, rfl, h1, h2⟩ := hx
      refine .inr ⟨a, ks, ns, rfl, .inl h1, h2.keys.trans (keysI_eq h), hl, fun ns' p q1 q2 => ?_⟩
      rw [sortI_one q1 q2]
      exact al_lst s (daInts _) k p
    · cases hg
  · cases hg
theorem de_sorted (hc : X.calm = true) (hg : Gl X "sorted") (hm : X.mg "sorted" = none) (ha : DK X W e f1) (he : starEach (e :: []) X.env = (false, eval e X.env) :: starEach [] X.env := by rfl) : DE X W (.Call (.Name "sorted" p) [e] [] pos) (un sortD f1) :=
  de_b1 (callr_sorted hc) (und_sort _) hg hm (by decide +kernel) ha (he := he)
/-! ### d.update(e) -/
def mergeD (kvs more : List (Key × Dt)) : List (Key × Dt) := more.foldl (fun acc kv => putKD acc kv.1 kv.2) kvs
theorem DaKv.merge {K : PySem.W.Frag} {H : Hp} : ∀ {ms : List (Key × V)} {more : List (Key × Dt)}, DaKv K H ms more → ∀ {ks : List (Key × V)} {kvs : List (Key × Dt)}, DaKv K H ks kvs → DaKv K H (mergeK ks ms) (mergeD kvs more)
  | _, _, .nil, _, _, h => h
  | _, _, .cons h1 h2, _, _, h => h2.merge (h.put h1)
def updS (i : Nat) (f : Rho → R Dt) : Rho → SR := fun ρ => match dAt i ρ with
  | none => .bad
  | some _ => (f ρ).bindS fun d ρ1 => match d, dAt i ρ1 with
    | .dct more, some kvs => if kvs.length + more.length ≤ 1000000 then .nx (dPut i (mergeD kvs more) ρ1) else .bad
    | _, _ => .bad
def rUpd : V → List V → Hp → VK → Prop := fun x xs H Q => ∃ d o kvs more, x = .ref d ∧ xs = [.ref o] ∧ d ≠ o ∧ H d = some (.dK kvs) ∧ H o = some (.dK more) ∧ kvs.length + more.length ≤ sizeLine ∧ Q .non (upd H d (.dK (mergeK kvs more)))
theorem mt_upd : MtR X "dict.update" rUpd := by
  intro pins s σ H x xs v us Q I rx rs h
  obtain ⟨d, o, kvs, more, rfl, rfl, hne, hd, ho, hz, q⟩ := h
  cases rx
  cases rs with
  | cons r1 r2 =>
    cases r2
    cases r1
    obtain ⟨z1, lo1, vs1, rel1, dd1⟩ := L2.dk_of I.hok hd
    obtain ⟨z2, lo2, vs2, rel2, dd2⟩ := L2.dk_of I.hok ho
    refine call_meetsIn PySem.F.slot_dict_update dd1.typeIs PySem.F.entry_dict_update (PySem.F.args_dict_update_2 _ _) (meets_dict_update (mixKind X.prog X.w) d o hne lo2)
      ⟨vs1, vs2, dd1, dd2, (by rw [← rel1.length, ← rel2.length]; exact hz), fun h' hmm _ hs => ?_⟩
    have hl : (mergeK kvs more).length ≤ sizeLine := Nat.le_trans (length_mergeK more kvs) hz
    refine ⟨.non, _, d_write (t' := s.toks) (ob := .dK (mergeK kvs more)) I (by rw [hd]; trivial) hs ?_ (dk_new hl lo1 (KV.merge rel2 rel1) hmm), rfl, q⟩
    obtain ⟨ob, _, _, e, _⟩ := hmm
    exact ⟨ob, e⟩
theorem ds_upd (i : Nat) {x : Str} {apos cpos spos : Pos} (hx : PE X (.Name x p) (tVar i)) (he : DE X W e f1) (hbase : attributeBase (.Name x p) "update" X.env (eval (.Name x p) X.env) = eval (.Name x p) X.env := by rfl)
    (hfew : ((backTo cpos (starEach (e :: []) X.env)).all (fun x => !x.1) && (backToKw cpos (keywordEach [] X.env)).all (fun x => x.1.isSome)
      && decide ((e :: ([] : List Expr)).length + ([] : List Keyword).length + (if ([] : List Keyword).isEmpty then 0 else 1) < 30)) = true := by rfl)
    (hline : (apos.endLine == cpos.line) = true := by rfl) (hs : starEach (e :: []) X.env = (false, eval e X.env) :: starEach [] X.env := by rfl) (hplain : (backTo cpos (starEach [] X.env)).any (·.1) = false := by rfl)
    (hsw : swapsWith (.Call (.Attribute (.Name x p) "update" apos) [e] [] cpos) none spos.line X.env = pure false := by rfl) :
    DS X W (.Expr (.Call (.Attribute (.Name x p) "update" apos) [e] [] cpos) spos) (updS i f1) :=
  fun F => PS.wk (ps_expr (pe_bm PySem.F.plainAttrs_dict PySem.F.slot_dict_update PySem.F.type_dict_update mt_upd hx (pa_cons (he F) pa_nil hs) hbase hfew hline hs hplain) hsw) fun D σ H ⟨H0, ρ, E, q⟩ => by
    unfold updS at q
    cases e0 : dAt i ρ with
    | none => rw [e0] at q; exact q.elim
    | some kvs0 =>
      rw [e0] at q
      dsimp only at q
      obtain ⟨a, ks0, ha, _, hH0, _⟩ := dAt_put E e0
      refine ⟨.ref a, ha, .inr (.inr (.inl ⟨rfl, .inl ⟨_, hH0⟩⟩)), H0, ρ, E, ?_⟩
      cases e1 : f1 ρ with
      | ok d ρ1 =>
        rw [e1] at q
        dsimp only [R.bindS] at q
        intro v B0 B E2 m2 dv
        cases d with
        | dct more =>
          cases e2 : dAt i ρ1 with
          | none => rw [e2] at q; exact q.elim
          | some kvs =>
            rw [e2] at q
            dsimp only at q
            obtain ⟨a', ks, ha', h0, hH, hkv, own, put⟩ := dAt_put E2 e2
            rw [ha] at ha'
            cases ha'
            split at q
            · rename_i hl
              cases dv with
              | @dct o ms _ h1 h2 =>
                have hne : a ≠ o := fun z => by rw [z, h1] at h0; cases h0
                refine ⟨a, o, ks, ms, rfl, rfl, hne, hH, E2.ex _ _ h1, by rw [hkv.length, h2.length]; exact sizeM hl, ?_⟩
                refine q σ B0 _ (put (mergeK ks ms) _ B0 _ (gw_upd hH) (tb_upd E2.tb hH) ?_ upd_same (h2.merge hkv)).1 m2.b0
                · intro b o hb
                  rw [upd_ne (ne_of_none hb h0)]
                  exact E2.ex b o hb
            · exact q.elim
        | _ => exact q.elim
      | ex x ρ1 => rw [e1] at q; exact q σ
      | bad => rw [e1] at q; exact q
/-! ### xs.index(e) -/
def idxV (y : V) : List V → Nat → Option Nat
  | [], _ => none
  | x :: xs, j => if eqV x y = true then some j else idxV y xs (j + 1)
theorem idxV_spec (y : V) : ∀ (xs : List V) (j k : Nat), idxV y xs j = some k → ∃ i, k = j + i ∧ (∃ z, xs[i]? = some z ∧ eqV z y = true) ∧ ∀ (m : Nat) (z' : V), m < i → xs[m]? = some z' → eqV z' y = false
  | [], j, k, h => by cases h
  | x :: xs, j, k, h => by
    unfold idxV at h
    split at h
    · rename_i he
      cases h
      exact ⟨0, rfl, ⟨x, rfl, he⟩, fun m _ hm => absurd hm (Nat.not_lt_zero m)⟩
    · rename_i he
      obtain ⟨i, rfl, ⟨z, h1, h2⟩, h3⟩ := idxV_spec y xs (j + 1) k h
      refine ⟨i + 1, by omega, ⟨z, by simpa using h1, h2⟩, fun m z' hm hz => ?_⟩
      cases m with
      | zero =>
        simp at hz
        subst hz
        simpa using he
      | succ m => exact h3 m z' (Nat.lt_of_succ_lt_succ hm) (by simpa using hz)
def idxD : Dt → Dt → Option Dt
  | .lst xs, d => if flatD d = true ∧ xs.all flatD = true then (idxV (toV d) (xs.map toV) 0).map fun k => .int (k : Nat) else none
  | _, _ => none
def meth1 (g : Dt → Dt → Option Dt) (ok : Dt → Bool) (f1 f2 : Rho → R Dt) : Rho → R Dt := fun ρ => (f1 ρ).bind fun d ρ1 => if ok d = true then (f2 ρ1).bind fun e ρ2 => (match g d e with
  | some z => .ok z ρ2
  | none => .bad) else .bad
def isLst : Dt → Bool
  | .lst _ => true
  | _ => false
theorem de_index {apos cpos : Pos} {o : Expr} (ho : DE X W o f1) (he : DE X W e f2) (hbase : attributeBase o "index" X.env (eval o X.env) = eval o X.env := by rfl)
    (hfew : ((backTo cpos (starEach (e :: []) X.env)).all (fun x => !x.1) && (backToKw cpos (keywordEach [] X.env)).all (fun x => x.1.isSome)
      && decide ((e :: ([] : List Expr)).length + ([] : List Keyword).length + (if ([] : List Keyword).isEmpty then 0 else 1) < 30)) = true := by rfl)
    (hline : (apos.endLine == cpos.line) = true := by rfl) (hs : starEach (e :: []) X.env = (false, eval e X.env) :: starEach [] X.env := by rfl) (hplain : (backTo cpos (starEach [] X.env)).any (·.1) = false := by rfl) :
    DE X W (.Call (.Attribute o "index" apos) [e] [] cpos) (meth1 idxD isLst f1 f2) :=
  fun F => PE.wk (pe_bm PySem.F.plainAttrs_list PySem.F.slot_list_index PySem.F.type_list_index mt_index (ho F) (pa_cons (he F) pa_nil hs) hbase hfew hline hs hplain) fun σ H Q ⟨H0, ρ, E, q⟩ => by
    refine ⟨H0, ρ, E, ?_⟩
    unfold meth1 at q
    cases e1 : f1 ρ with
    | ok d ρ1 =>
      rw [e1] at q
      dsimp only [R.bind] at q
      intro v B0 B E1 m1 dv
      cases d with
      | lst xs =>
        rw [if_pos (by rfl)] at q
        cases dv with
        | @lst a vs _ h1 h2 =>
          refine ⟨.inl ⟨rfl, _, SqL.of (E1.ex _ _ h1)⟩, B0, ρ1, E1, ?_⟩
          cases e2 : f2 ρ1 with
          | ok y ρ2 =>
            rw [e2] at q
            dsimp only [R.bind] at q
            intro w C0 C E2 m2 d2
            cases e3 : idxD (.lst xs) y with
            | none => rw [e3] at q; exact q.elim
            | some z =>
              rw [e3] at q
              unfold idxD at e3
              dsimp only at e3
              split at e3
              · rename_i hf
                obtain ⟨k, hk, rfl⟩ := Option.map_eq_some_iff.mp e3
                obtain ⟨q1, q2⟩ := (h2.mono m2.b0).flat hf.2
                obtain ⟨q3, q4⟩ := d2.flat hf.1
                rw [← q1, ← q3] at hk
                obtain ⟨i, ei, ⟨z, hz1, hz2⟩, hno⟩ := idxV_spec _ _ _ _ hk
                have ei' : k = i := by omega
                refine ⟨a, vs, w, i, z, rfl, rfl, SqL.of (E2.ex _ _ (m2.b0 _ _ h1)), q4, q2, hz1, hz2, hno, ?_⟩
                rw [← ei']
                exact q _ C0 C E2 (m1.trans m2) (.int _)
              · cases e3
          | ex x ρ1 => rw [e2] at q; exact q
          | bad => rw [e2] at q; exact q
      | _ => exact q.elim
    | ex x ρ1 => rw [e1] at q; exact q
    | bad => rw [e1] at q; exact q
end
end DW

set_option Elab.async false
set_option linter.all false
set_option maxRecDepth 100000
set_option maxHeartbeats 4000000
/-! DWE: any of a tuple of ints -/
namespace DW
open PySem PySem.Spec PyProof.Rows L2
theorem truth_ints {prog : Program} {w : World} {A : Around} {ns : List Int} {its : List Value} (e : IntsAre its ns) :
    TruthOf prog w A (fun i v => its.toArray[i]? = some v) (fun i => (ns.map (· != 0)).getD i false) := fun i v s Q E hv hq => by
  have hv' : its[i]? = some v := by simpa using hv
  have : ∀ {its : List Value} {ns : List Int}, IntsAre its ns → ∀ (i : Nat), its[i]? = some v → ∃ n t, ns[i]? = some n ∧ v = .int n t := by
    intro its ns h
    induction h with
    | nil => intro i h; simp at h
    | cons n t _ ih =>
      intro i h
      cases i with
      | zero => simp at h; exact ⟨n, t, rfl, h.symm⟩
      | succ i => exact ih i (by simpa using h)
  obtain ⟨n, t, hn, rfl⟩ := this e i hv'
  have hg : (ns.map (· != 0)).getD i false = (n != 0) := by rw [List.getD_eq_getElem?_getD, List.getElem?_map, hn]; rfl
  have hq' : Q ((ns.map (· != 0)).getD i false) s := hq
  rw [hg] at hq'
  exact PyProof.Rows.truthy_int hq'
section
variable {X : Cx} {W : WX} {e : Expr} {pos p : Pos} {f1 : Rho → R Dt}
def rAnyT (K : PySem.W.Frag) : List V → Hp → VK → Prop := fun vs H Q => ∃ (a : Addr) (ns : List Int), vs = [V.ref a] ∧ SqT K H a (ns.map V.int) ∧ Q (.bl (ns.any (· != 0))) H
theorem cr_anyT (hc : X.calm = true) : CallR X (.builtin "any") (rAnyT X.K) := by
  intro pins s σ H vs us Q I r h
  obtain ⟨a, ns, rfl, hs, q⟩ := h
  obtain ⟨its, rv, hl, _⟩ := I.tuple hs
  rw [Vals.ref1 r]
  have hi : IntsAre its ns := intsAre_of rv
  have hT : s.heap.IsTuple a its.toArray := by obtain ⟨o, h1, h2, n, h3⟩ := hl; exact ⟨o, h1, h2, n, h3⟩
  have hlt : a < s.heap.objs.size := hl.lt
  refine call_any_walk (wpAny_pyIter_tuple hT ?_)
  refine ⟨_, _, _, _, _, _, _, rfl, Walks.tuple (A := X.A.in1) (I.ok.hd hc) s.heap.objs.size a (Nat.ne_of_lt hlt) its.toArray, ⟨⟨_, Heap.get?_push_size _ rfl, rfl, rfl⟩, hT.push _⟩, truth_ints hi, fun h' tk hk => ?_⟩
  refine ⟨.bl _, H, I.kept fun b o eo => hk b o (fun hmem => ?_) (Heap.get?_push_of_some _ eo), ?_, q⟩
  · rcases List.mem_cons.mp hmem with e1 | hmem
    · exact absurd (e1 ▸ Heap.lt_size eo) (Nat.lt_irrefl _)
    · cases hmem
  · show Value.bool _ = Value.bool _
    have hlen : its.toArray.size = (ns.map (· != 0)).length := by rw [List.size_toArray, List.length_map, ← rv.length, List.length_map]
    rw [hlen, L2.any_range, List.any_map]
    rfl
def anyD : Dt → Option Dt
  | .tup ds => (intsOf ds).map fun ns => .bl (ns.any (· != 0))
  | .lst ds => (blsOf ds).map fun ns => .bl (ns.any id)
  | _ => none
theorem und_any (K : PySem.W.Frag) : UnD K (fun x H Q => rAny K [x] H Q ∨ rAnyT K [x] H Q) anyD := by
  intro x d z H0 H s hx hg Q k
  unfold anyD at hg
  split at hg
  · obtain ⟨ns, h, rfl⟩ := Option.map_eq_some_iff.mp hg
    cases hx with
    | tup h1 h2 =>
      rw [intsOf_eq h] at h2
      rw [h2.ints] at h1
      exact .inr ⟨_, ns, rfl, seqT_mono s h1, sc s (.bl _) k⟩
  · obtain ⟨ns, h, rfl⟩ := Option.map_eq_some_iff.mp hg
    obtain ⟨a, vs, rfl, h1, h2⟩ := hx
    rw [blsOf_eq h] at h2
    rw [h2.bls] at h1
    exact .inl ⟨a, ns, rfl, SqL.of h1, sc s (.bl _) k⟩
  · cases hg
theorem de_any (hc : X.calm = true) (hg : Gl X "any") (hm : X.mg "any" = none) (ha : DK X W e f1) (he : starEach (e :: []) X.env = (false, eval e X.env) :: starEach [] X.env := by rfl) : DE X W (.Call (.Name "any" p) [e] [] pos) (un anyD f1) :=
  de_b1 (callr_or (cr_any hc) (cr_anyT hc)) (und_any _) hg hm (by decide +kernel) ha (he := he)
end
end DW

set_option Elab.async false
set_option linter.all false
set_option maxRecDepth 100000
set_option maxHeartbeats 4000000
/-! DWG0: promises of defs where no repr is on its way (guards known) -/
namespace DW
open PySem PySem.Spec PyProof.Rows L2
abbrev Quiet (A : Around) : Prop := A.guards = some []
theorem quiet_deeper {A : Around} (h : Quiet A) (env : Env) : Quiet (A.deeper env) := by
  show (A.deeper env).guards = some []
  first
    | exact h
    | simpa [Around.deeper, Around.under, Code.guards, pushGuards] using h
structure FnG (P : Program) (w : World) (K : PySem.W.Frag) (mg : Str → Option Value) (base : Heap) (CX : CXT) (k : Nat) (f : Addr) (fd : FuncData) (ps : List Str) (sp : Sp) : Prop where
  len : ∀ vs H Q E, sp vs H Q E → vs.length = ps.length
  run : ∀ (A : Around) (out : List Env) (s : Shared) (H : Hp) (args : Args) (us : List Value) (vs : List V) (Q : VK) (E : XK), Room k A → Quiet A → Env0 P w K mg base A out s H → BindsTo s fd args (ps.zip us) → Vals vs us → sp vs H Q E → codeAny (model P w) A (.call (.ref f) args) (CR CX out P w H s Q E) s
section
variable {P : Program} {w : World} {K : PySem.W.Frag} {mg : Str → Option Value} {base : Heap}
/-- cdv is the code of the def at f -/
def CdOk (K : PySem.W.Frag) (f : Addr) (cdv : Value) : Prop := ∃ (oc : Value) (od : Option Addr) (fd : FuncData) (osl : Array (Option Value)), K.lookup f = some ⟨oc, od, .func fd, osl⟩ ∧ fd.code = cdv ∧ ∃ c, cdv = .ref c
/-- a def's promise from its body -/
theorem fnG {CX : CXT} {x qual : Str} {params : Arguments} {bd : List Stmt} {scope : Scope} {dvs : List V} {kws : List (Str × V)} {f : Addr} {fd : FuncData} {N ps : List Str} {k : Nat} {sp : Sp} (F : FunD K x qual params bd scope dvs kws f fd) (S : FnScope N ps scope)
    (hlen : ∀ vs H Q E, sp vs H Q E → vs.length = ps.length)
    (hb : ∀ (cdv : Value) (A : Around) (out : List Env) (s : Shared) (H : Hp) (vs : List V) (Q : VK) (E : XK), Room k (A.deeper (envOfC qual scope s.heap.objs.size f cdv)) → Quiet (A.deeper (envOfC qual scope s.heap.objs.size f cdv)) → CdOk K f cdv → sp vs H Q E →
      ∃ t, PSs (cxOf CX P w K mg base N qual scope f cdv A out s H E) bd t ∧ t { nx := fun _ H' => Q .non H', rt := Q } (L2.start N vs) H) : FnG P w K mg base CX (k + 1) f fd ps sp := by
  obtain ⟨oc, od, dV, kV, doc, pm, an, cdv, ct, osl, rfl, lk, hcd, -, -⟩ := F.ex
  refine ⟨hlen, fun A out s H args us vs Q E room quiet env0 bind rel hsp => ?_⟩
  have there : ∀ b o, base.get? b = some o → s.heap.get? b = some o := fun b o e => (env0.bs b o e).1
  have kin : K.In s.heap := env0.mod.kin.keeps there
  have kinds : ∀ y ∈ ps.zip us, scope.names.lookup y.1 = some .local ∨ (scope.names.lookup y.1 = some .cell ∧ ((cellsFrom (s.heap.objs.size + 1) scope.names []).lookup y.1).isSome = true) := by
    rintro ⟨n, v⟩ hy
    exact (S.par n (List.of_mem_zip hy).1).imp id fun q => ⟨q, PySem.W.cellsFrom_some _ _ _ (.inl q)⟩
  refine codeAny_call_function room.depth (kin _ _ lk) rfl S.co S.gen rfl (PySem.W.codeRec_of kin hcd) (bind _ _ _ _ (wpAny_newFunctionEnv_cells S.kind kinds fun env henv s1 inc => ?_))
  subst henv
  refine ⟨(env0.mod.nolimit.keeps there).keeps inc.toInCall.keep, codeAny_func ?_⟩
  obtain ⟨t, ht, hq⟩ := hb cdv A out s H vs Q E (room.deeper _) (quiet_deeper quiet _) ⟨oc, od, _, osl, lk, rfl, He.codeIn_ref hcd⟩ hsp
  refine wpAny_mono (ht.run [] s1 (L2.start N vs) H _ (inv_start S room.hd env0 (hlen _ _ _ _ hsp) rel inc) hq) (fun flow s' hs => ?_) (fun _ _ z => z)
  match flow, hs with
  | .ret u, ⟨v, σ', H', J, rv, q⟩ => exact ⟨v, H', J.os, J.bare, J.base, J.hok, rv, q⟩
  | .next, ⟨σ', H', J, q⟩ => exact ⟨V.non, H', J.os, J.bare, J.base, J.hok, (rfl : RelV V.non Value.none), q⟩
  | .brk, ⟨_, _, _, q⟩ => exact q.elim
  | .cont, ⟨_, _, _, q⟩ => exact q.elim
end
section
variable {X : Cx} {CX : CXT} {k : Nat} {f : Addr} {fd : FuncData} {ps : List Str} {sp : Sp} {E : XK} {x : Str} {p pos : Pos} {e : Expr} {es : List Expr} {t : TA}
theorem runG {pins : List (Addr × Obj)} {σ : L2.St} {H : Hp} {s : Shared} {Q : VK} {us : List Value} {vs : List V} (G : FnG X.prog X.w X.K X.mg X.base CX k f fd ps sp) (room : Room k X.A) (quiet : Quiet X.A) (bind : Binds X.K fd ps []) (hx : Passes CX X E)
    (J : Inv X pins σ H s) (rel : Vals vs us) (h : sp vs H Q E) : wpAny (model X.prog X.w) X.A (call (.ref f) us) (EP X pins σ Q) X.xe s := by
  have hl : (us ++ []).length = ps.length := by rw [List.append_nil, ← rel.length]; exact G.len _ _ _ _ h
  have hb : BindsTo s fd ⟨us, []⟩ (ps.zip us) := by
    have := bind s us J.kIn hl
    rwa [List.append_nil] at this
  refine wpAny_call (codeAny_mono (G.run X.A X.stack s H ⟨us, []⟩ us vs Q E room quiet J.env0 hb rel h) fun res s' hq => ?_)
  match res, hq with
  | .error err, hq => exact hx pins σ H s err s' J hq
  | .ok (.ret u), hq => exact J.after hq
  | .ok .next, hq => exact False.elim hq
  | .ok .brk, hq => exact False.elim hq
  | .ok .cont, hq => exact False.elim hq
theorem pe_callG (G : FnG X.prog X.w X.K X.mg X.base CX k f fd ps sp) (room : Room k X.A) (quiet : Quiet X.A) (hgl : Gl X x) (hmg : X.mg x = some (.ref f)) (keep : PySem.W.keepIn X.K (.ref f) = true) (bind : Binds X.K fd ps []) (hx : Passes CX X E)
    (args : PA X (e :: es) t) (hdb : (x == ("__debug__" : Str)) = false) (he : starEach (e :: es) X.env = (false, eval e X.env) :: starEach es X.env) (hpl : (backTo pos (starEach es X.env)).any (·.1) = false) :
    PE X (.Call (.Name x p) (e :: es) [] pos) (tCall sp [] E t) :=
  ⟨fun pins s σ H Q J h => wpAny_Call_Name_kw (ld_glob J hgl hmg (PySem.W.callWith_K (h₀ := X.base) J.ok.mod.kin keep (thn (args.run pos pins s σ H _ J h) fun us s1 z => by
    obtain ⟨vs, H1, J1, rel, q⟩ := z
    rw [List.append_nil] at q
    exact ⟨J1.kIn, runG G room quiet bind hx J1 rel q⟩) he hpl) hdb)⟩
theorem pe_callG0 (G : FnG X.prog X.w X.K X.mg X.base CX k f fd ps sp) (room : Room k X.A) (quiet : Quiet X.A) (hgl : Gl X x) (hmg : X.mg x = some (.ref f)) (keep : PySem.W.keepIn X.K (.ref f) = true) (bind : Binds X.K fd ps []) (hx : Passes CX X E)
    (hdb : (x == ("__debug__" : Str)) = false) : PE X (.Call (.Name x p) [] [] pos) (tCall sp [] E tNil) :=
  ⟨fun pins s σ H Q J h => wpAny_Call_Name_kw (ld_glob J hgl hmg (PySem.W.callWith_K0 J.kIn keep (runG (us := []) (vs := []) G room quiet bind hx J .nil h)) hdb)⟩
end
/-! ### the law's end -/
theorem lawG {P : Program} {w : World} {K : PySem.W.Frag} {mg mb : Str → Option Value} {CX : CXT} {k : Nat} {fa a : Addr} {fd : FuncData} {x : Str} {sp : Sp} {t : Shared} {us : List Value} {ns : List Int}
    (kin : K.In t.heap) (glob : t.heap.Ns mainGlobals mg) (blt : t.heap.Ns builtinsNs mb) (boot : ∀ x : Str, x ≠ "__name__" → mb x = bootBuiltins x) (lim : t.heap.NoLimit) (gens : t.gens = #[])
    (obj : t.heap.get? a = some { cls := .type "list", data := .seq us.toArray }) (hints : IntsAre us ns) (len : ns.length ≤ sizeLine) (room : Room k callerA)
    (G : ∀ base : Heap, K.In base → base.Ns mainGlobals mg → FnG P w K mg base CX k fa fd [x] sp) (bind : ∀ (s : Shared) (u : Value), BindsTo s fd ⟨[u], []⟩ [(x, u)])
    (hsp : ∀ H : Hp, SqL K H a (ns.map V.int) → sp [.ref a] H (fun v _ => v = .bl true) fun _ _ _ => False)
    (hCX : ∀ H e s', CX [] H t (fun _ _ _ => False) e s' → False) :
    codeAny (model P w) callerA (.call (.ref fa) ⟨[.ref a], []⟩) (fun r s' => r = .ok (.ret (.bool true)) ∧ OldK t.heap s'.heap ∧ s'.os = t.os ∧ AllBare s'.gens) t := by
  have key : ∀ H : Hp, Only H → SqL K H a (ns.map V.int) → HOk P w H t.heap → (∀ b, H b ≠ none → b = a) → (H a ≠ none → K.lookup a = none) →
      codeAny (model P w) callerA (.call (.ref fa) ⟨[.ref a], []⟩) (fun r s' => r = .ok (.ret (.bool true)) ∧ OldK t.heap s'.heap ∧ s'.os = t.os ∧ AllBare s'.gens) t := fun H only sq hok at_ off => by
    have away : ∀ {b : Addr}, b ≠ a → H b = none := fun {b} hb => by
      cases q : H b with
      | none => rfl
      | some u => exact absurd (at_ b (by rw [q]; exact fun z => nomatch z)) hb
    have dictAway : ∀ {b : Addr} {m : Str → Option Value}, t.heap.Ns b m → b ≠ a := fun {b m} ⟨o, es, ep, e, d, _⟩ z => by
      rw [z, obj] at e
      cases e
      cases d
    have move : ∀ {b : Addr} {m : Str → Option Value}, t.heap.Ns b m → (hidT t.heap H).Ns b m := fun {b m} n => by
      have hb := dictAway n
      obtain ⟨o, es, ep, e, rest⟩ := n
      exact ⟨o, es, ep, hidT_get e (away hb), rest⟩
    have kinH : K.In (hidT t.heap H) := fun b o e => by
      refine hidT_get (kin b o e) ?_
      by_cases hb : b = a
      · subst hb
        cases q : H b with
        | none => rfl
        | some u =>
          rw [off (by rw [q]; exact fun z => nomatch z)] at e
          cases e
      · exact away hb
    obtain ⟨mc, l1, l2⟩ := lim
    have env0 : Env0 P w K mg (hidT t.heap H) callerA [] t H := ⟨rfl, ⟨kinH, move glob, ⟨mb, move blt, boot⟩, ⟨mc, move l1, l2⟩⟩, fun _ _ e => of_hidT e, Nat.le_of_eq (hidT_size _ _), trivial, fun b hb => (nomatch hb), hok, .of_eq gens⟩
    refine codeAny_mono ((G _ kinH (move glob)).run callerA [] t H ⟨[.ref a], []⟩ [.ref a] [.ref a] _ _ room rfl env0 (bind t (.ref a)) (.cons rfl .nil) (hsp H sq)) fun res s' h => ?_
    match res, h with
    | .error e, h => exact (hCX H e s' h).elim
    | .ok .next, h => exact False.elim h
    | .ok .brk, h => exact False.elim h
    | .ok .cont, h => exact False.elim h
    | .ok (.ret u), ⟨v, H', os, bare, un, hok', rel, q⟩ =>
      have hv : v = .bl true := q
      subst hv
      have hu : u = Value.bool true := rel
      subst hu
      refine ⟨rfl, OldK.of_keep fun b o e => ?_, os, bare⟩
      rcases only b with z | ⟨ob, xs, z⟩
      · exact un.keep b o e z (fun m => nomatch m) (fun m => nomatch m)
      · have e1 := (hok b _ z).1
        rw [e] at e1
        cases e1
        exact (hok' b _ (un.frzs b _ _ z)).1
  have rel := vals_ints hints
  by_cases hk : ∃ o, K.lookup a = some o
  · obtain ⟨o, hk⟩ := hk
    have e := kin a o hk
    rw [obj] at e
    cases e
    exact key (fun _ => none) (fun _ => .inl rfl) (.inr ⟨_, us.toArray, _, hk, rfl, rfl, rfl, by rw [List.size_toArray, hints.length]; exact len, by simpa using rel⟩) (fun _ _ z => nomatch z) (fun _ z => absurd rfl z) fun z => absurd rfl z
  · have hk' : K.lookup a = none := by
      cases q : K.lookup a with
      | none => rfl
      | some o => exact absurd ⟨o, q⟩ hk
    refine key (fun b => if b = a then some (.frz { cls := .type "list", data := .seq us.toArray } (.lst (ns.map V.int))) else none) (fun b => ?_) (.inl (.inr ⟨_, if_pos rfl⟩)) (fun b u z => ?_) (fun b z => ?_) fun _ => hk'
    · by_cases hb : b = a
      · exact .inr ⟨_, _, if_pos hb⟩
      · exact .inl (if_neg hb)
    · by_cases hb : b = a
      · subst hb
        cases (if_pos rfl).symm.trans z
        exact ⟨obj, by rw [List.length_map]; exact len, us, _, rel, obj⟩
      · cases (if_neg hb).symm.trans z
    · by_cases hb : b = a
      · exact hb
      · exact absurd (if_neg hb) z
theorem walkG {l : PySem.W.OpenLaw} {n k : Nat} {q : Program} {loose : List Str} {XP : (Str → Option Value) → Heap → Prop} {YP : World → Heap → Prop} {d : DefRec} {CX : CXT} {x : Str}
    (most : l.most = some n) (line : n ≤ sizeLine) (dfl : d.params.defaults = []) (room : Room k callerA)
    (F : ∀ (w : World) (mg : Str → Option Value) (fa : Addr) (h : Heap), YP w h → h.Ns mainGlobals mg → mg d.name = some (.ref fa) →
      ∃ (K : PySem.W.Frag) (fd : FuncData) (sp : Sp), K.In h ∧ (∀ (s : Shared) (u : Value), BindsTo s fd ⟨[u], []⟩ [(x, u)]) ∧
        (∀ (H : Hp) (a : Addr) (ns : List Int), ns.length ≤ n → SqL K H a (ns.map V.int) → sp [.ref a] H (fun v _ => v = .bl true) fun _ _ _ => False) ∧
        ∀ base : Heap, K.In base → base.Ns mainGlobals mg → FnG l.prog w K mg base CX k fa fd [x] sp)
    (hCX : ∀ (H : Hp) (s : Shared) (e : Value) (s' : Shared), CX [] H s (fun _ _ _ => False) e s' → False) :
    PySem.W.WalkO q loose XP YP l.row.toRowW d [] (fun f vs => PySem.call f vs) :=
  Att.attach_call most dfl fun w _ t mg mb fa _ _ _ _ a us ns Gd Y _ _ _ hmg hobj hints hlen hg => by
    obtain ⟨K, fd, sp, kin, bind, hsp, hF⟩ := F w mg fa _ Y Gd.T.g hmg
    exact lawG kin Gd.T.g Gd.T.b Gd.T.builtins Gd.T.nolimit hg hobj hints (Nat.le_trans hlen line) room hF bind (fun H sq => hsp H a ns hlen sq) fun H e s' => hCX H t e s'
end DW

set_option Elab.async false
set_option linter.all false
set_option maxRecDepth 100000
set_option maxHeartbeats 4000000
/-! DWF: defs by their names; a law's end -/
namespace DW
open PySem PySem.Spec PyProof.Rows L2
def IsDef (K : PySem.W.Frag) (mg : Str → Option Value) (x : Str) (st : Stmt) : Prop := ∃ f fd, FunD K x x (defArgs st) (defBody st) (defScope st) [] [] f fd ∧ mg x = some (.ref f)
def Has (P : Program) (w : World) (K : PySem.W.Frag) (mg : Str → Option Value) (base : Heap) (x : Str) (ps : List Str) (fn : Fn) (k : Nat) : Prop :=
  ∃ f fd, mg x = some (.ref f) ∧ PySem.W.keepIn K (.ref f) = true ∧ Binds K fd ps [] ∧ FnG P w K mg base CX0 k f fd ps (spF ⟨K, mg⟩ fn)
def HasM (P : Program) (w : World) (K : PySem.W.Frag) (mg : Str → Option Value) (base : Heap) (x : Str) (ps : List Str) (fn : FnM) (k : Nat) : Prop :=
  ∃ f fd, mg x = some (.ref f) ∧ PySem.W.keepIn K (.ref f) = true ∧ Binds K fd ps [] ∧ FnG P w K mg base CX0 k f fd ps (spM ⟨K, mg⟩ fn)
section
variable {P : Program} {w : World} {K : PySem.W.Frag} {mg : Str → Option Value} {base : Heap}
theorem fnD0 {x qual : Str} {params : Arguments} {bd : List Stmt} {scope : Scope} {f : Addr} {fd : FuncData} {N ps : List Str} {k : Nat} {body : Rho → SR} (F : FunD K x qual params bd scope [] [] f fd) (S : FnScope N ps scope) (hN : ps.length ≤ N.length)
    (hb : ∀ (cdv : Value) (A : Around) (outer : List Env) (s : Shared) (H : Hp) (E : XK), Room k (A.deeper (envOfC qual scope s.heap.objs.size f cdv)) → Quiet (A.deeper (envOfC qual scope s.heap.objs.size f cdv)) → CdOk K f cdv → DSs (cxOf CX0 P w K mg base N qual scope f cdv A outer s H E).nox WF bd body) :
    FnG P w K mg base CX0 (k + 1) f fd ps (spF ⟨K, mg⟩ (runF ps.length N.length body)) := by
  have lem : ∀ ds : List Dt, (∃ s, runF ps.length N.length body ds = .ok s) → ds.length = ps.length := fun ds ⟨s, h⟩ => by
    unfold runF at h
    split at h
    · assumption
    · cases h
  refine fnG F S (fun vs H Q E h => ?_) (fun cdv A outer s H vs Q E hr hq hcd h => ?_)
  · obtain ⟨H0, ds, h1, tb, h2, h3⟩ := h
    cases e : runF ps.length N.length body ds with
    | ok s => rw [h2.length]; exact lem ds ⟨s, e⟩
    | ex _ => rw [e] at h3; exact h3.elim
    | bad => rw [e] at h3; exact h3.elim
  · obtain ⟨H0, ds, h1, tb, h2, h3⟩ := h
    have hl : ds.length = ps.length := by
      cases e : runF ps.length N.length body ds with
      | ok s => exact lem ds ⟨s, e⟩
      | ex _ => rw [e] at h3; exact h3.elim
      | bad => rw [e] at h3; exact h3.elim
    refine ⟨_, PSs.nox (hb cdv A outer s H E hr hq hcd ⟨H0, H, none⟩), H0, envOf N.length ds, en_start h1 tb h2 (by omega), ?_⟩
    unfold runF at h3
    rw [if_pos hl] at h3
    cases e : body (envOf N.length ds) with
    | nx ρ' =>
      rw [e] at h3
      exact fun σ' H0' H' E' _ => h3 _ H0' H' E'.gr E'.tb E'.ex (Da.non : Da K H0' .non .non)
    | rt s ρ' =>
      rw [e] at h3
      exact fun v σ' H0' H' E' hs => h3 _ H0' H' E'.gr E'.tb E'.ex hs
    | bk _ => rw [e] at h3; exact h3.elim
    | ct _ => rw [e] at h3; exact h3.elim
    | ex _ _ => rw [e] at h3; exact h3.elim
    | bad => rw [e] at h3; exact h3.elim
theorem fnDM {x qual : Str} {params : Arguments} {bd : List Stmt} {scope : Scope} {f : Addr} {fd : FuncData} {N ps : List Str} {k : Nat} {body : Rho → SR} (F : FunD K x qual params bd scope [] [] f fd) (S : FnScope N ps scope) (hN : ps.length ≤ N.length)
    (hb : ∀ (cdv : Value) (A : Around) (outer : List Env) (s : Shared) (H : Hp) (E : XK), Room k (A.deeper (envOfC qual scope s.heap.objs.size f cdv)) → Quiet (A.deeper (envOfC qual scope s.heap.objs.size f cdv)) → CdOk K f cdv → DSs (cxOf CX0 P w K mg base N qual scope f cdv A outer s H E).nox WF bd body) :
    FnG P w K mg base CX0 (k + 1) f fd ps (spM ⟨K, mg⟩ (runM ps.length N.length body)) := by
  have lem : ∀ kvs (ds : List Dt), (∃ s kvs', runM ps.length N.length body kvs ds = .ok s kvs') → ds.length + 1 = ps.length := fun kvs ds ⟨s, kvs', h⟩ => by
    unfold runM at h
    split at h
    · assumption
    · cases h
  have lem2 : ∀ {Q : VK} {E : XK} {vs : List V} {H : Hp}, spM ⟨K, mg⟩ (runM ps.length N.length body) vs H Q E → vs.length = ps.length := fun {Q E vs H} h => by
    obtain ⟨H0, a, ks, kvs, vs', ds, rfl, h1, tb, h2, h3, h4, h5, h6⟩ := h
    cases e : runM ps.length N.length body kvs ds with
    | ok s kvs' => rw [List.length_cons, h5.length]; exact lem kvs ds ⟨s, kvs', e⟩
    | ex _ => rw [e] at h6; exact h6.elim
    | bad => rw [e] at h6; exact h6.elim
  refine fnG F S (fun vs H Q E h => lem2 h) (fun cdv A outer s H vs Q E hr hq hcd h => ?_)
  have hvl := lem2 h
  obtain ⟨H0, a, ks, kvs, vs', ds, rfl, h1, tb, h2, h3, h4, h5, h6⟩ := h
  have hl : ds.length + 1 = ps.length := by rw [List.length_cons, h5.length] at hvl; exact hvl
  refine ⟨_, PSs.nox (hb cdv A outer s H E hr hq hcd ⟨H0, H, some a⟩), H0, envM N.length kvs ds, en_startM h1 tb h2 h3 h4 h5 (by omega), ?_⟩
  unfold runM at h6
  rw [if_pos hl] at h6
  have atIo : ∀ {σ' : L2.St} {ρ' : Rho} {H0' H' : Hp} {kvs' : List (Key × Dt)}, En K ⟨H0, H, some a⟩ H0' H' σ' ρ' → ioOf ρ' = some kvs' → ∃ ks', H' a = some (.dK ks') ∧ DaKv K H0' ks' kvs' := fun {σ' ρ' H0' H' kvs'} E' hio => by
    obtain ⟨y1, ⟨kv, y2⟩, _⟩ := E'.io a rfl
    obtain ⟨v, z1, b, ks2, rfl, z2, z3, z4, z5⟩ := E'.sl 0 _ y2
    rw [y1] at z1
    cases z1
    refine ⟨ks2, z4, ?_⟩
    cases ρ' with
    | nil => cases y2
    | cons x r =>
      have hx : x = some (.io kv) := by simpa using y2
      subst hx
      have : kv = kvs' := by simpa [ioOf] using hio
      subst this
      exact z5
  cases e : body (envM N.length kvs ds) with
  | nx ρ' =>
    rw [e] at h6
    intro σ' H0' H' E' _
    cases e2 : ioOf ρ' with
    | none => dsimp only at h6; rw [e2] at h6; exact h6.elim
    | some kvs' =>
      dsimp only at h6
      rw [e2] at h6
      obtain ⟨ks', q1, q2⟩ := atIo E' e2
      exact h6 _ ks' H0' H' E'.gr E'.tb E'.ex q1 q2 (Da.non : Da K H0' .non .non)
  | rt s ρ' =>
    rw [e] at h6
    intro v σ' H0' H' E' hs
    cases e2 : ioOf ρ' with
    | none => dsimp only at h6; rw [e2] at h6; exact h6.elim
    | some kvs' =>
      dsimp only at h6
      rw [e2] at h6
      obtain ⟨ks', q1, q2⟩ := atIo E' e2
      exact h6 _ ks' H0' H' E'.gr E'.tb E'.ex q1 q2 hs
  | bk _ => rw [e] at h6; exact h6.elim
  | ct _ => rw [e] at h6; exact h6.elim
  | ex _ _ => rw [e] at h6; exact h6.elim
  | bad => rw [e] at h6; exact h6.elim
theorem has0 {x : Str} {st : Stmt} {N ps : List Str} {k : Nat} {body : Rho → SR} (D : IsDef K mg x st) (S : FnScope N ps (defScope st)) (hN : ps.length ≤ N.length)
    (hbi : ∀ (kV doc pm : Value) (an : Option Addr) (cdv ct : Value) (us : List Value), us.length = ps.length → bindArgs (PySem.W.fnOf x x (defArgs st) (defBody st) (defScope st) .none kV doc pm an cdv ct) ⟨us, []⟩ = pure (ps.zip us))
    (hb : ∀ (f : Addr) (cdv : Value) (A : Around) (outer : List Env) (s : Shared) (H : Hp) (E : XK), Room k (A.deeper (envOfC x (defScope st) s.heap.objs.size f cdv)) → Quiet (A.deeper (envOfC x (defScope st) s.heap.objs.size f cdv)) → mg x = some (.ref f) ∧ CdOk K f cdv → DSs (cxOf CX0 P w K mg base N x (defScope st) f cdv A outer s H E).nox WF (defBody st) body) :
    Has P w K mg base x ps (runF ps.length N.length body) (k + 1) := by
  obtain ⟨f, fd, F, hm⟩ := D
  exact ⟨f, fd, hm, F.kp, F.bindsN hbi, fnD0 F S hN fun cdv A outer s H E hr hq hc => hb f cdv A outer s H E hr hq ⟨hm, hc⟩⟩
theorem hasM {x : Str} {st : Stmt} {N ps : List Str} {k : Nat} {body : Rho → SR} (D : IsDef K mg x st) (S : FnScope N ps (defScope st)) (hN : ps.length ≤ N.length)
    (hbi : ∀ (kV doc pm : Value) (an : Option Addr) (cdv ct : Value) (us : List Value), us.length = ps.length → bindArgs (PySem.W.fnOf x x (defArgs st) (defBody st) (defScope st) .none kV doc pm an cdv ct) ⟨us, []⟩ = pure (ps.zip us))
    (hb : ∀ (f : Addr) (cdv : Value) (A : Around) (outer : List Env) (s : Shared) (H : Hp) (E : XK), Room k (A.deeper (envOfC x (defScope st) s.heap.objs.size f cdv)) → Quiet (A.deeper (envOfC x (defScope st) s.heap.objs.size f cdv)) → mg x = some (.ref f) ∧ CdOk K f cdv → DSs (cxOf CX0 P w K mg base N x (defScope st) f cdv A outer s H E).nox WF (defBody st) body) :
    HasM P w K mg base x ps (runM ps.length N.length body) (k + 1) := by
  obtain ⟨f, fd, F, hm⟩ := D
  exact ⟨f, fd, hm, F.kp, F.bindsN hbi, fnDM F S hN fun cdv A outer s H E hr hq hc => hb f cdv A outer s H E hr hq ⟨hm, hc⟩⟩
end
section
variable {X : Cx} {W : WX} {e : Expr} {es : List Expr} {pos p p2 : Pos} {fa : Rho → R (List Dt)} {k j : Nat} {ps : List Str} {x : Str}
theorem de_h {fn : Fn} (h : Has X.prog X.w X.K X.mg X.base x ps fn j) (hr : Room k X.A) (hq : Quiet X.A) (hjk : j ≤ k) (hg : Gl X x)
    (ha : DA X W (e :: es) fa) (hdb : (x == ("__debug__" : Str)) = false := by decide) (he : starEach (e :: es) X.env = (false, eval e X.env) :: starEach es X.env := by rfl) (hpl : (backTo pos (starEach es X.env)).any (·.1) = false := by rfl) :
    DE X W (.Call (.Name x p) (e :: es) [] pos) (callF fn fa) := by
  obtain ⟨f, fd, hm, hk, hb, G⟩ := h
  exact fun F => PE.wk (pe_callG G (hr.mono hjk) hq hg hm hk hb pass0 (ha F) hdb he hpl) fun _ _ _ h => tCall_of h
theorem de_h0 {fn : Fn} (h : Has X.prog X.w X.K X.mg X.base x ps fn j) (hr : Room k X.A) (hq : Quiet X.A) (hjk : j ≤ k) (hg : Gl X x) (hdb : (x == ("__debug__" : Str)) = false := by decide) : DE X W (.Call (.Name x p) [] [] pos) (callF fn nilA) := by
  obtain ⟨f, fd, hm, hk, hb, G⟩ := h
  exact fun F => PE.wk (pe_callG0 G (hr.mono hjk) hq hg hm hk hb pass0 hdb) fun σ H Q h => by
    obtain ⟨H0, ρ, E, q⟩ := tCall_of (E := E0) h
    exact q [] H0 H E Mv.refl .nil
theorem do_h {fn : Fn} (h : Has X.prog X.w X.K X.mg X.base x ps fn j) (hr : Room k X.A) (hq : Quiet X.A) (hjk : j ≤ k) (hg : Gl X x)
    (ha : DA X W (e :: es) fa) (hdb : (x == ("__debug__" : Str)) = false := by decide) (he : starEach (e :: es) X.env = (false, eval e X.env) :: starEach es X.env := by rfl) (hpl : (backTo pos (starEach es X.env)).any (·.1) = false := by rfl) :
    DO X W (.Call (.Name x p) (e :: es) [] pos) (callO fn fa) := by
  obtain ⟨f, fd, hm, hk, hb, G⟩ := h
  exact fun F => PE.wk (pe_callG G (hr.mono hjk) hq hg hm hk hb pass0 (ha F) hdb he hpl) fun _ _ _ h => tCallO_of h
theorem de_hM {fn : FnM} {i : Nat} {y : Str} (h : HasM X.prog X.w X.K X.mg X.base x ps fn j) (hr : Room k X.A) (hq : Quiet X.A) (hjk : j ≤ k) (hg : Gl X x)
    (hy : PE X (.Name y p2) (tVar i)) (ha : DA X W es fa) (hdb : (x == ("__debug__" : Str)) = false := by decide) (he : starEach (.Name y p2 :: es) X.env = (false, eval (.Name y p2) X.env) :: starEach es X.env := by rfl) (hpl : (backTo pos (starEach es X.env)).any (·.1) = false := by rfl) :
    DE X W (.Call (.Name x p) (.Name y p2 :: es) [] pos) (callM fn i fa) := by
  obtain ⟨f, fd, hm, hk, hb, G⟩ := h
  exact fun F => PE.wk (pe_callG G (hr.mono hjk) hq hg hm hk hb pass0 (pa_cons hy (ha F) he) hdb he hpl) fun _ _ _ h => tCallM_of h
end
theorem u64 {A : Around} {k : Nat} (hr : Room k A) : A.units + 64 < cLine := by have := hr.un; omega
theorem u1 {A : Around} {k : Nat} (hr : Room k A) : A.units + 1 < cLine := by have := hr.un; omega
/-- the law's promise from its function: the tables are not the base's -/
theorem law_sp {K : PySem.W.Frag} {mg : Str → Option Value} {fn : Fn} (h : ∀ ns : List Int, ns.length ≤ 63 → fn [.scr ns] = .ok (.fr (.bl true))) (H : Hp) (a : Addr) (ns : List Int) (hl : ns.length ≤ 63) (hS : SqL K H a (ns.map V.int)) (hT : ∀ p ∈ tT K, H p.1 = some (.tbl #[])) : spF ⟨K, mg⟩ fn [.ref a] H (fun v _ => v = .bl true) fun _ _ _ => False := by
  have sm : Same (fun b => match H b with | some (.tbl _) => none | o => o) H := fun b o e => by
    dsimp only at e
    split at e
    · cases e
    · exact e
  have hS0 : SqL K (fun b => match H b with | some (.tbl _) => none | o => o) a (ns.map V.int) := by
    rcases hS with (h | ⟨o, h⟩) | h
    · exact .inl (.inl (by show (match H a with | some (.tbl _) => none | o => o) = _; rw [h]))
    · exact .inl (.inr ⟨o, by show (match H a with | some (.tbl _) => none | o => o) = _; rw [h]⟩)
    · exact .inr h
  refine ⟨_, [.scr ns], sm, fun p hp => ⟨?_, LamX.TabS.nil (hT p hp)⟩, .cons (.scr hS0) .nil, ?_⟩
  · show (match H p.1 with | some (.tbl _) => none | o => o) = _
    rw [hT p hp]
  · rw [h ns hl]
    intro v H0' H' _ _ _ hv
    cases hv
    rfl
end DW

set_option Elab.async false
set_option linter.all false
set_option maxRecDepth 100000
set_option maxHeartbeats 4000000
/-! DWG: repr -/
namespace DW
open PySem PySem.Spec PyProof.Rows L2
mutual
/-- a bound of a thing's text -/
def wtD : Dt → Nat
  | .lst xs => wtAll xs + 2
  | .tup xs => wtAll xs + 3
  | .dct _ => 0
  | .non => 4
  | .bl _ => 5
  | .int _ => 600
  | .str x => (reprText x).length
  | .scr ns => 602 * ns.length + 2
  | .xo _ _ _ => 0
def wtAll : List Dt → Nat
  | [] => 0
  | d :: ds => wtD d + 2 + wtAll ds
end
theorem ints_noDict : ∀ ns : List Int, PyData.hasDictAll (ns.map PyData.int) = false
  | [] => rfl
  | n :: ns => by simpa [PyData.hasDictAll, PyData.hasDict] using ints_noDict ns
mutual
theorem plain_noDict : ∀ d : Dt, plainD d = true → (toPy d).hasDict = false
  | .lst xs, h => by simp only [toPy, PyData.hasDict]; exact plain_noDictAll xs (by simpa [plainD] using h)
  | .tup xs, h => by simp only [toPy, PyData.hasDict]; exact plain_noDictAll xs (by simpa [plainD] using h)
  | .dct _, h => by simp [plainD] at h
  | .non, _ => by simp [toPy, PyData.hasDict]
  | .bl _, _ => by simp [toPy, PyData.hasDict]
  | .int _, _ => by simp [toPy, PyData.hasDict]
  | .str _, _ => by simp [toPy, PyData.hasDict]
  | .scr ns, _ => by
    simp only [toPy, PyData.hasDict]
    exact ints_noDict ns
  | .xo _ _ _, h => by simp [plainD] at h
theorem plain_noDictAll : ∀ ds : List Dt, plainAll ds = true → PyData.hasDictAll (toPyAll ds) = false
  | [], _ => rfl
  | d :: ds, h => by
    simp only [plainAll, Bool.and_eq_true] at h
    simp only [toPyAll, PyData.hasDictAll, plain_noDict d h.1, plain_noDictAll ds h.2, Bool.or_self]
end
theorem listText_len_le (ts : List Str) : (listText ts).length ≤ piled ts + 2 := by
  cases ts with
  | nil => decide
  | cons t r =>
    have h := textFrom_length_pos r 1 (("[" : Str) ++ (if (0 : Nat) > 0 then ", " else "" : String) ++ t) (Nat.succ_pos 0)
    have e : ((("[" : Str) ++ (if (0 : Nat) > 0 then ", " else "" : String) ++ t)).length = 1 + t.length := by
      rw [strLen_append, strLen_append]; rfl
    have hX : (listText (t :: r)).length = (textFrom 0 "[" (t :: r)).length + 1 := by
      show (textFrom 0 "[" (t :: r) ++ "]").length = _
      rw [strLen_append]; rfl
    have hY : (textFrom 0 "[" (t :: r)).length = (textFrom 1 (("[" : Str) ++ (if (0 : Nat) > 0 then ", " else "" : String) ++ t) r).length := rfl
    rw [hX, hY, h, e, piled_cons]; omega
theorem tupleText_len_le (ts : List Str) : (tupleText ts).length ≤ piled ts + 3 := by
  unfold tupleText
  rw [strLen_append, strLen_append]
  have e1 : ((("(" : String) : Str)).length = 1 := rfl
  have e3 : (((if ts.length == 1 then ",)" else ")" : String) : Str)).length ≤ 2 := by split <;> decide
  rw [e1]
  by_cases h : ts = []
  · subst h
    have : (Str.join ", " ([] : List Str)).length = 0 := rfl
    omega
  · have := join_length_add ts h
    omega
theorem int_len {i : Int} (h : i.natAbs.log2 < 1920) : (Str.ofString (toString i)).length ≤ 600 := by
  have h2 : i.natAbs < 2 ^ 1920 := by
    by_cases z : i.natAbs = 0
    · rw [z]; exact Nat.two_pow_pos 1920
    · exact (Nat.log2_lt z).mp h
  have h3 : i.natAbs < 10 ^ 599 := Nat.lt_of_lt_of_le h2 (by decide +kernel)
  have e := int_text_length_le10 (k := 599) (by decide) h3
  rw [PySem.ofString_length]; omega
theorem shownAll_eq : ∀ ds : List PyData, PyData.shownAll ds = ds.map PyData.shown
  | [] => rfl
  | d :: ds => by simp [PyData.shownAll, shownAll_eq ds]
theorem ints_len : ∀ ns : List Int, PyData.showableAll (ns.map PyData.int) = true → piled (PyData.shownAll (ns.map PyData.int)) ≤ 602 * ns.length
  | [], _ => Nat.le_refl _
  | n :: ns, h => by
    simp only [List.map_cons, PyData.showableAll, PyData.showable, Bool.and_eq_true, decide_eq_true_eq] at h
    have h1 := ints_len ns h.2
    have h2 := int_len h.1
    simp only [List.map_cons, PyData.shownAll, PyData.shown, piled_cons, List.length_cons]
    omega
mutual
theorem shown_len : ∀ d : Dt, (toPy d).showable = true → plainD d = true → (toPy d).shown.length ≤ wtD d
  | .lst xs, h, p => by
    have := listText_len_le (PyData.shownAll (toPyAll xs))
    have := shown_lenAll xs (by simpa [toPy, PyData.showable] using h) (by simpa [plainD] using p)
    simp only [toPy, PyData.shown, wtD]
    omega
  | .tup xs, h, p => by
    have := tupleText_len_le (PyData.shownAll (toPyAll xs))
    have := shown_lenAll xs (by simpa [toPy, PyData.showable] using h) (by simpa [plainD] using p)
    simp only [toPy, PyData.shown, wtD]
    omega
  | .dct _, _, p => by simp [plainD] at p
  | .xo _ _ _, _, p => by simp [plainD] at p
  | .non, _, _ => by decide
  | .bl b, _, _ => by cases b <;> decide
  | .int i, h, _ => by
    simp only [toPy, PyData.showable, decide_eq_true_eq] at h
    exact int_len h
  | .str _, _, _ => Nat.le_refl _
  | .scr ns, h, _ => by
    have := listText_len_le (PyData.shownAll (ns.map PyData.int))
    have := ints_len ns (by simpa [toPy, PyData.showable] using h)
    simp only [toPy, PyData.shown, wtD]
    omega
theorem shown_lenAll : ∀ ds : List Dt, PyData.showableAll (toPyAll ds) = true → plainAll ds = true → piled (PyData.shownAll (toPyAll ds)) ≤ wtAll ds
  | [], _, _ => Nat.le_refl _
  | d :: ds, h, p => by
    simp only [toPyAll, PyData.showableAll, Bool.and_eq_true] at h
    simp only [plainAll, Bool.and_eq_true] at p
    have h1 := shown_lenAll ds h.2 p.2
    have h2 := shown_len d h.1 p.1
    simp only [toPyAll, PyData.shownAll, piled_cons, wtAll]
    omega
end
def reprOk (d : Dt) : Bool := plainD d && (toPy d).showable && decide ((toPy d).depth ≤ 50) && decide (wtD d ≤ 16000000)
def reprD (d : Dt) : Option Dt := if reprOk d = true then some (.str (toPy d).shown) else none
section
variable {X : Cx} {W : WX} {e : Expr} {pos p : Pos} {f1 : Rho → R Dt}
def rRepr (K : PySem.W.Frag) : V → Hp → VK → Prop := fun x H Q => ∃ d, Dp K H x d ∧ d.showable = true ∧ d.hasDict = false ∧ d.depth ≤ 50 ∧ d.shown.length ≤ sizeLine ∧ Q (.str d.shown) H
theorem cr_repr (hu : X.A.units + 64 < cLine) (hq : Quiet X.A) : CallR X (.builtin "repr") (fun xs H Q => ∃ x, xs = [x] ∧ rRepr X.K x H Q) := by
  intro pins s σ H xs us Q I r h
  obtain ⟨x, rfl, d, hd, hs, hn, hp, hl, q⟩ := h
  obtain ⟨u, rfl, ru⟩ := vals1 r
  cases hd with
  | non => cases ru; exact PySem.P.repr_of_none ⟨.str _, H, I.tok _, ⟨_, rfl⟩, q⟩
  | bl b => cases ru; exact PySem.P.repr_of_bool ⟨.str _, H, I.tok _, ⟨_, rfl⟩, q⟩
  | int i =>
    obtain ⟨t, rfl⟩ := ru
    exact PySem.P.repr_of_int (by simpa [PyData.showable] using hs) ⟨.str _, H, I.tok _, ⟨_, rfl⟩, q⟩
  | str i =>
    obtain ⟨t, rfl⟩ := ru
    exact PySem.P.repr_of_str ⟨.str _, H, I.tok _, ⟨_, rfl⟩, q⟩ hl
  | lst h1 h2 =>
    obtain ⟨as, rd⟩ := Dp.reads I _ _ _ (.lst h1 h2) ru
    cases ru
    exact repr_of_reads' rd hs (PyData.noDict_hsm hn) hq (by omega) (fun _ _ e => e) (fun h' u tk hk => ⟨.str _, H, I.kept hk, ⟨_, rfl⟩, q⟩) hl
  | tup h1 h2 =>
    obtain ⟨as, rd⟩ := Dp.reads I _ _ _ (.tup h1 h2) ru
    cases ru
    exact repr_of_reads' rd hs (PyData.noDict_hsm hn) hq (by omega) (fun _ _ e => e) (fun h' u tk hk => ⟨.str _, H, I.kept hk, ⟨_, rfl⟩, q⟩) hl
theorem und_repr (K : PySem.W.Frag) : UnD K (fun x H Q => ∃ y, [x] = [y] ∧ rRepr K y H Q) reprD := by
  intro x d z H0 H s hx hg Q k
  unfold reprD at hg
  split at hg
  · rename_i h
    cases hg
    simp only [reprOk, Bool.and_eq_true, decide_eq_true_eq] at h
    obtain ⟨⟨⟨h1, h2⟩, h3⟩, h4⟩ := h
    exact ⟨x, rfl, toPy d, Da.dp (Pk.up s hx) h1, h2, plain_noDict d h1, h3, Nat.le_trans (Nat.le_trans (shown_len d h2 h1) h4) (by decide), sc s (.str _) k⟩
  · cases hg
theorem de_repr (hu : X.A.units + 64 < cLine) (hq : Quiet X.A) (hg : Gl X "repr") (hm : X.mg "repr" = none) (ha : DK X W e f1) (he : starEach (e :: []) X.env = (false, eval e X.env) :: starEach [] X.env := by rfl) : DE X W (.Call (.Name "repr" p) [e] [] pos) (un reprD f1) :=
  de_b1 (cr_repr hu hq) (und_repr _) hg hm (by decide +kernel) ha (he := he)
end
end DW

set_option Elab.async false
set_option linter.all false
set_option maxRecDepth 100000
set_option maxHeartbeats 4000000
/-! DWH: dict displays; min and max of two; [::-1] -/
namespace DW
open PySem PySem.Spec PyProof.Rows L2
def pairsF : List ((Rho → R Dt) × (Rho → R Dt)) → Rho → R (List (Key × Dt))
  | [], ρ => .ok [] ρ
  | (fk, fv) :: r, ρ => (fk ρ).bind fun kd ρ1 => (fv ρ1).bind fun vd ρ2 => match keyD kd with
    | some k => (pairsF r ρ2).bind fun ps ρ3 => .ok ((k, vd) :: ps) ρ3
    | none => .bad
def dispO (fps : List ((Rho → R Dt) × (Rho → R Dt))) : Rho → R Sl := fun ρ => (pairsF fps ρ).bind fun kvs ρ1 => if kvs.length ≤ 15 then .ok (.od (mergeD [] kvs)) ρ1 else .bad
section
variable {K : PySem.W.Frag} {F : Fm} {H0 H H0' H' : Hp} {σ : L2.St} {ρ : Rho} {v : V} {d : Dt} {s : Sl} {i : Nat} {a p : Addr} {o : HO} {g : Gx} {W : WX}
def tPr (g : Gx) (F : Fm) (W : WX) (fps : List ((Rho → R Dt) × (Rho → R Dt))) (σ : L2.St) (H : Hp) (Q : List (V × V) → Hp → Prop) : Prop := ∃ H0 ρ, En g.K F H0 H σ ρ ∧ match pairsF fps ρ with
  | .ok kvs ρ' => ∀ vs H0' H', En g.K F H0' H' σ ρ' → Mv σ ρ ρ' H0 H H0' H' → DaKv g.K H0' vs kvs → Q (vs.map fun kv => (kV kv.1, kv.2)) H'
  | .ex e ρ' => XW g F W σ e ρ'
  | .bad => False
theorem tPr_pairs : ∀ (fps : List ((Rho → R Dt) × (Rho → R Dt))) {H : Hp} {Q : List (V × V) → Hp → Prop}, tPr g F W fps σ H Q → tPairs (fps.map fun p => (tD g F W p.1, tD g F W p.2)) σ H Q
  | [], H, Q, ⟨H0, ρ, E, q⟩ => q [] H0 H E Mv.refl .nil
  | (fk, fv) :: r, H, Q, ⟨H0, ρ, E, q⟩ => by
    refine ⟨H0, ρ, E, ?_⟩
    simp only [pairsF] at q
    dsimp only
    cases e1 : fk ρ with
    | bad => rw [e1] at q; exact q
    | ex x ρ1 => rw [e1] at q; exact q
    | ok kd ρ1 =>
      rw [e1] at q
      dsimp only [R.bind] at q
      intro x C0 C E1 m1 d1
      refine ⟨C0, ρ1, E1, ?_⟩
      dsimp only
      cases e2 : fv ρ1 with
      | bad => rw [e2] at q; exact q
      | ex x ρ1 => rw [e2] at q; exact q
      | ok vd ρ2 =>
        rw [e2] at q
        dsimp only at q
        intro y D0 D E2 m2 d2
        cases e3 : keyD kd with
        | none => rw [e3] at q; exact q.elim
        | some k =>
          rw [e3] at q
          dsimp only at q
          have hx : x = kV k := keyD_V (H := C) (Da.pk E1.ex d1) e3
          subst hx
          refine tPr_pairs r ⟨D0, ρ2, E2, ?_⟩
          cases e4 : pairsF r ρ2 with
          | bad => rw [e4] at q; exact q
          | ex x ρ1 => rw [e4] at q; exact q
          | ok ps ρ3 =>
            rw [e4] at q
            dsimp only at q
            intro vs I0 I E3 m3 d3
            exact q ((k, y) :: vs) I0 I E3 ((m1.trans m2).trans m3) (.cons (d2.mono m3.b0) d3)
theorem tDisp_of {fps : List ((Rho → R Dt) × (Rho → R Dt))} {Q : VK} (h : tO g F W (dispO fps) σ H Q) : tDisp (fps.map fun p => (tD g F W p.1, tD g F W p.2)) σ H Q := by
  obtain ⟨H0, ρ, E, q⟩ := h
  intro p hp
  have nO := E.notOwn hp
  have h0 := E.up0 hp
  have hF := E.upF hp
  refine tPr_pairs fps ⟨H0, ρ, E.beside h0 hF nO (.inr (.inr hp)), ?_⟩
  unfold dispO at q
  cases e : pairsF fps ρ with
  | bad => rw [e] at q; exact q
  | ex x ρ1 => rw [e] at q; exact q
  | ok kvs ρ1 =>
    rw [e] at q
    dsimp only [R.bind] at q
    by_cases hl : kvs.length ≤ 15
    · rw [if_pos hl] at q
      dsimp only at q
      intro vs C0 C E1 m1 d1
      have hC : C p = some (.dK []) := m1.kd p upd_same nO
      have hC0 : C0 p = none := m1.off p (by rw [upd_same]; exact fun z => nomatch z) h0 nO
      have n1 : ¬ OwnAt σ ρ1 p := fun z => nO (m1.sub p z)
      refine ⟨hC, vs, rfl, by rw [d1.length]; exact hl, ?_⟩
      refine q _ C0 _ (E1.beside hC0 hF n1 (.inr (.inl ⟨_, hC⟩))) ⟨m1.b0, fun a o ha nt ho => ?_, fun a ha h ho => ?_, m1.sub, fun a ha => ?_⟩ ⟨p, _, rfl, hC0, hF, upd_same, DaKv.merge d1 .nil⟩ fun _ b z => by cases z; exact hp
      · have hn : a ≠ p := ne_of_none ha hp
        rw [upd_ne hn]
        exact m1.keep a o (by rw [upd_ne hn]; exact ha) nt ho
      · have hn : a ≠ p := fun z => ha (z ▸ hp)
        exact m1.off a (by rw [upd_ne hn]; exact ha) h ho
      · have hn : a ≠ p := fun z => ha (z ▸ hp)
        rw [upd_ne hn]
        exact m1.st a (by rw [upd_ne hn]; exact ha)
    · rw [if_neg hl] at q
      exact q.elim
end
section
variable {X : Cx} {W : WX} {a b c e : Expr} {es : List Expr} {pos p p2 p3 : Pos} {f1 f2 f3 : Rho → R Dt} {fa : Rho → R (List Dt)} {fo : Rho → R Sl}
def DPr (X : Cx) (W : WX) (pos : Pos) (ks : List (Option Expr)) (vs : List Expr) (fps : List ((Rho → R Dt) × (Rho → R Dt))) : Prop := ∀ F, PPs X pos ks vs (fps.map fun p => (tD (gx X) F W p.1, tD (gx X) F W p.2))
theorem dpr_nil : DPr X W pos [] [] [] := fun F => pps_nil
theorem dpr_cons {k v : Expr} {ks : List (Option Expr)} {vs : List Expr} {fps} (hk : DE X W k f1) (hv : DE X W v f2) (hr : DPr X W pos ks vs fps) : DPr X W pos (some k :: ks) (v :: vs) ((f1, f2) :: fps) := fun F => pps_cons (hk F) (hv F) (hr F)
theorem do_disp {ks : List (Option Expr)} {vs : List Expr} {fps} (h : DPr X W pos ks vs fps) (hall : ks.all (·.isSome) = true) (hl : ks.length = vs.length) (h0 : ks ≠ []) (h15 : ks.length ≤ 15) : DO X W (.Dict ks vs pos) (dispO fps) := fun F => PE.wk (pe_disp (h F) hall hl h0 h15) fun _ _ _ q => tDisp_of q
/-! ### built-in functions of two things -/
def CbD (K : PySem.W.Frag) (r : List V → Hp → VK → Prop) (gg : List Dt → Option Dt) : Prop := ∀ xs ds z H0 H, Same H0 H → DaAll K H0 xs ds → gg ds = some z → ∀ Q : VK, (∀ v H0' H', Gr ⟨H0, H, none⟩ H0' H' → Same H0' H' → Da K H0' v z → Q v H') → r xs H Q
theorem tCB_of {g : Gx} {F : Fm} {f : Rho → R (List Dt)} {r : List V → Hp → VK → Prop} {gg : List Dt → Option Dt} (hr : CbD g.K r gg) {σ : L2.St} {H : Hp} {Q : VK} (h : tD g F W (cb gg f) σ H Q) : tCB r (tDA g F W f) σ H Q := by
  obtain ⟨H0, ρ, E, q⟩ := h
  refine ⟨H0, ρ, E, ?_⟩
  unfold cb at q
  cases e : f ρ with
  | bad => rw [e] at q; exact q
  | ex x ρ1 => rw [e] at q; exact q
  | ok ds ρ1 =>
    rw [e] at q
    dsimp only [R.bind] at q
    intro vs C0 C E1 m1 d1
    cases e2 : gg ds with
    | none => rw [e2] at q; exact q.elim
    | some z =>
      rw [e2] at q
      refine hr vs ds z C0 C E1.ex d1 e2 Q fun v I0 I gr s4 d4 => ?_
      obtain ⟨E4, m4⟩ := E1.post m1 gr s4
      exact q v I0 I E4 m4 d4
theorem de_bn {x : Str} {id : String} {r : List V → Hp → VK → Prop} {gg : List Dt → Option Dt} (hc : CallR X (.builtin id) r) (hr : CbD X.K r gg) (hg : Gl X x) (hm : X.mg x = none) (hv : bootBuiltins x = some (.builtin id)) (ha : DA X W (e :: es) fa)
    (hn : x ≠ "__name__" := by decide) (hdb : (x == ("__debug__" : Str)) = false := by decide) (he : starEach (e :: es) X.env = (false, eval e X.env) :: starEach es X.env := by rfl) (hpl : (backTo pos (starEach es X.env)).any (·.1) = false := by rfl) :
    DE X W (.Call (.Name x p) (e :: es) [] pos) (cb gg fa) := fun F => PE.wk (pe_callB hc hg hm hv (ha F) hn hdb he hpl) fun _ _ _ h => tCB_of hr h
def min2D : List Dt → Option Dt
  | [.int i, .int j] => some (.int (if j < i then j else i))
  | _ => none
def max2D : List Dt → Option Dt
  | [.int i, .int j] => some (.int (if j > i then j else i))
  | _ => none
theorem cbd_min2 (K : PySem.W.Frag) : CbD K (fun xs H Q => ∃ i j, xs = [.int i, .int j] ∧ Q (.int (if j < i then j else i)) H) min2D := by
  intro xs ds z H0 H s hx hg Q k
  unfold min2D at hg
  split at hg
  · cases hg
    cases hx with
    | cons h1 h2 => cases h2 with
      | cons h2 h3 => cases h3; cases h1; cases h2; exact ⟨_, _, rfl, sc s (.int _) k⟩
  · cases hg
theorem cbd_max2 (K : PySem.W.Frag) : CbD K (fun xs H Q => ∃ i j, xs = [.int i, .int j] ∧ Q (.int (if j > i then j else i)) H) max2D := by
  intro xs ds z H0 H s hx hg Q k
  unfold max2D at hg
  split at hg
  · cases hg
    cases hx with
    | cons h1 h2 => cases h2 with
      | cons h2 h3 => cases h3; cases h1; cases h2; exact ⟨_, _, rfl, sc s (.int _) k⟩
  · cases hg
theorem de_min2 (hc : X.calm = true) (hg : Gl X "min") (hm : X.mg "min" = none) (ha : DA X W (e :: es) fa) (he : starEach (e :: es) X.env = (false, eval e X.env) :: starEach es X.env := by rfl) (hpl : (backTo pos (starEach es X.env)).any (·.1) = false := by rfl) :
    DE X W (.Call (.Name "min" p) (e :: es) [] pos) (cb min2D fa) := de_bn (call_min2 hc) (cbd_min2 _) hg hm (by decide +kernel) ha (he := he) (hpl := hpl)
theorem de_max2 (hc : X.calm = true) (hg : Gl X "max") (hm : X.mg "max" = none) (ha : DA X W (e :: es) fa) (he : starEach (e :: es) X.env = (false, eval e X.env) :: starEach es X.env := by rfl) (hpl : (backTo pos (starEach es X.env)).any (·.1) = false := by rfl) :
    DE X W (.Call (.Name "max" p) (e :: es) [] pos) (cb max2D fa) := de_bn (call_max2 hc) (cbd_max2 _) hg hm (by decide +kernel) ha (he := he) (hpl := hpl)
/-! ### [::-1] -/
def revD : Dt → Option Dt
  | .lst xs => some (.lst xs.reverse)
  | .scr ns => some (.lst (ns.reverse.map .int))
  | _ => none
theorem DaAll.reverse {K : PySem.W.Frag} {H : Hp} {vs : List V} {ds : List Dt} (h : DaAll K H vs ds) : DaAll K H vs.reverse ds.reverse := by
  induction vs generalizing ds with
  | nil => cases h; exact .nil
  | cons v vs ih =>
    cases h with
    | cons h1 h2 =>
      rw [List.reverse_cons, List.reverse_cons]
      exact (ih h2).append (.cons h1 .nil)
theorem und_rev (K : PySem.W.Frag) : UnD K (fun x H Q => ∃ a xs, x = .ref a ∧ SqL K H a xs ∧ ∀ p, H p = none → Q (.ref p) (upd H p (.lst xs.reverse))) revD := by
  intro x d z H0 H s hx hg Q k
  unfold revD at hg
  split at hg
  · cases hg
    obtain ⟨a, vs, rfl, h1, h2⟩ := hx
    exact ⟨a, vs, rfl, SqL.of h1, al_lst s h2.reverse k⟩
  · cases hg
    cases hx with
    | scr h1 =>
      refine ⟨_, _, rfl, seqL_mono s h1, al_lst s ?_ k⟩
      rw [List.map_reverse]
      exact (daInts _).reverse
  · cases hg
theorem de_rev {k : Nat} {p1 : Pos} (he : DE X W e f1) : DE X W (.Subscript e (.Slice none none (some (.UnaryOp .USub (.Constant (.int 1) k p1) p2)) p3) pos) (un revD f1) := fun F => PE.wk (pe_revL (he F)) fun σ H Q h => by
  obtain ⟨H0, ρ, E, q⟩ := h
  refine ⟨H0, ρ, E, ?_⟩
  unfold un at q
  cases e : f1 ρ with
  | bad => rw [e] at q; exact q
  | ex x ρ1 => rw [e] at q; exact q
  | ok d ρ1 =>
    rw [e] at q
    dsimp only [R.bind] at q
    intro v C0 C E1 m1 d1
    cases e2 : revD d with
    | none => rw [e2] at q; exact q.elim
    | some z =>
      rw [e2] at q
      refine und_rev X.K v d z C0 C E1.ex (Da.pk E1.ex d1) e2 Q fun v I0 I gr s4 d4 => ?_
      obtain ⟨E4, m4⟩ := E1.post m1 gr s4
      exact q v I0 I E4 m4 d4
end
end DW

set_option Elab.async false
set_option linter.all false
set_option maxRecDepth 100000
set_option maxHeartbeats 4000000
/-! DWI: a def that changes a dict, called with a new one -/
namespace DW
open PySem PySem.Spec PyProof.Rows L2
def callMO (fn : FnM) (fo : Rho → R Sl) (fa : Rho → R (List Dt)) : Rho → R Dt := fun ρ => (fo ρ).bind fun s ρ1 => match s with
  | .od kvs => (fa ρ1).bind fun ds ρ2 => match fn kvs ds with
    | .ok (.fr d) _ => .ok d ρ2
    | _ => .bad
  | _ => .bad
section
variable {K : PySem.W.Frag} {F : Fm} {H0 H H0' H' : Hp} {σ : L2.St} {ρ : Rho} {v : V} {d : Dt} {s : Sl} {i : Nat} {a p : Addr} {o : HO} {g : Gx} {W : WX}
theorem En.apart (E : En K F H0 H σ ρ) (h0 : H0 p = none) (hF : F.H p = none) (hn : ¬ OwnAt σ ρ p) {xs : List (Key × V)} (hp : H p = some (.dK xs)) (he : ∀ b, b ≠ p → H' b = H b) : En K F H0 H' σ ρ := by
  refine ⟨⟨E.gr.b0, fun b u hb nt hi => ?_, E.gr.off, fun b hb => ?_⟩, tab_away E.tb (fun b u hb _ n2 => by
    have nb : b ≠ p := fun z => n2 xs (by rw [z, hp] at hb; exact (Option.some.inj hb).symm)
    rw [he b nb]
    exact hb) (fun _ _ h _ _ => h), fun b u hb => ?_, E.len, fun j t e => ?_, E.sep, E.io, E.io1⟩
  · have : b ≠ p := fun z => by rw [z, hF] at hb; cases hb
    rw [he b this]
    exact E.gr.keep b u hb nt hi
  · have : b ≠ p := fun z => hb (by rw [z]; exact hF)
    rw [he b this]
    exact E.gr.st b hb
  · have : b ≠ p := fun z => by rw [z, h0] at hb; cases hb
    rw [he b this]
    exact E.ex b u hb
  · obtain ⟨w, h1, h2⟩ := E.sl j t e
    refine ⟨w, h1, ?_⟩
    cases t with
    | fr d => exact h2
    | ol ds =>
      obtain ⟨b, vs, rfl, q1, q2, q3, q4⟩ := h2
      have : b ≠ p := fun z => hn ⟨j, _, e, rfl, z ▸ h1⟩
      exact ⟨b, vs, rfl, q1, q2, by rw [he b this]; exact q3, q4⟩
    | od ds =>
      obtain ⟨b, vs, rfl, q1, q2, q3, q4⟩ := h2
      have : b ≠ p := fun z => hn ⟨j, _, e, rfl, z ▸ h1⟩
      exact ⟨b, vs, rfl, q1, q2, by rw [he b this]; exact q3, q4⟩
    | raw w _ => exact h2
    | io ds =>
      obtain ⟨b, vs, rfl, q1, q2, q3, q4⟩ := h2
      have : b ≠ p := fun z => hn ⟨j, _, e, rfl, z ▸ h1⟩
      exact ⟨b, vs, rfl, q1, q2, by rw [he b this]; exact q3, q4⟩
theorem tCallMO_of {fn : FnM} {fo : Rho → R Sl} {fa : Rho → R (List Dt)} {E : XK} {Q : VK} (h : tD g F W (callMO fn fo fa) σ H Q) : tCall (spM g fn) [] E (tCons (tO g F W fo) (tDA g F W fa)) σ H Q := by
  obtain ⟨H0, ρ, E, q⟩ := h
  refine ⟨H0, ρ, E, ?_⟩
  unfold callMO at q
  cases e0 : fo ρ with
  | bad => rw [e0] at q; exact q
  | ex x ρ1 => rw [e0] at q; exact q
  | ok s ρ1 =>
    rw [e0] at q
    dsimp only [R.bind] at q
    cases s with
    | fr _ => exact q.elim
    | ol _ => exact q.elim
    | raw _ _ => exact q.elim
    | io _ => exact q.elim
    | od kvs =>
      dsimp only at q
      rintro v B0 B E1 m1 ⟨a, ks, rfl, b0, bF, b1, b2⟩ hf
      have ha : H a = none := hf rfl a rfl
      have nO : ¬ OwnAt σ ρ a := E.notOwn ha
      have n1 : ¬ OwnAt σ ρ1 a := fun z => nO (m1.sub a z)
      refine ⟨B0, ρ1, E1, ?_⟩
      cases e : fa ρ1 with
      | bad => rw [e] at q; exact q
      | ex x ρ1 => rw [e] at q; exact q
      | ok ds ρ2 =>
        rw [e] at q
        dsimp only at q
        intro vs C0 C E2 m2 hd
        show spM g fn ((V.ref a :: vs) ++ []) C Q _
        rw [List.append_nil]
        have c1 : C a = some (.dK ks) := m2.kd a b1 n1
        have c0 : C0 a = none := m2.off a (by rw [b1]; exact fun z => nomatch z) b0 n1
        have n2 : ¬ OwnAt σ ρ2 a := fun z => n1 (m2.sub a z)
        refine ⟨C0, a, ks, kvs, vs, ds, rfl, E2.ex, E2.tb, c0, c1, b2.mono m2.b0, hd, ?_⟩
        cases e2 : fn kvs ds with
        | ex _ => rw [e2] at q; exact q.elim
        | bad => rw [e2] at q; exact q.elim
        | ok s kvs' =>
          rw [e2] at q
          cases s with
          | ol _ => exact q.elim
          | od _ => exact q.elim
          | raw _ _ => exact q.elim
          | io _ => exact q.elim
          | fr d =>
            intro w ks' D0 D gr tt s2 hc hdk hv
            have m12 := m1.trans m2
            have E3 : En g.K F C0 (fun b => if b = a then none else C b) σ ρ2 := E2.apart c0 bF n2 c1 fun b hb => if_neg hb
            have gr' : Gw ⟨C0, fun b => if b = a then none else C b, none⟩ D0 D := by
              refine ⟨gr.b0, fun b u hb nt _ => ?_, fun b hb h => ?_, fun b hb => gr.st b fun z => hb ?_⟩
              · have hn : b ≠ a := fun z => by
                  have hb' : (if b = a then none else C b) = some u := hb
                  rw [if_pos z] at hb'
                  cases hb'
                have hb' : (if b = a then none else C b) = some u := hb
                rw [if_neg hn] at hb'
                exact gr.keep b u hb' nt (fun z => hn (by cases z; rfl))
              · refine gr.off b (fun z => hb ?_) h
                show (if b = a then none else C b) = none
                by_cases hn : b = a
                · rw [if_pos hn]
                · rw [if_neg hn]; exact z
              · show (if b = a then none else C b) = none
                by_cases hn : b = a
                · rw [if_pos hn]
                · rw [if_neg hn]; exact z
            refine q w D0 D (E3.growW gr' tt s2) ⟨m12.b0.trans gr.b0, fun b u hb nt ho => ?_, fun b hb h ho => ?_, m12.sub, fun b hb => ?_⟩ hv
            · have hn : b ≠ a := ne_of_none hb ha
              exact gr.keep b u (m12.keep b u hb nt ho) nt (fun z => hn (by cases z; rfl))
            · exact gr.off b (m12.st b hb) (m12.off b hb h ho)
            · exact gr.st b (m12.st b hb)
end
section
variable {X : Cx} {W : WX} {e : Expr} {es : List Expr} {pos p p2 : Pos} {fa : Rho → R (List Dt)} {k j : Nat} {ps : List Str} {x : Str}
theorem de_hMO {fn : FnM} {fo : Rho → R Sl} (h : HasM X.prog X.w X.K X.mg X.base x ps fn j) (hr : Room k X.A) (hq : Quiet X.A) (hjk : j ≤ k) (hg : Gl X x)
    (hy : DO X W e fo) (ha : DA X W es fa) (hdb : (x == ("__debug__" : Str)) = false := by decide) (he : starEach (e :: es) X.env = (false, eval e X.env) :: starEach es X.env := by rfl) (hpl : (backTo pos (starEach es X.env)).any (·.1) = false := by rfl) :
    DE X W (.Call (.Name x p) (e :: es) [] pos) (callMO fn fo fa) := by
  obtain ⟨f, fd, hm, hk, hb, G⟩ := h
  exact fun F => PE.wk (pe_callG G (hr.mono hjk) hq hg hm hk hb pass0 (pa_cons (hy F) (ha F) he) hdb he hpl) fun _ _ _ h => tCallMO_of h
end
end DW

set_option Elab.async false
set_option linter.all false
set_option maxRecDepth 100000
set_option maxHeartbeats 4000000
/-! DWJ: a + b of lists, for a name that owns its list -/
namespace DW
open PySem PySem.Spec PyProof.Rows L2
def catL : Dt → Dt → Option Sl
  | .lst xs, .lst ys => if xs.length + ys.length ≤ 1000000 then some (.ol (xs ++ ys)) else none
  | _, _ => none
def catO (f1 f2 : Rho → R Dt) : Rho → R Sl := fun ρ => (f1 ρ).bind fun d ρ1 => (f2 ρ1).bind fun e ρ2 => match catL d e with
  | some z => .ok z ρ2
  | none => .bad
def catPO (i : Nat) (f2 : Rho → R Dt) : Rho → R Sl := fun ρ => match pk i ρ with
  | some _ => (f2 ρ).bind fun e ρ1 => match pk i ρ1 with
    | some d => match catL d e with
      | some z => .ok z ρ1
      | none => .bad
    | none => .bad
  | none => .bad
section
variable {K : PySem.W.Frag} {F : Fm} {H0 H H0' H' : Hp} {σ : L2.St} {ρ : Rho} {v : V} {d : Dt} {s : Sl} {i : Nat} {a p : Addr} {o : HO} {g : Gx} {W : WX}
theorem catL_ok {ρ1 : Rho} {B0 B : Hp} {x y : V} {d e : Dt} {z : Sl} {Q : VK} (E : En g.K F H0 H σ ρ1) (m : Mv σ ρ ρ1 B0 B H0 H) (hx : Pk g.K H0 H x d) (hy : Pk g.K H0 H y e) (h : catL d e = some z)
    (q : ∀ v H0' H', En g.K F H0' H' σ ρ1 → Mv σ ρ ρ1 B0 B H0' H' → SlR g.K F H0' H' v z → (z.own = true → ∀ a, v = .ref a → B a = none) → Q v H') : rCat x y H Q := by
  unfold catL at h
  split at h
  · split at h
    · rename_i hz
      cases h
      obtain ⟨a, vs, rfl, h1, h2⟩ := hx
      obtain ⟨b, ws, rfl, h3, h4⟩ := hy
      refine ⟨a, b, vs, ws, rfl, rfl, h1, h3, by rw [h2.length, h4.length]; exact sizeM hz, fun p hp => ?_⟩
      obtain ⟨q1, q2, q3, q4, q5⟩ := E.postO (o := .lst (vs ++ ws)) m hp
      exact q _ _ _ q1 q2 ⟨p, _, rfl, q3, q4, upd_same, h2.append h4⟩ fun _ b z => by cases z; exact q5
    · cases h
  · cases h
theorem tCatO_of {f1 f2 : Rho → R Dt} {σ : L2.St} {H : Hp} {Q : VK} (h : tO g F W (catO f1 f2) σ H Q) : tOp rCat (tD g F W f1) (tK g F W f2) σ H Q := by
  obtain ⟨H0, ρ, E, q⟩ := h
  unfold catO at q
  refine ⟨H0, ρ, E, ?_⟩
  cases e1 : f1 ρ with
  | ex x ρ' => rw [e1] at q; exact q
  | bad => rw [e1] at q; exact q
  | ok d ρ1 =>
    rw [e1] at q
    intro x H1 B1 E1 m1 d1
    refine ⟨H1, ρ1, E1, ?_⟩
    dsimp only [R.bind] at q
    cases e2 : f2 ρ1 with
    | ex x ρ' => rw [e2] at q; exact q
    | bad => rw [e2] at q; exact q
    | ok e ρ2 =>
      rw [e2] at q
      intro y H2 B2 E2 m2 d2
      dsimp only [R.bind] at q
      cases e3 : catL d e with
      | none => rw [e3] at q; exact q.elim
      | some z =>
        rw [e3] at q
        exact catL_ok E2 (m1.trans m2) (Da.pk E2.ex (d1.mono m2.b0)) d2 e3 q
theorem tCatPO_of {f2 : Rho → R Dt} {σ : L2.St} {H : Hp} {Q : VK} (h : tO g F W (catPO i f2) σ H Q) : tOp rCat (tVar i) (tK g F W f2) σ H Q := by
  obtain ⟨H0, ρ, E, q⟩ := h
  unfold catPO at q
  cases e1 : pk i ρ with
  | none => rw [e1] at q; exact q.elim
  | some d0 =>
    rw [e1] at q
    obtain ⟨x, hx, _⟩ := pk_at E e1
    refine ⟨x, hx, H0, ρ, E, ?_⟩
    dsimp only [R.bind] at q
    cases e2 : f2 ρ with
    | ex x ρ' => rw [e2] at q; exact q
    | bad => rw [e2] at q; exact q
    | ok e ρ2 =>
      rw [e2] at q
      intro y H2 B2 E2 m2 d2
      dsimp only at q
      cases e3 : pk i ρ2 with
      | none => rw [e3] at q; exact q.elim
      | some d =>
        rw [e3] at q
        dsimp only at q
        obtain ⟨x', hx', px⟩ := pk_at E2 e3
        rw [hx] at hx'
        cases hx'
        cases e4 : catL d e with
        | none => rw [e4] at q; exact q.elim
        | some z =>
          rw [e4] at q
          exact catL_ok E2 m2 px d2 e4 q
end
section
variable {X : Cx} {W : WX} {a b c e : Expr} {es : List Expr} {pos p p2 p3 : Pos} {f1 f2 f3 : Rho → R Dt} {fa : Rho → R (List Dt)} {fo : Rho → R Sl} {i : Nat}
theorem do_cat (ha : DE X W a f1) (hb : DK X W b f2) : DO X W (.BinOp a .Add b pos) (catO f1 f2) := fun F => PE.wk (pe_op op_cat (ha F) (hb F)) fun _ _ _ h => tCatO_of h
theorem do_catP {x : Str} (ha : PE X (.Name x p) (tVar i)) (hb : DK X W b f2) : DO X W (.BinOp (.Name x p) .Add b pos) (catPO i f2) := fun F => PE.wk (pe_op op_cat ha (hb F)) fun _ _ _ h => tCatPO_of h
end
end DW

set_option Elab.async false
set_option linter.all false
set_option maxRecDepth 100000
set_option maxHeartbeats 4000000
/-! DWK: xs[::k] of a list, dict(list of pairs) -/
namespace DW
open PySem PySem.Spec PyProof.Rows L2
def pickI {α : Type} (ix : List Nat) (xs : List α) : List α := ix.filterMap (xs[·]?)
def stp {α : Type} (xs : List α) (c : Int) : List α := pickI (sliceRange 0 xs.length c) xs
theorem stp_pick (items : Array Value) {c : Int} (hc : 0 < c) : slicePick items none none (some c) = (stp items.toList c).toArray := by
  unfold slicePick stp pickI
  have e : sliceBounds none none (some c) items.size = (0, (items.size : Int), c) := by
    unfold sliceBounds
    simp only [Option.getD_some, gt_iff_lt, if_pos hc]
  rw [e, Array.length_toList]
  simp only [Array.getElem?_toList]
theorem Vals.pick {xs : List V} {us : List Value} (r : Vals xs us) : ∀ ix : List Nat, Vals (pickI ix xs) (pickI ix us)
  | [] => .nil
  | i :: ix => by
    have ih := Vals.pick r ix
    unfold pickI at ih ⊢
    rw [List.filterMap_cons, List.filterMap_cons]
    cases e : xs[i]? with
    | none => rw [r.none_of e]; exact ih
    | some x =>
      obtain ⟨u, h1, h2⟩ := r.get e
      rw [h1]
      exact .cons h2 ih
theorem DaAll.pick {K : PySem.W.Frag} {H : Hp} {vs : List V} {ds : List Dt} (r : DaAll K H vs ds) : ∀ ix : List Nat, DaAll K H (pickI ix vs) (pickI ix ds)
  | [] => .nil
  | i :: ix => by
    have ih := DaAll.pick r ix
    unfold pickI at ih ⊢
    rw [List.filterMap_cons, List.filterMap_cons]
    cases e : ds[i]? with
    | none =>
      have : vs[i]? = none := by
        rw [List.getElem?_eq_none_iff] at e ⊢
        rw [r.length]
        exact e
      rw [this]
      exact ih
    | some x =>
      obtain ⟨u, h1, h2⟩ := r.get e
      rw [h1]
      exact .cons h2 ih
theorem DaAll.stp {K : PySem.W.Frag} {H : Hp} {vs : List V} {ds : List Dt} (r : DaAll K H vs ds) (c : Int) : DaAll K H (stp vs c) (stp ds c) := by
  unfold DW.stp
  rw [r.length]
  exact r.pick _
theorem stp_len {α : Type} (xs : List α) {c : Int} (hc : 0 < c) : (stp xs c).length ≤ xs.length := by
  unfold stp pickI
  exact Nat.le_trans (List.length_filterMap_le _ _) (sliceRange_length_le _ _ _ _ (fun _ => ⟨by omega, by omega⟩) fun h => absurd hc h)
section
variable {X : Cx}
def tStepL (K : PySem.W.Frag) (te : TE) (tk : TO) : TE := fun σ H Q => te σ H fun x H1 => tk σ H1 fun o H2 => ∃ a xs c, x = .ref a ∧ o = some c ∧ 0 < c ∧ SqL K H2 a xs ∧ ∀ p, H2 p = none → Q (.ref p) (upd H2 p (.lst (stp xs c)))
theorem pe_stepL {e k : Expr} {te : TE} {tk : TO} {p3 pos : Pos} (he : PE X e te) (hk : PO X (some k) tk) (hsub : ∀ a b, subscripted (.Slice none none (some k) p3) false a b = operate [a, b] (getItem a b) := by intros; with_unfolding_all rfl) : PE X (.Subscript e (.Slice none none (some k) p3) pos) (tStepL X.K te tk) := by
  refine ⟨fun pins s σ H Q I h => ?_⟩
  refine Subscript_ (thn (he.run pins s σ H _ I h) fun v s1 ⟨x, H1, I1, r1, q1⟩ => ?_)
  refine wpAny_Slice (thn (po_none.run pins s1 σ H1 (fun o H2 => o = none ∧ H2 = H1) I1 ⟨rfl, rfl⟩) fun vl s2 ⟨l, H2, I2, pl, el, e2⟩ => ?_)
  subst el e2
  refine thn (po_none.run pins s2 σ H2 (fun o H3 => o = none ∧ H3 = H2) I2 ⟨rfl, rfl⟩) fun vu s3 ⟨u, H3, I3, pu, eu, e3⟩ => ?_
  subst eu e3
  refine thn (hk.run pins s3 σ H3 _ I3 q1) fun vs s4 ⟨o, H4, I4, ps, q2⟩ => ?_
  obtain ⟨a, xs, c, ex, eo, hc, hx, q⟩ := q2
  subst ex eo
  cases r1
  have I5 : Inv X pins σ H4 { s4 with heap := s4.heap.push { cls := .type "slice", data := .fields #[vl, vu, vs] } } := I4.kept (t' := s4.toks) fun b ob q => Heap.get?_push_of_some _ q
  obtain ⟨its, r, ht, hz⟩ := I5.list hx
  have hlen := r.length
  show wpAny (model X.prog X.w) X.A (subscriptTail e (.Slice none none (some k) p3) (.ref a) (.ref s4.heap.objs.size)) (EP X pins σ Q) X.xe { s4 with heap := s4.heap.push { cls := .type "slice", data := .fields #[vl, vu, vs] } }
  refine tail_any (ops := [.ref a, .ref s4.heap.objs.size]) ht.isList.typeIs (PySem.slot_list_getitem.lookup) ?_ (by with_unfolding_all rfl)
  refine wpAny_getItem_list_slice ht.isList (Heap.IsSliceOf.new _ vl vu vs) pl pu ps (fun z => by cases z; omega) ?_ (by rw [List.size_toArray]; omega)
  rw [stp_pick _ hc]
  refine ⟨.ref _, _, I5.laid (t' := s4.toks) (o := .lst (stp xs c)) (fun b ob q => Heap.get?_push_of_some _ q) (Nat.le_refl _) ?_, rfl, q _ (I5.hok.fresh (Nat.le_refl _))⟩
  refine ⟨Nat.le_trans (stp_len xs hc) hz, _, 0, ?_, Heap.get?_push_size _ rfl⟩
  unfold stp
  rw [hlen]
  exact Vals.pick r _
end
def stpD : Dt → Option Int → Option Dt
  | .lst xs, some c => if 0 < c then some (.lst (stp xs c)) else none
  | _, _ => none
def slK (f : Rho → R Dt) (fk : Rho → R (Option Int)) : Rho → R Dt := fun ρ => (f ρ).bind fun d ρ1 => (fk ρ1).bind fun o ρ2 => match stpD d o with
  | some z => .ok z ρ2
  | none => .bad
section
variable {X : Cx} {W : WX} {a b c e : Expr} {es : List Expr} {pos p p2 p3 : Pos} {f1 f2 f3 : Rho → R Dt} {fa : Rho → R (List Dt)} {fo : Rho → R Sl}
theorem de_slK {k : Expr} {fk : Rho → R (Option Int)} (he : DE X W e f1) (hk : DP X W (some k) fk) (hsub : ∀ a b, subscripted (.Slice none none (some k) p3) false a b = operate [a, b] (getItem a b) := by intros; with_unfolding_all rfl) : DE X W (.Subscript e (.Slice none none (some k) p3) pos) (slK f1 fk) := fun F => PE.wk (pe_stepL (he F) (hk F) hsub) fun σ H Q h => by
  obtain ⟨H0, ρ, E, q⟩ := h
  refine ⟨H0, ρ, E, ?_⟩
  unfold slK at q
  cases e1 : f1 ρ with
  | bad => rw [e1] at q; exact q
  | ex x ρ1 => rw [e1] at q; exact q
  | ok d ρ1 =>
    rw [e1] at q
    dsimp only [R.bind] at q
    intro v C0 C E1 m1 d1
    refine ⟨C0, ρ1, E1, ?_⟩
    cases e2 : fk ρ1 with
    | bad => rw [e2] at q; exact q
    | ex x ρ2 => rw [e2] at q; exact q
    | ok o ρ2 =>
      rw [e2] at q
      dsimp only [R.bind] at q
      intro B0 B E2 m2
      cases e3 : stpD d o with
      | none => rw [e3] at q; exact q.elim
      | some z =>
        rw [e3] at q
        unfold stpD at e3
        split at e3
        · split at e3
          · rename_i hc
            cases e3
            have d2 := d1.mono m2.b0
            cases d2 with
            | lst h1 h2 =>
              refine ⟨_, _, _, rfl, rfl, hc, SqL.of (E2.ex _ _ h1), al_lst E2.ex (h2.stp _) fun v I0 I gr s4 d4 => ?_⟩
              obtain ⟨E4, m4⟩ := E2.post (m1.trans m2) gr s4
              exact q v I0 I E4 m4 d4
          · cases e3
        · cases e3
/-! ### dict(list of pairs) -/
def pairsD : List Dt → Option (List (Key × Dt))
  | [] => some []
  | .tup [k, v] :: r => match keyD k, pairsD r with
    | some k, some r => some ((k, v) :: r)
    | _, _ => none
  | _ => none
def dictD : Dt → Option Dt
  | .lst ds => (pairsD ds).map fun kvs => .dct (mergeD [] kvs)
  | _ => none
theorem keyD_Va {K : PySem.W.Frag} {H : Hp} {v : V} {d : Dt} {k : Key} (h : Da K H v d) (e : keyD d = some k) : v = kV k := by
  cases d with
  | int i => cases e; cases h; rfl
  | str x => cases e; cases h; rfl
  | _ => cases e
theorem pairsD_of {K : PySem.W.Frag} {H : Hp} : ∀ {ds : List Dt} {kvs : List (Key × Dt)} {vs : List V}, pairsD ds = some kvs → DaAll K H vs ds → ∃ (ps : List Addr) (ks : List (Key × V)), vs = ps.map V.ref ∧ Paired (fun p kv => SqT K H p [kV kv.1, kv.2]) ps ks ∧ DaKv K H ks kvs
  | [], _, _, h, .nil => by
    cases h
    exact ⟨[], [], rfl, .nil, .nil⟩
  | d :: ds, kvs, _, h, .cons h1 h2 => by
    unfold pairsD at h
    split at h
    · rename_i heq
      cases heq
    · rename_i k v r heq
      cases heq
      split at h
      · rename_i k' r' e1 e2
        cases h
        obtain ⟨ps, ks, q1, q2, q3⟩ := pairsD_of e2 h2
        cases h1 with
        | tup g1 g2 =>
          cases g2 with
          | cons g3 g4 =>
            cases g4 with
            | cons g5 g6 =>
              cases g6
              refine ⟨_ :: ps, (k', _) :: ks, by rw [q1]; rfl, .cons ?_ q2, .cons g5 q3⟩
              rw [keyD_Va g3 e1] at g1
              exact g1
      · cases h
    · cases h
theorem al_dct {K : PySem.W.Frag} {H0 H : Hp} {Q : VK} {zs : List (Key × V)} {ds : List (Key × Dt)} (e : Same H0 H) (hd : DaKv K H0 zs ds) (k : ∀ v H0' H', Gr ⟨H0, H, none⟩ H0' H' → Same H0' H' → Da K H0' v (.dct ds) → Q v H') : ∀ p, H p = none → Q (.ref p) (upd H p (.dK zs)) :=
  fun p hp => k _ _ _ (gr_new hp e) (same_new hp e) (.dct upd_same (hd.mono (gr_new (o := .dK zs) hp e).b0))
theorem und_dict (K : PySem.W.Frag) : UnD K (fun x H Q => ∃ (a : Addr) (ps : List Addr) (kvs : List (Key × V)), [x] = [.ref a] ∧ SqL K H a (ps.map V.ref) ∧ Paired (fun p kv => SqT K H p [kV kv.1, kv.2]) ps kvs ∧ ∀ p, H p = none → Q (.ref p) (upd H p (.dK (mergeK [] kvs)))) dictD := by
  intro x d z H0 H s hx hg Q k
  unfold dictD at hg
  split at hg
  · obtain ⟨kvs, h, rfl⟩ := Option.map_eq_some_iff.mp hg
    obtain ⟨a, vs, rfl, h1, h2⟩ := hx
    obtain ⟨ps, ks, rfl, q2, q3⟩ := pairsD_of h h2
    refine ⟨a, ps, ks, rfl, SqL.of h1, ?_, al_dct s (q3.merge .nil) k⟩
    exact Paired.mono (fun p kv h => seqT_mono s h) q2
  · cases hg
theorem de_dict (hc : X.calm = true) (hg : Gl X "dict") (hm : X.mg "dict" = none) (ha : DK X W e f1) (he : starEach (e :: []) X.env = (false, eval e X.env) :: starEach [] X.env := by rfl) : DE X W (.Call (.Name "dict" p) [e] [] pos) (un dictD f1) :=
  de_t1 (call_dictP hc) (und_dict _) hg hm (by decide +kernel) ha (he := he)
end
end DW

set_option Elab.async false
set_option linter.all false
set_option maxRecDepth 100000
set_option maxHeartbeats 4000000
/-! DWL: a, b = x, y by way of a tuple (names that a comprehension takes up) -/
namespace DW
open PySem PySem.Spec PyProof.Rows L2
section
variable {g : Gx} {F : Fm} {W : WX} {σ : L2.St} {H : Hp}
theorem tPar_postT {D : Ends} {fs : List (Rho → R Sl)} {is : List Nat} {Q : List V → Hp → Prop} (h : tS g F W (parP is fs) D σ H) (hQ : ∀ vs H', vs.length = is.length → (∀ p, H' p = none → D.nx (setAll is vs σ) (upd H' p (.tup vs))) → Q vs H') : tP g F W fs σ H Q := by
  obtain ⟨H0, ρ, E, q⟩ := h
  refine ⟨H0, ρ, E, ?_⟩
  unfold parP at q
  cases e : argsP fs ρ with
  | ok ss ρ1 =>
    rw [e] at q
    intro vs H0' H' E' m hl hall hd
    obtain ⟨ρ2, e2, k⟩ := nxO_post (PostS.mono m.b0 q)
    have hlen : ∀ (is : List Nat) (ss : List Sl) (ρ ρ' : Rho), putP is ss ρ = some ρ' → ss.length = is.length := by
      intro is
      induction is with
      | nil => intro ss ρ ρ' e; cases ss with | nil => rfl | cons _ _ => cases e
      | cons i is ih =>
        intro ss ρ ρ' e
        cases ss with
        | nil => cases e
        | cons s ss =>
          unfold putP at e
          cases e1 : putR i s ρ with
          | none => rw [e1] at e; cases e
          | some ρ1 => rw [e1] at e; rw [List.length_cons, List.length_cons, ih ss ρ1 ρ' e]
    refine hQ vs H' (by rw [hl]; exact hlen is ss ρ1 ρ2 e2) fun p hp => ?_
    have gg : Gr ⟨H0', H', none⟩ H0' (upd H' p (.tup vs)) := gr_newO hp
    refine k _ _ (put_all is vs ss (E'.grow gg (same_newO hp E'.ex)) hl (fun i v s hv hs => ?_) hd e2)
    obtain ⟨q1, q2, q3⟩ := hall i v s hv hs
    exact ⟨q1.grow gg.w, q2, fun o a ea z => E.notOwn (q3 o a ea) (m.sub a z)⟩
  | ex x ρ1 => rw [e] at q; exact q σ
  | bad => rw [e] at q; exact q
end
section
variable {X : Cx} {W : WX} {a b c e : Expr} {es : List Expr} {pos p p2 p3 : Pos} {fs : List (Rho → R Sl)}
theorem ds_parT2 {i j : Nat} {x y : Str} {px py pt : Pos} {kt k2 pt2} (hc : X.calm = true) (hN : X.N.Nodup) (ha : DPs X W [a, b] fs)
    (hi : X.N[i]? = some x := by rfl) (hj : X.N[j]? = some y := by rfl) (hx : Loc X.env.scope x := by first | exact .inl rfl | exact .inr rfl) (hy : Loc X.env.scope y := by first | exact .inl rfl | exact .inr rfl)
    (hfx : X.fn x = true ∨ X.env.scope.names.lookup x = some .local := by first | exact .inl rfl | exact .inr rfl) (hfy : X.fn y = true ∨ X.env.scope.names.lookup y = some .local := by first | exact .inl rfl | exact .inr rfl)
    (hs : swapsWithSole [.Tuple [.Name x px, .Name y py] kt pt] (.Tuple [a, b] k2 pt2) pos.line X.env = pure false := by rfl) (hw : swappedStores [.Tuple [.Name x px, .Name y py] kt pt] (.Tuple [a, b] k2 pt2) X.env = pure none := by rfl)
    (h1 : (assignEach [.Tuple [.Name x px, .Name y py] kt pt] X.env).map (·.2) = [assign (.Tuple [.Name x px, .Name y py] kt pt) X.env] := by rfl)
    (hn : (assignEach [.Name x px, .Name y py] X.env).length = 2 := by rfl) (hst : (assignEach [.Name x px, .Name y py] X.env).findIdx? (·.1) = none := by rfl)
    (hs1 : (assignEach [.Name x px, .Name y py] X.env).map (·.2) = assign (.Name x px) X.env :: (assignEach [.Name y py] X.env).map (·.2) := by rfl)
    (hs2 : (assignEach [.Name y py] X.env).map (·.2) = assign (.Name y py) X.env :: (assignEach [] X.env).map (·.2) := by rfl) :
    DS X W (.Assign [.Tuple [.Name x px, .Name y py] kt pt] (.Tuple [a, b] k2 pt2) pos) (parP [i, j] fs) := fun F =>
  PS.wk (ps_asg (pe_tup (ha F)) (pg_tup hc (pgs_cons (pg_name hN hi hx hfx) (pgs_cons (pg_name hN hj hy hfy) pgs_nil hs2) hs1) hn hst) hs hw h1) fun D σ H h => tPar_postT h fun vs H' hl k => by
    match vs, hl with
    | [v, w], _ => exact ⟨by show 2 ≤ sizeLine; decide, fun p hp => ⟨p, [v, w], rfl, .inl (.inl upd_same), rfl, v, [w], rfl, w, [], rfl, rfl, k p hp⟩⟩
end
end DW

set_option Elab.async false
set_option linter.all false
set_option maxRecDepth 100000
set_option maxHeartbeats 4000000
/-! DWM: l.count(x), sorted(d.items()), sorted(set(l)) -/
namespace DW
open PySem PySem.Spec PyProof.Rows L2
/-! ### several new objects at once -/
def putMany : Hp → List (Addr × HO) → Hp
  | H, [] => H
  | H, p :: r => putMany (upd H p.1 p.2) r
theorem putMany_off {b : Addr} : ∀ (r : List (Addr × HO)) (H : Hp), b ∉ r.map (·.1) → putMany H r b = H b
  | [], _, _ => rfl
  | p :: r, H, h => by
    rw [List.map_cons, List.mem_cons, not_or] at h
    show putMany (upd H p.1 p.2) r b = H b
    rw [putMany_off r _ h.2, upd_ne h.1]
theorem putMany_at : ∀ (r : List (Addr × HO)) (H : Hp) (p : Addr × HO), (r.map (·.1)).Nodup → p ∈ r → putMany H r p.1 = some p.2
  | [], _, _, _, h => (List.not_mem_nil h).elim
  | q :: r, H, p, nd, h => by
    rw [List.map_cons, List.nodup_cons] at nd
    show putMany (upd H q.1 q.2) r p.1 = some p.2
    rcases List.mem_cons.mp h with e | e
    · subst e
      rw [putMany_off r _ nd.1, upd_same]
    · exact putMany_at r _ p nd.2 e
theorem learn {X : Cx} {pins : List (Addr × Obj)} {σ : L2.St} {tk : Nat} : ∀ (news : List (Addr × HO)) {H : Hp} {s : Shared} {hF : Heap}, Inv X pins σ H s → (∀ b o, s.heap.get? b = some o → hF.get? b = some o) →
    (∀ p ∈ news, s.heap.get? p.1 = none ∧ H p.1 = none) → (news.map (·.1)).Nodup → (∀ p ∈ news, ∀ H' h', h'.get? p.1 = hF.get? p.1 → ObjOk X.prog X.w H' h' p.1 p.2) → Inv X pins σ (putMany H news) { s with heap := hF, toks := tk }
  | [], H, s, hF, I, k, _, _, _ => I.kept k
  | p :: r, H, s, hF, I, k, hn, nd, ok => by
    rw [List.map_cons, List.nodup_cons] at nd
    obtain ⟨G, g1, g2⟩ := restrict hF fun b => decide (b ∉ r.map (·.1))
    have gi : ∀ b, b ∉ r.map (·.1) → G.get? b = hF.get? b := fun b hb => g1 b (decide_eq_true hb)
    have go : ∀ b, b ∈ r.map (·.1) → G.get? b = none := fun b hb => g2 b (decide_eq_false fun z => z hb)
    have old : ∀ b o, s.heap.get? b = some o → G.get? b = some o := fun b o e => by
      rw [gi b fun z => ?_]
      · exact k b o e
      · obtain ⟨q, hq, rfl⟩ := List.mem_map.mp z
        rw [(hn q (List.mem_cons_of_mem _ hq)).1] at e
        cases e
    obtain ⟨n1, n2⟩ := hn p (List.mem_cons_self ..)
    have J : Inv X pins σ (upd H p.1 p.2) { s with heap := G, toks := tk } := I.laidN (t' := tk) old n1 n2 (ok p (List.mem_cons_self ..) _ _ (gi p.1 nd.1))
    have := learn (tk := tk) r (s := { s with heap := G, toks := tk }) (hF := hF) J (fun b o e => by
      by_cases hb : b ∈ r.map (·.1)
      · rw [go b hb] at e; cases e
      · rw [gi b hb] at e; exact e) (fun q hq => ⟨go _ (List.mem_map.mpr ⟨q, hq, rfl⟩), by
        have hne : q.1 ≠ p.1 := fun z => nd.1 (by rw [← z]; exact List.mem_map.mpr ⟨q, hq, rfl⟩)
        rw [upd_ne hne]
        exact (hn q (List.mem_cons_of_mem _ hq)).2⟩) nd.2 (fun q hq => ok q (List.mem_cons_of_mem _ hq))
    exact this
/-- many new objects, laid into the base -/
theorem gr_many {H0 H H' : Hp} (news : List Addr) (e : Same H0 H) (k : ∀ b o, H b = some o → H' b = some o) (hn : ∀ b ∈ news, H b = none) :
    Gr ⟨H0, H, none⟩ (fun b => if b ∈ news then H' b else H0 b) H' ∧ Same (fun b => if b ∈ news then H' b else H0 b) H' := by
  have h0 : ∀ b ∈ news, H0 b = none := fun b hb => by
    cases q : H0 b with
    | none => rfl
    | some o =>
      have := e b o q
      rw [hn b hb] at this
      cases this
  refine ⟨⟨fun b o q => ?_, fun b o q _ => k b o q, fun b q q0 => ?_⟩, fun b o q => ?_⟩
  · change H0 b = some o at q
    show (if b ∈ news then H' b else H0 b) = some o
    rw [if_neg fun z => by rw [h0 b z] at q; cases q]
    exact q
  · show (if b ∈ news then H' b else H0 b) = none
    rw [if_neg fun z => q (hn b z)]
    exact q0
  · change (if b ∈ news then H' b else H0 b) = some o at q
    split at q
    · exact q
    · exact k b o (e b o q)
/-! ### sorted(d.items()), numbers by numbers -/
def leP (p q : Int × Int) : Prop := p.1 < q.1 ∨ (p.1 = q.1 ∧ p.2 ≤ q.2)
def rSortIt2 : V → Hp → VK → Prop := fun x H Q => ∃ (d : Addr) (ps : List (Int × Int)), x = .ref d ∧ H d = some (.dK (ps.map fun p => (Sum.inl p.1, V.int p.2))) ∧
  ∀ (H' : Hp) (l : Addr) (ts : List Addr) (qs : List (Int × Int)), (∀ b o, H b = some o → H' b = some o) → (∀ b ∈ l :: ts, H b = none) → qs.Perm ps → qs.Pairwise leP → H' l = some (.lst (ts.map V.ref)) → Paired (fun t (q : Int × Int) => H' t = some (.tup [.int q.1, .int q.2])) ts qs → Q (.ref l) H'
def tSortIt2 (te : TE) : TE := fun σ H Q => te σ H fun x H1 => rSortIt2 x H1 Q
theorem lexB_leP {p q : Int × Int} (h : SrtO.lexB q p = false) : leP p q := by
  have a := SrtO.lexB_no.mp h
  unfold leP
  omega
theorem pairs_get {prog : Program} {w : World} {es : List DictEntry} {vs : List (Key × Value)} (h : Pairs (mixKind prog w) es vs) : ∀ {j : Nat} {en : DictEntry}, es[j]? = some en → ∃ kv, vs[j]? = some kv ∧ keyIs kv.1 en.key = true ∧ en.val = kv.2 := by
  induction h with
  | nil => intro j en e; simp at e
  | cons h1 h2 _ ih =>
    intro j en e
    cases j with
    | zero =>
      simp at e
      subst e
      exact ⟨_, rfl, h1, h2⟩
    | succ j => exact ih (by simpa using e)
theorem paired_at {α β : Type} {F : α → β → Prop} {xs : List α} {ys : List β} (h : Paired F xs ys) : ∀ {i : Nat} {y : β}, ys[i]? = some y → ∃ x, xs[i]? = some x ∧ F x y := by
  induction h with
  | nil => intro i y e; simp at e
  | cons r _ ih =>
    intro i y e
    cases i with
    | zero =>
      simp at e
      subst e
      exact ⟨_, rfl, r⟩
    | succ i => exact ih (by simpa using e)
section
variable {X : Cx} {e : Expr} {te : TE} {p apos cpos pos : Pos}
theorem pe_sortIt2 (hc : X.calm = true) (he : PE X e te) (hg : Gl X "sorted") (hm : X.mg "sorted" = none) (hb : attributeBase e "items" X.env (eval e X.env) = eval e X.env := by rfl) (hl : (apos.endLine == cpos.line) = true := by rfl)
    (hs : starEach [.Call (.Attribute e "items" apos) [] [] cpos] X.env = (false, eval (.Call (.Attribute e "items" apos) [] [] cpos) X.env) :: starEach [] X.env := by rfl) :
    PE X (.Call (.Name "sorted" p) [.Call (.Attribute e "items" apos) [] [] cpos] [] pos) (tSortIt2 te) := by
  refine ⟨fun pins s σ H Q I hq => ?_⟩
  refine wpAny_Call_Name_kw (ld_blt I hg hm boot_sorted ?_)
  refine PyProof.Rows.callWith_builtin1 ?_ hs rfl
  rw [hs]
  change wpAny _ _ (spliced ((false, eval (.Call (.Attribute e "items" apos) [] [] cpos) X.env) :: backTo pos (starEach [] X.env))) _ _ s
  refine Calls.spliced_cons (wpAny_Call_method (T := "dict") (id := "dict.items") hb rfl hl F.plainAttrs_dict F.slot_dict_items F.type_dict_items (thn (he.run pins s σ H _ I hq) fun u s1 z => ?_))
  obtain ⟨x, H1, I1, rx, d, ps, rfl, hd, q⟩ := z
  obtain rfl : u = Value.ref d := rx
  obtain ⟨hz, hs0, vs, kv, hdo⟩ := I1.hok d _ hd
  refine ⟨hdo.typeIs, hdo.mapOf.noDict, ?_⟩
  change wpAny _ _ (callWith cpos (.builtin "dict.items") [.ref d] [] []) _ X.xe s1
  have hdo' := hdo
  obtain ⟨o, es, ep, ho, hx, hdat, hks, hpr, hnd⟩ := hdo'
  have I2 : Inv X pins σ H1 { s1 with heap := s1.heap.push { cls := .type "dict_items", data := .fields #[.ref d] } } := I1.kept (t' := s1.toks) fun b ob z => Heap.get?_push_of_some _ z
  refine method_meetsIn F.slot_dict_items F.entry_dict_items rfl (PySem.evalArgs_none ⟨rfl, hdo.typeIs, F.args_dict_items_1 _, _, meets_dict_items (mixKind X.prog X.w) d hs0, ⟨vs, hdo⟩, Calls.spliced_nil ?_⟩)
  have hlen : es.size = ps.length := by
    rw [← Array.length_toList, hpr.length, ← Paired.length kv, List.length_map]
  rw [List.length_map] at hz
  refine DT.sortedI (es := es) (ep := ep) (I1.ok.hd hc) ⟨_, Heap.get?_push_size _ rfl, rfl, rfl⟩ ⟨o, Heap.get?_push_of_some _ ho, hx, hdat⟩ (by rw [hlen]; exact hz) fun h' tk as hk hlt hal hG => ?_
  have nd : as.Nodup := List.Pairwise.imp (fun h => Nat.ne_of_lt h) hG.rise
  have lak : as.length = ps.length := by omega
  -- the pairs
  have pr : ∀ (j : Nat) (b : Addr), as[j]? = some b → ∃ (y : Int × Int) (t1 t2 : Tok), ps[j]? = some y ∧ h'.get? b = some { cls := .type "tuple", data := .seq #[Value.int y.1 t1, Value.int y.2 t2] } := by
    intro j b hj
    obtain ⟨en, h1, h2⟩ := hG.pairs j b hj
    rw [← Array.getElem?_toList] at h1
    obtain ⟨kv', h3, h4, h5⟩ := pairs_get hpr h1
    obtain ⟨y0, h6, h7, h8⟩ := paired_at kv h3
    rw [List.getElem?_map] at h6
    obtain ⟨y, h9, rfl⟩ := Option.map_eq_some_iff.mp h6
    dsimp only at h7 h8
    obtain ⟨t2, e2⟩ := h8
    rw [← h7] at h4
    obtain ⟨t1, e1⟩ : ∃ t1, en.key = Value.int y.1 t1 := by
      rcases keyIs_shape h4 with ⟨i, t, e1, e2⟩ | ⟨z, t, e1, e2⟩
      · cases e1
        exact ⟨t, e2⟩
      · cases e1
    refine ⟨y, t1, t2, h9, ?_⟩
    rw [h2, e1, h5, e2]
  obtain ⟨k, hkk⟩ : ∃ k : Value → Int × Int, ∀ (j : Nat) (b : Addr) y, as[j]? = some b → ps[j]? = some y → k (.ref b) = y := by
    refine ⟨fun v => match v with | .ref b => (ps[as.idxOf b]?).getD (0, 0) | _ => (0, 0), fun j b y h1 h2 => ?_⟩
    obtain ⟨hj, e1⟩ := List.getElem?_eq_some_iff.mp h1
    have e2 : as.idxOf b = j := by
      rw [← e1]
      exact nd.idxOf_getElem j hj
    show (ps[as.idxOf b]?).getD (0, 0) = y
    rw [e2, h2]
    rfl
  have hsz : (as.map Value.ref).length ≤ sizeLine := by rw [List.length_map, lak]; exact hz
  have hoL : (h'.push { cls := .type "list", data := .seq (as.map Value.ref).toArray }).get? h'.objs.size = some (seqObj "list" (as.map Value.ref).toArray 0) := Heap.get?_push_size _ rfl
  have isP : ∀ v ∈ as.map Value.ref, Srt.IsPair (h'.push { cls := .type "list", data := .seq (as.map Value.ref).toArray }) v (k v).1 (k v).2 := fun v hv => by
    obtain ⟨b, hb, rfl⟩ := List.mem_map.mp hv
    obtain ⟨j, hj⟩ := List.mem_iff_getElem?.mp hb
    obtain ⟨y, t1, t2, h1, h2⟩ := pr j b hj
    rw [hkk j b y hj h1]
    exact ⟨b, _, t1, t2, _, rfl, Heap.get?_push_of_some _ h2, rfl, rfl⟩
  refine wpAny_call_entry slot_list_sort ⟨_, hoL, rfl⟩ entry_list_sort (SrtO.list_sort_ord (SrtO.swo_lex k) hoL hsz (fun h2 => SrtO.pairs_sortableO (by omega) isP fun oL eL => ?_) fun out h1 h2 => ⟨.none, rfl, ?_⟩) (args_list_sort _)
  · have e' : some oL = some (seqObj "list" (as.map Value.ref).toArray 0) := eL.symm.trans hoL
    cases e'
    intro c
    exact absurd (Value.type.inj c) (by decide)
  · obtain ⟨cc, hcc⟩ := sortedHeap_at (vs := as.map Value.ref) (out := out.toArray) hoL
    -- the addresses in their new order
    have hout : ∀ v ∈ out, ∃ b ∈ as, v = Value.ref b := fun v hv => by
      obtain ⟨b, hb, rfl⟩ := List.mem_map.mp (h2.perm.mem_iff.mp hv)
      exact ⟨b, hb, rfl⟩
    obtain ⟨ts, hts⟩ : ∃ ts : List Addr, out = ts.map Value.ref := by
      clear h1 h2 hcc
      induction out with
      | nil => exact ⟨[], rfl⟩
      | cons v out ih =>
        obtain ⟨ts, e⟩ := ih fun u hu => hout u (List.mem_cons_of_mem _ hu)
        obtain ⟨b, _, rfl⟩ := hout v (List.mem_cons_self ..)
        exact ⟨b :: ts, by rw [e]; rfl⟩
    subst hts
    have tp : ts.Perm as := by
      have := h2.perm.map fun v => match v with | Value.ref b => b | _ => 0
      rw [List.map_map, List.map_map] at this
      have e1 : ∀ l : List Addr, l.map ((fun v => match v with | Value.ref b => b | _ => 0) ∘ Value.ref) = l := fun l => by
        conv => rhs; rw [← List.map_id l]
        exact List.map_congr_left fun _ _ => rfl
      rwa [e1, e1] at this
    have hperm : ((ts.map fun b => k (.ref b))).Perm ps := by
      have e2 : as.map (fun b => k (.ref b)) = ps := by
        refine List.ext_getElem? fun j => ?_
        rw [List.getElem?_map]
        cases ej : as[j]? with
        | none =>
          have := List.getElem?_eq_none_iff.mp ej
          rw [List.getElem?_eq_none (by omega)]
          rfl
        | some b =>
          obtain ⟨y, _, _, h3, _⟩ := pr j b ej
          rw [h3]
          exact congrArg some (hkk j b y ej h3)
      have := tp.map fun b => k (.ref b)
      rwa [e2] at this
    have hsort : (ts.map fun b => k (.ref b)).Pairwise leP := by
      rw [List.pairwise_map]
      have := List.pairwise_map.mp h1
      exact this.imp fun z => lexB_leP z
    have tup : ∀ b ∈ ts, ∃ (t1 t2 : Tok), h'.get? b = some { cls := .type "tuple", data := .seq #[Value.int (k (.ref b)).1 t1, Value.int (k (.ref b)).2 t2] } := fun b hb => by
      obtain ⟨j, hj⟩ := List.mem_iff_getElem?.mp (tp.mem_iff.mp hb)
      obtain ⟨y, t1, t2, h3, h4⟩ := pr j b hj
      rw [hkk j b y hj h3]
      exact ⟨t1, t2, h4⟩
    have hF : ∀ b ob, h'.get? b = some ob → (sortedHeap (h'.push { cls := .type "list", data := .seq (as.map Value.ref).toArray }) h'.objs.size (as.map Value.ref) (ts.map Value.ref).toArray).get? b = some ob := fun b ob eb => by
      have hlt' := Heap.lt_size eb
      rw [sortedHeap_old (Nat.ne_of_lt hlt') (by rw [size_push']; exact Nat.lt_succ_of_lt hlt')]
      exact Heap.get?_push_of_some _ eb
    have big : ∀ b ∈ ts, s1.heap.objs.size < b := fun b hb => by
      have h9 := hG.above b (tp.mem_iff.mp hb)
      rw [size_push'] at h9
      exact Nat.lt_trans (Nat.lt_succ_self _) h9
    have big2 : s1.heap.objs.size + 1 < h'.objs.size := by
      rw [size_push'] at hlt
      exact hlt
    have small : ∀ b ∈ ts, b < h'.objs.size := fun b hb => by
      obtain ⟨_, _, h3⟩ := tup b hb
      exact Heap.lt_size h3
    have ndt : ts.Nodup := tp.nodup_iff.mpr nd
    have fresh2 : ∀ b, s1.heap.objs.size < b → (s1.heap.push { cls := .type "dict_items", data := .fields #[.ref d] }).get? b = none := fun b hb => by
      cases eb : (s1.heap.push { cls := .type "dict_items", data := .fields #[.ref d] }).get? b with
      | none => rfl
      | some ob =>
        have h9 := Heap.lt_size eb
        rw [size_push'] at h9
        exact absurd (Nat.lt_of_lt_of_le hb (Nat.le_of_lt_succ h9)) (Nat.lt_irrefl _)
    have J := learn (tk := tk) ((h'.objs.size, HO.lst (ts.map V.ref)) :: ts.map fun b => (b, HO.tup [.int (k (.ref b)).1, .int (k (.ref b)).2])) I2 (fun b ob z => hF b ob (hk b ob z)) (fun pp hpp => ?_) ?_ (fun pp hpp H' hh e1 => ?_)
    · refine ⟨.ref h'.objs.size, _, J, rfl, q _ h'.objs.size ts _ (fun b ob z => ?_) (fun b hb => ?_) hperm hsort ?_ ?_⟩
      · rw [putMany_off]
        · exact z
        · intro hm
          have hlt1 : (show Nat from b) < s1.heap.objs.size := by
            refine Nat.lt_of_not_le fun hle => ?_
            rw [I1.hok.fresh hle] at z
            cases z
          rw [List.map_cons, List.map_map] at hm
          rcases List.mem_cons.mp hm with h3 | h3
          · change b = h'.objs.size at h3
            subst h3
            exact absurd (Nat.lt_trans hlt1 (Nat.lt_trans (Nat.lt_succ_self _) big2)) (Nat.lt_irrefl _)
          · obtain ⟨c, hc1, rfl⟩ := List.mem_map.mp h3
            exact absurd (Nat.lt_trans hlt1 (big c hc1)) (Nat.lt_irrefl _)
      · rcases List.mem_cons.mp hb with rfl | hb
        · exact I1.hok.fresh (Nat.le_of_lt (Nat.lt_trans (Nat.lt_succ_self _) big2))
        · exact I1.hok.fresh (Nat.le_of_lt (big b hb))
      · refine putMany_at _ _ (h'.objs.size, _) ?_ (List.mem_cons_self ..)
        rw [List.map_cons, List.map_map, List.nodup_cons]
        refine ⟨fun hm => ?_, ?_⟩
        · obtain ⟨c, hc1, e3⟩ := List.mem_map.mp hm
          change c = h'.objs.size at e3
          exact absurd (e3 ▸ small c hc1) (Nat.lt_irrefl _)
        · rw [show ((fun x : Addr × HO => x.1) ∘ fun b => (b, HO.tup [.int (k (.ref b)).1, .int (k (.ref b)).2])) = id from rfl, List.map_id]
          exact ndt
      · have key : ∀ l : List Addr, (∀ b ∈ l, b ∈ ts) → Paired (fun t (y : Int × Int) => putMany H1 ((h'.objs.size, HO.lst (ts.map V.ref)) :: ts.map fun b => (b, HO.tup [.int (k (.ref b)).1, .int (k (.ref b)).2])) t = some (.tup [.int y.1, .int y.2])) l (l.map fun b => k (.ref b)) := by
          intro l
          induction l with
          | nil => intro _; exact .nil
          | cons b l ih =>
            intro hl
            refine .cons ?_ (ih fun c hc => hl c (List.mem_cons_of_mem _ hc))
            refine putMany_at _ _ (b, HO.tup [.int (k (.ref b)).1, .int (k (.ref b)).2]) ?_ (List.mem_cons_of_mem _ (List.mem_map.mpr ⟨b, hl b (List.mem_cons_self ..), rfl⟩))
            rw [List.map_cons, List.map_map, List.nodup_cons]
            refine ⟨fun hm => ?_, ?_⟩
            · obtain ⟨c, hc1, e3⟩ := List.mem_map.mp hm
              change c = h'.objs.size at e3
              exact absurd (e3 ▸ small c hc1) (Nat.lt_irrefl _)
            · rw [show ((fun x : Addr × HO => x.1) ∘ fun b => (b, HO.tup [.int (k (.ref b)).1, .int (k (.ref b)).2])) = id from rfl, List.map_id]
              exact ndt
        exact key ts fun _ z => z
    · rcases List.mem_cons.mp hpp with rfl | hpp
      · exact ⟨fresh2 _ (Nat.lt_trans (Nat.lt_succ_self _) big2), I1.hok.fresh (Nat.le_of_lt (Nat.lt_trans (Nat.lt_succ_self _) big2))⟩
      · obtain ⟨b, hb, rfl⟩ := List.mem_map.mp hpp
        exact ⟨fresh2 _ (big b hb), I1.hok.fresh (Nat.le_of_lt (big b hb))⟩
    · rw [List.map_cons, List.map_map, List.nodup_cons]
      refine ⟨fun hm => ?_, ?_⟩
      · obtain ⟨c, hc1, e3⟩ := List.mem_map.mp hm
        change c = h'.objs.size at e3
        exact absurd (e3 ▸ small c hc1) (Nat.lt_irrefl _)
      · rw [show ((fun x : Addr × HO => x.1) ∘ fun b => (b, HO.tup [.int (k (.ref b)).1, .int (k (.ref b)).2])) = id from rfl, List.map_id]
        exact ndt
    · rcases List.mem_cons.mp hpp with rfl | hpp
      · refine ⟨by rw [List.length_map]; have := tp.length_eq; omega, ts.map Value.ref, cc, LiI.vals_refs ts, ?_⟩
        exact e1.trans hcc
      · obtain ⟨b, hb, rfl⟩ := List.mem_map.mp hpp
        obtain ⟨t1, t2, h3⟩ := tup b hb
        exact ⟨by show 2 ≤ sizeLine; decide, [Value.int (k (.ref b)).1 t1, Value.int (k (.ref b)).2 t2], .cons ⟨t1, rfl⟩ (.cons ⟨t2, rfl⟩ .nil), _, e1.trans (hF b _ h3), rfl, _, rfl⟩
end
/-! ### the data -/
def pairsI : List (Key × Dt) → Option (List (Int × Int))
  | [] => some []
  | (.inl i, .int j) :: r => (pairsI r).map ((i, j) :: ·)
  | _ => none
def ltPB (p q : Int × Int) : Bool := decide (p.1 < q.1) || (decide (p.1 = q.1) && decide (p.2 ≤ q.2))
def insP (p : Int × Int) : List (Int × Int) → List (Int × Int)
  | [] => [p]
  | q :: r => if ltPB p q = true then p :: q :: r else q :: insP p r
def sortP : List (Int × Int) → List (Int × Int)
  | [] => []
  | p :: r => insP p (sortP r)
theorem ltPB_iff {p q : Int × Int} : ltPB p q = true ↔ leP p q := by
  unfold ltPB leP
  simp only [Bool.or_eq_true, Bool.and_eq_true, decide_eq_true_eq]
theorem leP_total {p q : Int × Int} (h : ¬ ltPB p q = true) : leP q p := by
  rw [ltPB_iff] at h
  unfold leP at h ⊢
  omega
theorem leP_trans {p q r : Int × Int} (h1 : leP p q) (h2 : leP q r) : leP p r := by
  unfold leP at h1 h2 ⊢
  omega
theorem insP_perm (p : Int × Int) : ∀ l, (insP p l).Perm (p :: l)
  | [] => .refl _
  | q :: r => by
    unfold insP
    split
    · exact .refl _
    · exact ((insP_perm p r).cons q).trans (.swap ..)
theorem sortP_perm : ∀ l, (sortP l).Perm l
  | [] => .refl _
  | p :: r => (insP_perm p _).trans ((sortP_perm r).cons p)
theorem insP_sorted (p : Int × Int) : ∀ {l : List (Int × Int)}, l.Pairwise leP → (insP p l).Pairwise leP
  | [], _ => List.pairwise_singleton ..
  | q :: r, h => by
    obtain ⟨h1, h2⟩ := List.pairwise_cons.mp h
    unfold insP
    split
    · rename_i hp
      have hpq := ltPB_iff.mp hp
      exact List.pairwise_cons.mpr ⟨fun y hy => by
        rcases List.mem_cons.mp hy with rfl | hy
        · exact hpq
        · exact leP_trans hpq (h1 y hy), h⟩
    · rename_i hp
      refine List.pairwise_cons.mpr ⟨fun y hy => ?_, insP_sorted p h2⟩
      rcases List.mem_cons.mp ((insP_perm p r).mem_iff.mp hy) with rfl | hy
      · exact leP_total hp
      · exact h1 y hy
theorem sortP_sorted : ∀ l, (sortP l).Pairwise leP
  | [] => .nil
  | p :: r => insP_sorted p (sortP_sorted r)
theorem sortP_one {l m : List (Int × Int)} (h : m.Perm l) (h2 : m.Pairwise leP) : m = sortP l :=
  List.Perm.eq_of_pairwise (fun a b _ _ h1 h2 => by
    unfold leP at h1 h2
    exact Prod.ext (by omega) (by omega)) h2 (sortP_sorted l) (h.trans (sortP_perm l).symm)
def prD2 (q : Int × Int) : Dt := .tup [.int q.1, .int q.2]
def srtItD (d : Dt) : Option Dt := match d with
  | .dct kvs => (pairsI kvs).map fun ps => .lst ((sortP ps).map prD2)
  | _ => none
theorem pairsI_kv {K : PySem.W.Frag} {H : Hp} : ∀ {kvs : List (Key × Dt)} {ps : List (Int × Int)} {ks : List (Key × V)}, pairsI kvs = some ps → DaKv K H ks kvs → ks = ps.map fun p => (Sum.inl p.1, V.int p.2)
  | [], ps, ks, h, d => by
    cases h
    cases d
    rfl
  | (.inl i, .int j) :: r, ps, ks, h, d => by
    obtain ⟨qs, h1, rfl⟩ := Option.map_eq_some_iff.mp h
    cases d with
    | cons d1 d2 =>
      cases d1
      rw [pairsI_kv h1 d2]
      rfl
  | (.inr _, _) :: r, ps, ks, h, d => by cases h
  | (.inl _, .non) :: r, ps, ks, h, d => by cases h
  | (.inl _, .bl _) :: r, ps, ks, h, d => by cases h
  | (.inl _, .str _) :: r, ps, ks, h, d => by cases h
  | (.inl _, .lst _) :: r, ps, ks, h, d => by cases h
  | (.inl _, .tup _) :: r, ps, ks, h, d => by cases h
  | (.inl _, .dct _) :: r, ps, ks, h, d => by cases h
  | (.inl _, .scr _) :: r, ps, ks, h, d => by cases h
theorem und_sortIt (K : PySem.W.Frag) : UnD K rSortIt2 srtItD := by
  intro x d z H0 H s hx hg Q k
  unfold srtItD at hg
  split at hg
  · rename_i kvs
    obtain ⟨ps, h, rfl⟩ := Option.map_eq_some_iff.mp hg
    obtain ⟨a, ks, rfl, h1, h2⟩ := hx
    rw [pairsI_kv h h2] at h1
    refine ⟨a, ps, rfl, h1, fun H' l ts qs kp hn hp hs hl ht => ?_⟩
    rw [← sortP_one hp hs] at k
    obtain ⟨g1, g2⟩ := gr_many (H0 := H0) (H := H) (H' := H') (l :: ts) s kp hn
    refine k (.ref l) _ H' g1 g2 (.lst (xs := ts.map V.ref) (by rw [if_pos (List.mem_cons_self ..)]; exact hl) ?_)
    have key : ∀ (us : List Addr) (rs : List (Int × Int)), (∀ u ∈ us, u ∈ l :: ts) → Paired (fun t (q : Int × Int) => H' t = some (.tup [.int q.1, .int q.2])) us rs → DaAll K (fun b => if b ∈ l :: ts then H' b else H0 b) (us.map V.ref) (rs.map prD2) := by
      intro us rs hu hpr
      induction hpr with
      | nil => exact .nil
      | @cons t q us rs h5 _ ih =>
        refine .cons (.tup (xs := [.int q.1, .int q.2]) (.inl (.inl ?_)) (.cons (.int _) (.cons (.int _) .nil))) (ih fun u h6 => hu u (List.mem_cons_of_mem _ h6))
        show (if t ∈ l :: ts then H' t else H0 t) = _
        rw [if_pos (hu t (List.mem_cons_self ..))]
        exact h5
    exact key ts qs (fun u hu => List.mem_cons_of_mem _ hu) ht
  · cases hg
section
variable {X : Cx} {W : WX} {o : Expr} {f1 : Rho → R Dt} {p apos cpos pos : Pos}
theorem de_sortIt (hc : X.calm = true) (hg : Gl X "sorted") (hm : X.mg "sorted" = none) (ho : DK X W o f1) (hb : attributeBase o "items" X.env (eval o X.env) = eval o X.env := by rfl) (hl : (apos.endLine == cpos.line) = true := by rfl)
    (hs : starEach [.Call (.Attribute o "items" apos) [] [] cpos] X.env = (false, eval (.Call (.Attribute o "items" apos) [] [] cpos) X.env) :: starEach [] X.env := by rfl) :
    DE X W (.Call (.Name "sorted" p) [.Call (.Attribute o "items" apos) [] [] cpos] [] pos) (un srtItD f1) := fun F => PE.wk (pe_sortIt2 hc (ho F) hg hm hb hl hs) fun _ _ _ h => tUn_un (und_sortIt _) h
end
/-! ### l.count(x), numbers -/
def cntD : Dt → Dt → Option Dt
  | .lst xs, .int k => (intsOf xs).map fun ns => .int (ns.count k : Nat)
  | _, _ => none
section
variable {X : Cx} {W : WX} {o e : Expr} {f1 f2 : Rho → R Dt} {apos cpos : Pos}
theorem de_count (ho : DE X W o f1) (he : DE X W e f2) (hbase : attributeBase o "count" X.env (eval o X.env) = eval o X.env := by rfl)
    (hfew : ((backTo cpos (starEach (e :: []) X.env)).all (fun x => !x.1) && (backToKw cpos (keywordEach [] X.env)).all (fun x => x.1.isSome)
      && decide ((e :: ([] : List Expr)).length + ([] : List Keyword).length + (if ([] : List Keyword).isEmpty then 0 else 1) < 30)) = true := by rfl)
    (hline : (apos.endLine == cpos.line) = true := by rfl) (hs : starEach (e :: []) X.env = (false, eval e X.env) :: starEach [] X.env := by rfl) (hplain : (backTo cpos (starEach [] X.env)).any (·.1) = false := by rfl) :
    DE X W (.Call (.Attribute o "count" apos) [e] [] cpos) (meth1 cntD isLst f1 f2) :=
  fun F => PE.wk (pe_bm PySem.F.plainAttrs_list PySem.F.slot_list_count PySem.F.type_list_count mt_lcount (ho F) (pa_cons (he F) pa_nil hs) hbase hfew hline hs hplain) fun σ H Q ⟨H0, ρ, E, q⟩ => by
    refine ⟨H0, ρ, E, ?_⟩
    unfold meth1 at q
    cases e1 : f1 ρ with
    | ok d ρ1 =>
      rw [e1] at q
      dsimp only [R.bind] at q
      intro v B0 B E1 m1 dv
      cases d with
      | lst xs =>
        rw [if_pos (by rfl)] at q
        cases dv with
        | @lst a vs _ h1 h2 =>
          refine ⟨.inl ⟨rfl, _, SqL.of (E1.ex _ _ h1)⟩, B0, ρ1, E1, ?_⟩
          cases e2 : f2 ρ1 with
          | ok y ρ2 =>
            rw [e2] at q
            dsimp only [R.bind] at q
            intro w C0 C E2 m2 d2
            cases e3 : cntD (.lst xs) y with
            | none => rw [e3] at q; exact q.elim
            | some z =>
              rw [e3] at q
              cases y with
              | int k =>
                change (intsOf xs).map _ = some z at e3
                obtain ⟨ns, h3, rfl⟩ := Option.map_eq_some_iff.mp e3
                have h4 := h2.mono m2.b0
                rw [intsOf_eq h3] at h4
                cases d2
                refine ⟨a, ns, k, rfl, rfl, ?_, q _ C0 C E2 (m1.trans m2) (.int _)⟩
                rw [← h4.ints]
                exact SqL.of (E2.ex _ _ (m2.b0 _ _ h1))
              | _ => cases e3
          | ex x ρ1 => rw [e2] at q; exact q
          | bad => rw [e2] at q; exact q
      | _ => exact q.elim
    | ex x ρ1 => rw [e1] at q; exact q
    | bad => rw [e1] at q; exact q
end
end DW

set_option Elab.async false
set_option linter.all false
set_option maxRecDepth 100000
set_option maxHeartbeats 4000000
/-! DWN: sorted(set(l)), numbers -/
namespace DW
open PySem PySem.Spec PyProof.Rows L2
abbrev newS (w : World) : Obj := { cls := .type "set", dict := none, data := .set #[] 0 (.fresh 0 0 (!w.params.followText "set-order")) }
section
variable {P : Program} {w : World} {A : Around} {E : Value → Shared → Prop} {s : Shared}
theorem ints_at {items : Array Value} {ns : List Int} (hz : items.size = ns.length) (hi : IntsAre items.toList ns) (i : Nat) (v : Value) (hv : items[i]? = some v) : ∃ k t, ns[i]? = some k ∧ v = .int k t := by
  have lt : i < ns.length := by rw [← hz]; exact (Array.getElem?_eq_some_iff.mp hv).1
  obtain ⟨t, e⟩ := PyProof.Rows.IntsAre.int_at hi i v (by rw [Array.getElem?_toList]; exact hv)
  refine ⟨ns[i], t, List.getElem?_eq_getElem lt, ?_⟩
  rw [e, List.getD_eq_getElem?_getD, List.getElem?_eq_getElem lt]
  rfl
/-- what the filling of a new set by a list leaves -/
theorem fill_list {R : Result → Shared → Prop} {l S : Addr} {items : Array Value} (ns : List Int) (calm : A.in1.handled = none) (hS : S = s.heap.objs.size) (isl : s.heap.IsList l items) (hi : IntsAre items.toList ns) (few : ns.length + 1 < scanBound)
    (k : ∀ h' tk c, SetR w h' S (fun j => decide (j ∈ ns)) c → c ≤ ns.length → (∀ b o, s.heap.get? b = some o → h'.get? b = some o) → R (.ok (.ret .none)) { s with heap := h', toks := tk }) :
    codeAny (model P w) A (.builtin "set.update.loop" ⟨[.ref S, .ref (s.heap.objs.size + 1)], []⟩) R { s with heap := (s.heap.push (newS w)).push { cls := .type "list_iterator", data := .fields #[.ref l, .int 0 0] } } := by
  subst hS
  have hz : items.size = ns.length := by
    have q := IntsAre.length hi
    rwa [Array.length_toList] at q
  obtain ⟨ol, ho, _⟩ := id isl
  have small : l < s.heap.objs.size := Heap.lt_size ho
  have at1 : (s.heap.push (newS w)).get? s.heap.objs.size = some (newS w) := Heap.get?_push_size _ rfl
  have sz1 : (s.heap.push (newS w)).objs.size = s.heap.objs.size + 1 := size_push' _ _
  have at2 : ((s.heap.push (newS w)).push { cls := .type "list_iterator", data := .fields #[.ref l, .int 0 0] }).get? (s.heap.objs.size + 1) = some { cls := .type "list_iterator", data := .fields #[.ref l, .int 0 0] } := by
    rw [← sz1]
    exact Heap.get?_push_size _ rfl
  have apart : s.heap.objs.size ∉ [s.heap.objs.size + 1, l] := by
    simp only [List.mem_cons, List.not_mem_nil, or_false, not_or]
    exact ⟨Nat.ne_of_lt (Nat.lt_succ_self _), Nat.ne_of_gt small⟩
  refine set_update_ints ((Walks.list calm (s.heap.objs.size + 1) l (Nat.ne_of_lt (Nat.lt_succ_of_lt small)) items).toS) s.heap.objs.size apart ns hz few (ints_at hz hi) items.size 0 _ rfl (Nat.zero_le _)
    ⟨⟨_, at2, rfl, rfl⟩, (isl.push _).push _⟩ ⟨0, Nat.le_refl 0, setR_new_at (Heap.get?_push_of_some _ at1)⟩ fun s' c mv hc hS => ?_
  obtain ⟨h', g', d', t', o'⟩ := s'
  obtain rfl : g' = s.gens := mv.gens
  obtain rfl : d' = s.drawn := mv.drawn
  obtain rfl : o' = s.os := mv.os
  rw [hz] at hc
  refine k h' t' c hS hc fun b o e => mv.heap b o ?_ (Heap.get?_push_of_some _ (Heap.get?_push_of_some _ e))
  have lt := Heap.lt_size e
  simp only [List.mem_cons, List.not_mem_nil, or_false, not_or]
  exact ⟨Nat.ne_of_lt lt, Nat.ne_of_lt (Nat.lt_succ_of_lt lt)⟩
set_option maxHeartbeats 3200000 in
theorem set_of_list {l : Addr} {items : Array Value} (ns : List Int) {Q : Value → Shared → Prop} (calm : A.handled = none) (isl : s.heap.IsList l items) (hi : IntsAre items.toList ns) (few : ns.length + 1 < scanBound)
    (goal : ∀ h' tk c, SetR w h' s.heap.objs.size (fun j => decide (j ∈ ns)) c → c ≤ ns.length → (∀ b o, s.heap.get? b = some o → h'.get? b = some o) → Q (.ref s.heap.objs.size) { s with heap := h', toks := tk }) :
    wpAny (model P w) A (call (.type "set") [.ref l]) Q E s := by
  obtain ⟨_, _, f1⟩ := F.called_set.mro
  have f2 := F.called_set.made
  have f3 := F.called_set.sub
  have f4 := F.called_set.notType
  have f5 := F.called_set.canCreate
  have f6 := F.typeCall_set_1 (.ref l)
  refine wpAny_call (codeAny_of_tree ?_)
  change wpAny _ _ (callAny (.type "set") _) _ _ _
  refine wpAny_pure ⟨Code.quiet_builtin _ (by decide +kernel), codeAny_builtin F.entry_type_call ?_⟩
  rw [Around.under_plain (weight_type_call_type "set" [.ref l] []) rfl]
  repeat (any_goals (first | assumption | wp_step | fail "no step"))
  refine codeAny_mono (code_set_led1 (.ref l) (E := E) (Q₁ := fun obj s₁ => obj = .ref s.heap.objs.size ∧ s₁ = { s with heap := s.heap.push (newS w) }) ⟨rfl, rfl⟩) fun r s₁ hr => ?_
  match r, hr with
  | .error _, hr => exact hr
  | .ok .next, hr => exact hr.elim
  | .ok .brk, hr => exact hr.elim
  | .ok .cont, hr => exact hr.elim
  | .ok (.ret obj), hr =>
    obtain ⟨rfl, rfl⟩ := hr
    have at1 : (s.heap.push (newS w)).get? s.heap.objs.size = some (newS w) := Heap.get?_push_size _ rfl
    have ty1 : Shared.TypeIs { s with heap := s.heap.push (newS w) } (.ref s.heap.objs.size) "set" := ⟨_, at1, rfl⟩
    have f7 := F.called_set.init.lookup
    have f8 := F.called_set.init.bind (.ref s.heap.objs.size)
    repeat (any_goals (first | assumption | wp_step | fail "no step"))
    refine codeAny_mono (codeAny_call_builtin (R := wants (fun r s₂ => r = .none ∧ ∃ h' tk c, s₂ = { s with heap := h', toks := tk } ∧ SetR w h' s.heap.objs.size (fun j => decide (j ∈ ns)) c ∧ c ≤ ns.length ∧ ∀ b o, s.heap.get? b = some o → h'.get? b = some o) E) F.called_set.init.plain F.entry_set_init (check_set_init_1 ty1 ?_)) fun r₂ s₂ hr₂ => ?_
    · have isl' := isl
      obtain ⟨⟨oc, od, oda, osl⟩, ho, hc, nn, hd⟩ := isl'
      simp only at hc hd
      subst hc hd
      have at3 : (s.heap.push (newS w)).get? l = some { cls := .type "list", dict := od, data := .seq items nn, slots := osl } := Heap.get?_push_of_some _ ho
      have n1 := F.sub_list_set
      have n2 := F.sub_list_frozenset
      have n3 : (Value.type "list" == Value.type "dict") = false := by decide
      unfold Builtin.«set.__init__» noKeywords Builtin.Frozenset.updateFrom
      generalize hI : pyIter = PI
      wp_walk
      subst hI
      refine wpAny_pyIter_list (isl.push (newS w)) (wpAny_bind (wpAny_runValue ?_))
      have calm3 : A.in1.in1.in1.handled = none := by simp [calm]
      have sz1 : (s.heap.push (newS w)).objs.size = s.heap.objs.size + 1 := size_push' _ _
      rw [sz1]
      refine fill_list (s := s) ns calm3 rfl isl hi few fun h' tk c a1 a2 a3 => ?_
      change wpAny _ _ _ _ _ _
      refine wpAny_pure ?_
      change wpAny _ _ (ret Value.none) _ _ _
      exact wpAny_pure ⟨rfl, h', tk, c, rfl, a1, a2, a3⟩
    · match r₂, hr₂ with
      | .error _, hr₂ => exact hr₂
      | .ok .next, hr₂ => exact hr₂.elim
      | .ok .brk, hr₂ => exact hr₂.elim
      | .ok .cont, hr₂ => exact hr₂.elim
      | .ok (.ret _), hr₂ =>
        obtain ⟨rfl, h', tk, c, rfl, a1, a2, a3⟩ := hr₂
        repeat (any_goals (first | assumption | wp_step | fail "no step"))
        exact goal _ _ _ a1 a2 a3
/-- sorted(S), a set of numbers, any number of them -/
theorem sorted_setA {a : Addr} {S : Int → Bool} {n : Nat} {Q : Value → Shared → Prop} (T : SetR w s.heap a S n) (calm : A.handled = none) (hn : n ≤ 1000000)
    (goal : ∀ s' p (out : List Value) (c : Nat) (ns : List Int), (∀ b o, s.heap.get? b = some o → s'.heap.get? b = some o) → s'.gens = s.gens → s'.os = s.os → s.heap.objs.size ≤ p →
      s'.heap.get? p = some (seqObj "list" out.toArray c) → IntsAre out ns → ns.Pairwise (· < ·) → (∀ k, k ∈ ns ↔ S k = true) → ns.length = n → Q (.ref p) s') :
    wpAny (model P w) A (call (.builtin "sorted") [.ref a]) Q E s := by
  obtain ⟨o, es, ep, t, ho, hex, hd, g, nd, hm, hb, hf, hen, hr, hl⟩ := T
  refine Calls.call_function_entry kind_sorted plain_sorted entry_sorted (args_sorted1 _) ?_
  unfold Builtin.«sorted»
  refine wpAny_bind (m := checkCount "sorted" 1 1 _) (wpAny_pure (wpAny_bind (collect_set (A := A.in1) calm ⟨o, ho, hex.1, hd⟩ hf hb hr hl fun s1 vs k1 hz g1 o1 pm => ?_)))
  have len : vs.length = n := by rw [pm.length_eq, List.length_map, Array.length_toList]; exact hen
  have isI : IntsAre vs (vs.map Builtin.Re.reRawOf) := ints_of vs fun v hv => by
    obtain ⟨e, he, rfl⟩ := List.mem_map.mp (pm.mem_iff.mp hv)
    obtain ⟨k, tk, e1, _⟩ := g e he
    exact ⟨k, tk, e1⟩
  have pk : (vs.map Builtin.Re.reRawOf).Perm (es.toList.map keyOf) := by
    have q := pm.map Builtin.Re.reRawOf
    rwa [List.map_map] at q
  have lineN : vs.length ≤ sizeLine := by rw [len]; exact sizeM hn
  refine wpAny_bind (wpAny_newList ?_ lineN)
  have atL : (s1.heap.push (seqObj "list" vs.toArray 0)).get? s1.heap.objs.size = some (seqObj "list" vs.toArray 0) := Heap.get?_push_size _ rfl
  refine wpAny_bind (wpAny_holding (wpAny_call_entry slot_list_sort ⟨_, atL, rfl⟩ entry_list_sort (SrtO.list_sort_ord SrtO.swo_int atL lineN (fun h2 => SrtO.ints_sortable isI h2) fun out b1 b2 => ⟨_, rfl, ?_⟩) (args_list_sort _)))
  obtain ⟨c1, c2, c3⟩ := SrtO.ints_out isI b1 b2
  obtain ⟨ec, hec⟩ := sortedHeap_at (vs := vs) (out := out.toArray) atL
  have pn := c2.trans pk
  refine wpAny_pure ⟨_, rfl, goal _ s1.heap.objs.size out ec _ (fun b u e => ?_) g1 o1 hz hec c1 (lt_of_le_nodup _ c3 (pn.nodup_iff.mpr nd)) (fun k => by rw [pn.mem_iff, ← hm k]) ?_⟩
  · have q := k1 b u e
    have lt := Heap.lt_size q
    change (sortedHeap (s1.heap.push (seqObj "list" vs.toArray 0)) s1.heap.objs.size vs out.toArray).get? b = some u
    rw [sortedHeap_old (Nat.ne_of_lt lt) (by rw [size_push']; exact Nat.lt_succ_of_lt lt)]
    exact Heap.get?_push_of_some _ q
  · rw [pn.length_eq, List.length_map, Array.length_toList]
    exact hen
end
def tSrtSet (K : PySem.W.Frag) (ta : TE) : TE := fun σ H Q => ta σ H fun x H1 => ∃ (l : Addr) (ns : List Int), x = .ref l ∧ SqL K H1 l (ns.map V.int) ∧ ns.length ≤ 4000 ∧
  ∀ (out : List Int) (p : Addr), out.Pairwise (· < ·) → (∀ k, k ∈ out ↔ k ∈ ns) → H1 p = none → Q (.ref p) (upd H1 p (.lst (out.map V.int)))
theorem pe_srtSet {X : Cx} {a : Expr} {ta : TE} {p p2 q pos : Pos} (hc : X.calm = true) (hg : Gl X "sorted") (hm : X.mg "sorted" = none) (hg2 : Gl X "set") (hm2 : X.mg "set" = none) (ha : PE X a ta)
    (na : starEach [a] X.env = (false, eval a X.env) :: starEach [] X.env := by rfl) : PE X (.Call (.Name "sorted" p) [.Call (.Name "set" p2) [a] [] q] [] pos) (tSrtSet X.K ta) := by
  refine ⟨fun pins s σ H Q I h => ?_⟩
  refine Call_ (ld_blt I hg hm boot_sorted (PyProof.Rows.callWith_builtin1 (PyProof.Rows.args_cons (Call_ (ld_blt I hg2 hm2 boot_set ?_)) rfl) rfl rfl))
  refine PyProof.Rows.callWith_type1 (PyProof.Rows.args_cons (thn (ha.run pins s σ H _ I h) fun v s1 z => PyProof.Rows.args_nil ?_) na) na rfl
  obtain ⟨x, H1, I1, r1, l, ns, rfl, sq, few, k⟩ := z
  cases r1
  obtain ⟨its, r, pl, hz⟩ := I1.list sq
  have isI : IntsAre its.toArray.toList ns := by
    rw [List.toList_toArray]
    exact r.ints
  refine set_of_list ns (I1.ok.hd hc) pl.isList isI (by unfold scanBound; omega) fun h' tk c a1 a2 a3 => PyProof.Rows.args_nil ?_
  have I2 : Inv X pins σ H1 { s1 with heap := h', toks := tk } := I1.kept a3
  refine sorted_setA (s := { s1 with heap := h', toks := tk }) a1 (I1.ok.hd hc) (by omega) fun s' pp out cc ms b1 b2 b3 b4 b5 b6 b7 b8 b9 => ?_
  have hlen : (ms.map V.int).length ≤ sizeLine := by rw [List.length_map, b9]; exact sizeM (by omega)
  have J : Inv X pins σ (upd H1 pp (.lst (ms.map V.int))) { ({ s1 with heap := h', toks := tk } : Shared) with heap := s'.heap, gens := s'.gens, drawn := s'.drawn, toks := s'.toks } :=
    I2.call (ch := []) (Un.laid b1 b4 (I2.hok.fresh b4)) (I2.hok.laid b1 b4 ⟨hlen, out, cc, vals_of_ints b6, b5⟩) (by rw [b2]; exact I2.bare) (fun _ z => nomatch z)
  have e : s' = { ({ s1 with heap := h', toks := tk } : Shared) with heap := s'.heap, gens := s'.gens, drawn := s'.drawn, toks := s'.toks } := by
    cases s'
    cases s1
    cases b3
    rfl
  rw [e]
  exact ⟨.ref pp, _, J, rfl, k ms pp b7 (fun z => by rw [b8 z, decide_eq_true_eq]) (I2.hok.fresh b4)⟩
/-! ### the data -/
def setI : List Int → List Int
  | [] => []
  | n :: ns => if n ∈ ns then setI ns else n :: setI ns
theorem mem_setI {k : Int} : ∀ {ns : List Int}, k ∈ setI ns ↔ k ∈ ns
  | [] => Iff.rfl
  | n :: ns => by
    unfold setI
    split
    · rename_i h
      rw [mem_setI, List.mem_cons]
      exact ⟨.inr, fun z => z.elim (fun e => e ▸ h) id⟩
    · rw [List.mem_cons, List.mem_cons, mem_setI]
theorem setI_nodup : ∀ ns : List Int, (setI ns).Nodup
  | [] => .nil
  | n :: ns => by
    unfold setI
    split
    · exact setI_nodup ns
    · rename_i h
      exact List.nodup_cons.mpr ⟨fun z => h (mem_setI.mp z), setI_nodup ns⟩
def srtSetD (d : Dt) : Option Dt := match d with
  | .lst xs => (intsOf xs).bind fun ns => if ns.length ≤ 4000 then some (.lst ((sortI (setI ns)).map .int)) else none
  | _ => none
theorem srtSet_one {out ns : List Int} (h : out.Pairwise (· < ·)) (hm : ∀ k, k ∈ out ↔ k ∈ ns) : out = sortI (setI ns) :=
  sortI_one ((List.perm_ext_iff_of_nodup (h.imp fun z => Int.ne_of_lt z) (setI_nodup ns)).mpr fun k => by rw [hm, mem_setI]) (h.imp fun z => Int.le_of_lt z)
theorem und_srtSet (K : PySem.W.Frag) : UnD K (fun x H Q => ∃ (l : Addr) (ns : List Int), x = .ref l ∧ SqL K H l (ns.map V.int) ∧ ns.length ≤ 4000 ∧ ∀ (out : List Int) (p : Addr), out.Pairwise (· < ·) → (∀ k, k ∈ out ↔ k ∈ ns) → H p = none → Q (.ref p) (upd H p (.lst (out.map V.int)))) srtSetD := by
  intro x d z H0 H s hx hg Q k
  unfold srtSetD at hg
  split at hg
  · obtain ⟨ns, h, hg⟩ := Option.bind_eq_some_iff.mp hg
    split at hg
    · rename_i hl
      cases hg
      obtain ⟨a, vs, rfl, h1, h2⟩ := hx
      rw [intsOf_eq h] at h2
      rw [h2.ints] at h1
      refine ⟨a, ns, rfl, SqL.of h1, hl, fun out p b1 b2 => ?_⟩
      rw [srtSet_one b1 b2]
      exact al_lst s (daInts _) k p
    · cases hg
  · cases hg
theorem de_srtSet {X : Cx} {W : WX} {a : Expr} {f1 : Rho → R Dt} {p p2 q pos : Pos} (hc : X.calm = true) (hg : Gl X "sorted") (hm : X.mg "sorted" = none) (hg2 : Gl X "set") (hm2 : X.mg "set" = none) (ha : DK X W a f1)
    (na : starEach [a] X.env = (false, eval a X.env) :: starEach [] X.env := by rfl) : DE X W (.Call (.Name "sorted" p) [.Call (.Name "set" p2) [a] [] q] [] pos) (un srtSetD f1) :=
  fun F => PE.wk (pe_srtSet hc hg hm hg2 hm2 (ha F) na) fun _ _ _ h => tUn_un (und_srtSet _) h
end DW
namespace DW
open PySem PySem.Spec PyProof.Rows L2
/-! ### d.get(k, c) -/
def getOr (c : Int) : Dt → Dt → Option Dt
  | .dct kvs, d => (keyD d).map fun k => (getK kvs k).getD (.int c)
  | _, _ => none
def getP (c : Int) (i : Nat) (f2 : Rho → R Dt) : Rho → R Dt := fun ρ => match pk i ρ with
  | some (.dct _) => (f2 ρ).bind fun e ρ2 => match pk i ρ2 with
    | some d => (match getOr c d e with
      | some z => .ok z ρ2
      | none => .bad)
    | none => .bad
  | _ => .bad
section
variable {X : Cx} {W : WX} {e : Expr} {f2 : Rho → R Dt} {p p3 apos cpos : Pos} {i : Nat}
theorem de_get2 {x : Str} {c : Int} {j : Nat} (hu : X.A.units + 1 < cLine) (hv : PE X (.Name x p) (tVar i)) (he : DE X W e f2) (m : M2 X (.Name x p) "get" apos e (.Constant (.int c) j p3) cpos) :
    DE X W (.Call (.Attribute (.Name x p) "get" apos) [e, .Constant (.int c) j p3] [] cpos) (getP c i f2) :=
  fun F => PE.wk (pe_dget2 hu hv (he F) pe_int m) fun σ H Q ⟨H0, ρ, E, q⟩ => by
    unfold getP at q
    cases e1 : pk i ρ with
    | none => rw [e1] at q; exact q.elim
    | some d0 =>
      rw [e1] at q
      obtain ⟨v0, hv0, p0⟩ := pk_at E e1
      refine ⟨v0, hv0, ?_⟩
      cases d0 with
      | dct kvs0 =>
        dsimp only at q
        obtain ⟨a, ks, rfl, h1, h2⟩ := p0
        refine ⟨a, rfl, .inl ⟨_, .inl h1⟩, H0, ρ, E, ?_⟩
        cases e2 : f2 ρ with
        | ok y ρ2 =>
          rw [e2] at q
          dsimp only [R.bind] at q
          intro v H2 B2 E2 m2 d2
          show ∃ o, DGet B2 a v o ∧ Q (o.getD (.int c)) B2
          cases e3 : pk i ρ2 with
          | none => rw [e3] at q; exact q.elim
          | some d =>
            rw [e3] at q
            dsimp only at q
            obtain ⟨v', hv', px⟩ := pk_at E2 e3
            rw [hv0] at hv'
            cases hv'
            cases d with
            | dct kvs =>
              obtain ⟨a', ks', ea, h3, h4⟩ := px
              cases ea
              cases e4 : keyD y with
              | none =>
                have : getOr c (.dct kvs) y = none := by show (keyD y).map _ = none; rw [e4]; rfl
                rw [this] at q
                exact q.elim
              | some k =>
                have : getOr c (.dct kvs) y = some ((getK kvs k).getD (.int c)) := by show (keyD y).map _ = _; rw [e4]; rfl
                rw [this] at q
                dsimp only at q
                refine ⟨valV ks' k, .inl ⟨ks', k, .inl h3, keyD_Va d2 e4, rfl⟩, ?_⟩
                obtain ⟨g1, g2⟩ := h4.get k
                cases e5 : getK kvs k with
                | none =>
                  rw [e5] at q
                  rw [g2 e5]
                  exact q _ H2 B2 E2 m2 (.int c)
                | some z =>
                  rw [e5] at q
                  obtain ⟨vz, e6, dz⟩ := g1 z e5
                  rw [e6]
                  exact q _ H2 B2 E2 m2 dz
            | _ => exact q.elim
        | ex x ρ1 => rw [e2] at q; exact q
        | bad => rw [e2] at q; exact q
      | _ => exact q.elim
end
end DW

set_option Elab.async false
set_option linter.all false
set_option maxRecDepth 100000
set_option maxHeartbeats 4000000
/-! DWX0: an own error whose __init__ says super().__init__(text) and stores one field -/
namespace DWX
open PySem PySem.W PySem.Calls PyProof.Rows PySem.HandSPX
/-! ### the text of __init__ -/
def xA (f : Str) (p1 p2 : Pos) : Arguments := { posonlyargs := [], args := [{ arg := "self", annotation := none, pos := p1 }, { arg := f, annotation := none, pos := p2 }], vararg := none, kwonlyargs := [], kw_defaults := [], kwarg := none, defaults := [] }
def xB (f m : Str) (j : Nat) (q1 q2 q3 q4 q5 q6 r1 r2 r3 r4 : Pos) : List Stmt :=
  [.Expr (.Call (.Attribute (.Call (.Name "super" q1) [] [] q2) "__init__" q3) [.Constant (.str m) j q4] [] q5) q6, .Assign [.Attribute (.Name "self" r1) f r2] (.Name f r3) r4]
def xS (f : Str) : Scope := { kind := .function, names := [(PySem.Str.ofString "self", .local), (f, .local), (PySem.Str.ofString "__class__", .free), (PySem.Str.ofString "super", .globalImplicit)], isGenerator := false, isCoroutine := false, more := [] }
abbrev xSup (q1 q2 : Pos) : Expr := .Call (.Name "super" q1) [] [] q2
/-- the call's places are told: super().__init__(m) runs as a method's call -/
def McOk (m : Str) (j : Nat) (q1 q2 q3 q4 q5 : Pos) : Prop := ∀ env : Env, eval (.Call (.Attribute (xSup q1 q2) "__init__" q3) [.Constant (.str m) j q4] [] q5) env = (do
  let ov ← attributeBase (xSup q1 q2) "__init__" env (eval (xSup q1 q2) env)
  standAt q3.atName
  let (f, first) ← holding [ov] (getMethod ov "__init__" (do return (← importBound (xSup q1 q2) env).getD true))
  callWith q5 f first (backTo q5 (starEach [.Constant (.str m) j q4] env)) [])
example : McOk "x" 0 ⟨22, 8, 22, 13⟩ ⟨22, 8, 22, 15⟩ ⟨22, 8, 22, 24⟩ ⟨22, 25, 22, 56⟩ ⟨22, 8, 22, 57⟩ := fun _ => rfl
/-- the names of the field that the kernel can look through -/
structure FldOk (f : Str) : Prop where
  l : (xS f).names.lookup f = some .local
  s : (xS f).names.lookup ("super" : Str) = some .globalImplicit
  c : (xS f).names.lookup ("__class__" : Str) = some .free
  ne : f ≠ "self"
  db : (f == ("__debug__" : Str)) = false
  bd : ∀ (qual : Str) (p1 p2 : Pos) (bdy : List Stmt) (cl : List (Str × Addr)) (doc pm : Value) (an : Option Addr) (cdv ct a v : Value), bindArgs (fnX "__init__" qual (xA f p1 p2) bdy (xS f) cl .none .none doc pm an cdv ct) ⟨[a, v], []⟩ = pure [(PySem.Str.ofString "self", a), (f, v)]
theorem fld_value : FldOk "value" := ⟨rfl, rfl, rfl, by decide, by decide, by intros; rfl⟩
theorem fld_part : FldOk "part" := ⟨rfl, rfl, rfl, by decide, by decide, by intros; rfl⟩
theorem fld_place : FldOk "place" := ⟨rfl, rfl, rfl, by decide, by decide, by intros; rfl⟩
theorem fld_number : FldOk "number" := ⟨rfl, rfl, rfl, by decide, by decide, by intros; rfl⟩
theorem fld_most : FldOk "most" := ⟨rfl, rfl, rfl, by decide, by decide, by intros; rfl⟩
/-- what the written part says of the class cn, at C, its __init__ at fI -/
structure OwnX (P : Program) (K : Frag) (mg : Str → Option Value) (cn f : Str) (B newId initId : String) (bmB : List Value) (C fI : Addr) : Prop where
  fb : ExcBaseFacts B newId initId bmB
  kf : KxsFacts B initId
  sf : StoreFacts B bmB "object.__setattr__" "object"
  fo : FldOk f
  gC : mg cn = some (.ref C)
  ex : excInitIn K C bmB newId = true
  ov : excOver K C bmB = true
  hd : hasDictIn K C = true
  sa : findIn K (.ref C) "__setattr__" = some (some (.builtin "object.__setattr__"))
  tf : takerIn K C f = some none
  iC : findIn K (.ref C) "__init__" = some (some (.ref fI))
  tI : typeIn K (.ref fI) = some (.type "function")
  kC : keepIn K (.ref C) = true
  bC : subIn K (.ref C) (.type "BaseException") = some true
  sB : subIn K (.ref C) (.type B) = some true
  sC : mroIn K C (.ref C) = some true
  tC : typeIn K (.ref C) = some (.type "type")
  sup : ks_superIn K C C "__init__" = some (some (.builtin initId))
  ms : mg "super" = none
  xf : L2.XfC K C
  no : findIn K (.ref C) f = some none
  op : nsIn K cStatics "thirdparty.any" = some none
  top : (P.main.scope.names.lookup ("super" : Str)).isSome = false
  fn : ∃ (oc : Value) (od : Option Addr) (doc pm : Value) (an : Option Addr) (ct : Value) (osl : Array (Option Value)) (qual m : Str) (j : Nat) (p1 p2 q1 q2 q3 q4 q5 q6 r1 r2 r3 r4 : Pos) (cc cda : Addr) (cl ccl : Value) (cld cdd : Option Addr) (csl ccs : Array (Option Value)) (vs : Array Value) (file : Str) (tf : Tok),
    K.lookup fI = some ⟨oc, od, .func (fnX "__init__" qual (xA f p1 p2) (xB f m j q1 q2 q3 q4 q5 q6 r1 r2 r3 r4) (xS f) [(PySem.Str.ofString "__class__", cc)] .none .none doc pm an (.ref cda) ct), osl⟩ ∧ codeIn K (.ref cda) qual = true ∧
    K.lookup cc = some ⟨cl, cld, .cell (some (.ref C)), csl⟩ ∧ K.lookup cda = some ⟨ccl, cdd, .fields vs, ccs⟩ ∧ vs[2]? = some (.str file tf) ∧ ((P.main.file : Str) == file) = true ∧ McOk m j q1 q2 q3 q4 q5
/-- what __init__ leaves of a new error at x -/
structure InitEnd (h h' : Heap) (x C dx t1 : Addr) (f : Str) (v : Value) : Prop where
  keep : ∀ b o, b ≠ x → h.get? b = some o → h'.get? b = some o
  obj : h'.get? x = some { cls := .ref C, dict := some dx, data := .fields #[.ref t1, .none, .none, .none, .bool false, .none] }
  dbig : h.objs.size ≤ dx
  dne : dx ≠ x
  ns : h'.Ns1 dx (fun y => if y = f then some v else none)
structure Made (h h' : Heap) (e C d : Addr) (f : Str) (v : Value) : Prop where
  keep : ∀ b o, h.get? b = some o → h'.get? b = some o
  new : h.objs.size ≤ e
  obj : ∃ oe vs, h'.get? e = some oe ∧ oe.cls = .ref C ∧ oe.dict = some d ∧ oe.data = .fields vs ∧ vs[1]? = some .none
  dbig : h.objs.size ≤ d
  dne : d ≠ e
  ns : h'.Ns1 d (fun y => if y = f then some v else none)
section
variable {P : Program} {w : World} {A : Around} {E : Value → Shared → Prop} {R : Result → Shared → Prop} {K : Frag} {mg : Str → Option Value} {cn f : Str} {B newId initId : String} {bmB : List Value} {C fI : Addr}
/-- self.f = v, the error without a dict -/
theorem store0 (T : OwnX P K mg cn f B newId initId bmB C fI) {hp : Heap} {g : Array GenState} {d : Drawn} {t : Nat} {os : OsState} {x t1 : Addr} {tk : Tok} {v : Value} (X : K.In hp) (hx : hp.get? x = some (excO C t1))
    (hq : ∀ h' tk' dx, (∀ b o, b ≠ x → hp.get? b = some o → h'.get? b = some o) → hp.objs.size ≤ dx → dx ≠ x → h'.get? x = some { cls := .ref C, dict := some dx, data := .fields #[.ref t1, .none, .none, .none, .bool false, .none] } →
      h'.Ns1 dx (fun y => if y = f then some v else none) → R (.ok (.ret .none)) ⟨h', g, d, tk', os⟩) :
    codeAny (model P w) A (.call (.builtin "object.__setattr__") ⟨[.ref x, .str f tk, v], []⟩) R ⟨hp, g, d, t, os⟩ := by
  have I : InstAt hp x (excO C t1) C none := ⟨hx, rfl, rfl, trivial⟩
  refine osa_openX (s := ⟨hp, g, d, t, os⟩) T.sf X I T.ov T.tf fun b => ?_
  obtain ⟨cd, hc, hd'⟩ := any_some T.hd
  have hcls : Looks (model P w) hp (classData C) cd := looks_clsIn X hc
  have hne : x ≠ hp.objs.size := Nat.ne_of_lt (Heap.lt_size hx)
  have hx1 : (hp.push (dictOf [] 0)).get? x = some (excO C t1) := Heap.get?_push_of_some _ hx
  show wpAny (model P w) _ (Builtin.ObjectAttr.storeInOwnDict (.ref x) (.ref C) (.str f tk) f v b) _ _ _
  refine wpAny_bind (wpAny_pure (wpAny_bind (instanceDict_exc hx hcls hd' ?_)))
  show wpAny _ _ (Builtin.ObjectAttr.storeInDict hp.objs.size (.str f tk) f v) _ _ _
  refine store_in_new ?_ fun h' tk' hn hs => ?_
  · exact ⟨_, #[], _, (Heap.get?_update_ne _ _ _ _ hne.symm).trans (Heap.get?_push_at rfl rfl), rfl, fun e he => absurd he (by simp), fun _ => rfl⟩
  · refine hq h' tk' hp.objs.size (fun b o hb ho => ?_) (Nat.le_refl _) hne.symm ?_ hn
    · exact (hs.2 b (Nat.ne_of_lt (Heap.lt_size ho))).trans ((Heap.get?_update_ne _ _ _ _ hb).trans (Heap.get?_push_of_some _ ho))
    · exact (hs.2 x hne).trans (Heap.get?_update_self _ hx1 rfl)
/-- the bound __init__ of the base, called with a text -/
theorem init_call (T : OwnX P K mg cn f B newId initId bmB C fI) {hp : Heap} {g : Array GenState} {d : Drawn} {t : Nat} {os : OsState} {u x t0 : Addr} {rest : List Value} {Q : Value → Shared → Prop} (X : K.In hp) (hx : hp.get? x = some (excO C t0)) (hu : hp.get? u = some (kxs_mw initId x)) (hz : rest.length ≤ sizeLine)
    (hq : ∀ h' t1, (∀ b o, b ≠ x → hp.get? b = some o → h'.get? b = some o) → h'.get? x = some (excO C t1) → Q .none ⟨h', g, d, t, os⟩) :
    wpAny (model P w) A (call (.ref u) rest) Q E ⟨hp, g, d, t, os⟩ := by
  obtain ⟨nm, N', qn, bs, bm, hdct, sn, sub, ab, col, dd, k0, k1, k2, k3, k5, hC, hT⟩ := excInit_of X T.ex
  refine wpAny_call (codeAny_of_tree ?_)
  show wpAny (model P w) A.in1 (callAny (.ref u) ⟨rest, []⟩) _ _ _
  simp only [callAny]
  refine wpAny_bind (wpAny_load hu ?_)
  have e1 : (Value.type "method-wrapper" == Value.type "method" || Value.type "method-wrapper" == Value.type "builtin_function_or_method" || Value.type "method-wrapper" == Value.type "method-wrapper") = true := by decide
  simp only [kxs_mw, e1, if_true]
  refine KFB.if_so (by decide) ?_
  refine wpAny_bind (check_bound_init T.fb.toExcCallFacts hC hx rfl ?_)
  refine wpAny_bind (wpAny_pure (wpAny_pure ?_))
  refine ⟨plainId_quiet T.fb.init.plain _, codeAny_builtin T.fb.initEntry ?_⟩
  exact exc_init_tree (cls := .ref C) (t0 := t0) (dv := none) (c2 := .none) (c3 := .none) (b4 := .bool false) hx hz fun h' k e _ => hq h' _ k e
theorem one_size (v : Value) : [v].length ≤ sizeLine := by
  rw [sizeLine_eq]
  exact (by decide : 1 ≤ 16777216)
theorem own_init (T : OwnX P K mg cn f B newId initId bmB C fI) {s : Shared} {x t0 : Addr} {v : Value} (X : K.In s.heap) (hlim : s.heap.NoLimit) (G : s.heap.Ns mainGlobals mg) (Bt : ∃ mb, s.heap.Ns builtinsNs mb ∧ ∀ y : Str, y ≠ "__name__" → mb y = bootBuiltins y) (hx : s.heap.get? x = some (excO C t0)) (hnx : K.lookup x = none) (hroom : A.depth < recursionLimit)
    (hq : ∀ h' tk dx t1, InitEnd s.heap h' x C dx t1 f v → R (.ok (.ret .none)) { s with heap := h', toks := tk }) :
    codeAny (model P w) A (.call (.ref fI) ⟨[.ref x, v], []⟩) R s := by
  obtain ⟨oc, od, doc, pm, an, ct, osl, qual, m, j, p1, p2, q1, q2, q3, q4, q5, q6, r1, r2, r3, r4, cc, cda, cl, ccl, cld, cdd, csl, ccs, vs, file, tf, ho, hcd, hcell, hcode, hvs, hfile, hmc⟩ := T.fn
  obtain ⟨cd, hc, hd'⟩ := any_some T.hd
  have hnf : ∀ y ∈ (xS f).names, y.2 ≠ .cell := fun y hy => by
    simp only [xS, List.mem_cons, List.not_mem_nil, or_false] at hy
    rcases hy with rfl | rfl | rfl | rfl <;> exact fun z => nomatch z
  have hloc : ∀ y ∈ [((PySem.Str.ofString "self"), Value.ref x), (f, v)], (xS f).names.lookup y.1 = some .local := fun y hy => by
    simp only [List.mem_cons, List.not_mem_nil, or_false] at hy
    rcases hy with rfl | rfl
    · rfl
    · exact T.fo.l
  refine ks_codeAny_call_defAt (fd := fnX "__init__" qual (xA f p1 p2) (xB f m j q1 q2 q3 q4 q5 q6 r1 r2 r3 r4) (xS f) [(PySem.Str.ofString "__class__", cc)] .none .none doc pm an (.ref cda) ct) (body := xB f m j q1 q2 q3 q4 q5 q6 r1 r2 r3 r4) (binds := [(PySem.Str.ofString "self", .ref x), (f, v)])
    hroom (X _ _ ho) rfl hlim (codeRec_of X hcd) rfl (BindsTo.of_eq (T.fo.bd _ _ _ _ _ _ _ _ _ _ _ _)) hnf hloc (fun h₁ hn k => ?_)
  have X1 : K.In h₁ := X.keeps k
  have hx1 := k _ _ hx
  obtain ⟨oD, hD1, hD2⟩ : ∃ oD, h₁.get? C = some oD ∧ oD.data = .cls cd := by
    unfold clsIn at hc
    split at hc
    · rename_i c d cd' sl hK
      cases hc
      exact ⟨_, X1 _ _ hK, rfl⟩
    · cases hc
  have G1 := G.keeps k
  obtain ⟨mb, b1, b2⟩ := Bt
  have b1' := b1.keeps k
  show _root_.PySem.wpAt (model P w) _ _ (execs (xB f m j q1 q2 q3 q4 q5 q6 r1 r2 r3 r4) _) _ _ _
  refine ks_wpAt_execs_cons (ks_wpAt_Expr_any (ks_wpAt_MethodCall (ks_wpAt_super_base T.fo.s T.fo.c rfl rfl (X1 _ _ ho) rfl rfl rfl (X1 _ _ hcode) rfl hvs hfile T.top ?_) (he := hmc _)))
  refine ks_loadName_global rfl T.fo.s (loadGlobal_builtin G1 T.ms b1' ((b2 _ (by decide)).trans (by rfl)) ⟨rfl, ?_⟩)
  refine wpAny_loadName_free rfl T.fo.c rfl ⟨_, X1 _ _ hcell, rfl⟩ ?_
  have ls : ([(PySem.Str.ofString "self", Value.ref x), (f, v)] : List (Str × Value)).reverse.lookup ("self" : Str) = some (.ref x) := by
    have : ((PySem.Str.ofString "self") == f) = false := by simpa using Ne.symm T.fo.ne
    simp [List.lookup, this]
  have lf : ([(PySem.Str.ofString "self", Value.ref x), (f, v)] : List (Str × Value)).reverse.lookup f = some v := by simp [List.lookup]
  refine wpAny_loadName_local rfl rfl hn (v := .ref x) ls ?_
  refine ks_wpAny_isType_cls hD1 hD2 ⟨rfl, ?_⟩
  refine ks_wpAny_call_super hD1 hD2 hx1 rfl (fun c e => nomatch e) (looks_mroIn X1 T.sC) (fun h2 e2 k2 => ?_)
  -- the bound __init__ of the base
  have X2 : K.In h2 := X1.keeps k2
  have hx2 := k2 _ _ hx1
  have I2 : InstAt h2 x (excO C t0) C none := ⟨hx2, rfl, rfl, trivial⟩
  have hxC : x ≠ C := ks_ne X2 I2 hc
  have hsup := T.sup
  unfold ks_superIn at hsup
  rw [hc] at hsup
  have hmro : Looks (model P w) h2 (mroOf (.ref C)) cd.mro := fun A Q E s k q => wpAny_bind ((looks_clsIn X2 hc) A _ E s k (wpAny_pure q))
  refine kxs_getMethod T.kf e2 (looks_opaque X2 T.op) hmro rfl X2 hsup (I2.type.andThen (looks_subIn X2 T.sB)) hxC rfl ?_
  have k3 : ∀ b o, h2.get? b = some o → (h2.push (kxs_mw initId x)).get? b = some o := fun b o e => Heap.get?_push_of_some _ e
  have hu : (h2.push (kxs_mw initId x)).get? h2.objs.size = some (kxs_mw initId x) := Heap.get?_push_at rfl rfl
  refine kxs_callWith (i := initId) (x := x) rfl ?_
  refine evalArgs_plain (spliced_more (wpAny_Constant_str (spliced_none ?_)))
  refine ⟨hu, init_call T (X2.keeps k3) (k3 _ _ hx2) hu (one_size _) fun h4 t1 k4 hx4 => ?_⟩
  have kA : ∀ b o, b ≠ x → s.heap.get? b = some o → h4.get? b = some o := fun b o hb e => k4 b o hb (k3 b o (k2 b o (k b o e)))
  have hxL : s.heap.objs.size ≠ x := Nat.ne_of_gt (Heap.lt_size hx)
  have hn4 : h4.Ns s.heap.objs.size (fun y => ([(PySem.Str.ofString "self", Value.ref x), (f, v)] : List (Str × Value)).reverse.lookup y) := by
    obtain ⟨oL, es, ep, hL, r⟩ := hn
    exact ⟨oL, es, ep, k4 _ _ hxL (k3 _ _ (k2 _ _ hL)), r⟩
  have X4 : K.In h4 := fun a o e => k4 a o (fun z => by
    rw [z, hnx] at e
    cases e) (k3 a o (X2 a o e))
  show _root_.PySem.wpAt (model P w) _ _ (execs [.Assign [.Attribute (.Name "self" r1) f r2] (.Name f r3) r4] _) _ _ _
  refine ks_wpAt_execs_cons (ks_wpAt_Assign_Attr ?_)
  refine _root_.PySem.wpAt_of_wpAny ?_
  refine wpAny_Name (wpAny_loadName_local rfl T.fo.l hn4 lf ?_) T.fo.db
  refine wpAny_Name (wpAny_loadName_local rfl rfl hn4 ls ?_) rfl
  refine set_plain X4 (ox := excO C t1) (od := none) ⟨hx4, rfl, rfl, trivial⟩ T.sa ?_
  refine store0 T X4 hx4 fun h5 tk5 dx k5 d1 d2 hx5 n5 => ?_
  refine _root_.PySem.wpAt_of_wpAny (wpAny_execs_nil ?_)
  refine hq h5 tk5 dx t1 ⟨fun b o hb e => k5 b o hb (kA b o hb e), hx5, ?_, d2, n5⟩
  exact Nat.le_of_lt (Nat.lt_of_lt_of_le hn4.lt d1)
theorem own_made (T : OwnX P K mg cn f B newId initId bmB C fI) {s : Shared} {v : Value} (X : K.In s.heap) (hlim : s.heap.NoLimit) (G : s.heap.Ns mainGlobals mg) (Bt : ∃ mb, s.heap.Ns builtinsNs mb ∧ ∀ y : Str, y ≠ "__name__" → mb y = bootBuiltins y) (hroom : A.depth + 1 < recursionLimit)
    (hq : ∀ h' tk e d, Made s.heap h' e C d f v → R (.ok (.ret (.ref e))) { s with heap := h', toks := tk }) :
    codeAny (model P w) A (.call (.ref C) ⟨[v], []⟩) R s := by
  obtain ⟨nm, N', qn, bs, bm, hdct, sn, sub, ab, col, dd, k0, k1, k2, k3, k5, hC, hT⟩ := excInit_of X T.ex
  obtain ⟨hp, g, dr, tk, os⟩ := s
  have k : ∀ b o, hp.get? b = some o → ((hp.push (kdv_tup [v])).push (excO C hp.objs.size)).get? b = some o := fun b o e => Heap.get?_push_of_some _ (Heap.get?_push_of_some _ e)
  have hget : ((hp.push (kdv_tup [v])).push (excO C hp.objs.size)).get? (hp.objs.size + 1) = some (excO C hp.objs.size) := by heap_get
  have hnx : K.lookup (hp.objs.size + 1) = none := by
    cases e : K.lookup (hp.objs.size + 1) with
    | none => rfl
    | some o =>
      have z : hp.get? (hp.objs.size + 1) = some o := X _ _ e
      exact absurd (Nat.lt_of_succ_lt (Heap.lt_size z)) (Nat.lt_irrefl _)
  obtain ⟨mb, b1, b2⟩ := Bt
  refine call_own T.fb hT hC (looks_findIn X T.iC) (fun self => bind_fn X self T.tI) (one_size v) ?_
  refine own_init (s := ⟨(hp.push (kdv_tup [v])).push (excO C hp.objs.size), g, dr, tk, os⟩) T (X.keeps k) (hlim.keeps k) (G.keeps k) ⟨mb, b1.keeps k, b2⟩ hget hnx hroom fun h' tk' dx t1 J => ?_
  have old : ∀ b o, hp.get? b = some o → h'.get? b = some o := fun b o e => J.keep b o (Nat.ne_of_lt (Nat.lt_succ_of_lt (Heap.lt_size e))) (k b o e)
  have z : hp.objs.size + 1 + 1 ≤ dx := by
    have q := J.dbig
    first
      | exact q
      | (simpa only [Heap.size_push] using q)
  exact ⟨rfl, hq h' tk' (hp.objs.size + 1) dx ⟨old, Nat.le_succ _, ⟨_, _, J.obj, rfl, rfl, rfl, rfl⟩, Nat.le_trans (by omega : hp.objs.size ≤ hp.objs.size + 1 + 1) z, J.dne, J.ns⟩⟩
end
end DWX
namespace DW
open PySem PySem.Spec PyProof.Rows L2
theorem relO_fld {v : V} {u : Value} (r : RelV v u) (f y : Str) : RelO (List.lookup y [(f, v)]) (if y = f then some u else none) := by
  by_cases h : y = f
  · subst h
    rw [if_pos rfl]
    simp only [List.lookup, beq_self_eq_true]
    exact r
  · have h2 : (y == f) = false := by simpa using h
    rw [if_neg h]
    simp only [List.lookup, h2]
    trivial
section
variable {X : Cx} {cn f : Str} {B newId initId : String} {bmB : List Value} {C fI : Addr}
/-- X(e), an own error with the field f -/
def tMkX (C : Addr) (f : Str) (ta : TA) : L2.St → Hp → XK → Prop := fun σ H Q => ta σ H fun vs H1 => ∃ v, vs = [v] ∧ ∀ d, H1 d = none → Q (.ref C) (some d) (upd H1 d (.xd [(f, v)]))
theorem pmk_x {a : Expr} {ta : TA} {p pos : Pos} {k : Nat} (T : DWX.OwnX X.prog X.K X.mg cn f B newId initId bmB C fI) (hr : Room k X.A) (ha : PA X [a] ta) (hg : Gl X cn)
    (hd : (cn == ("__debug__" : Str)) = false) (he : starEach (a :: []) X.env = (false, eval a X.env) :: starEach [] X.env := by rfl) (hpl : (backTo pos (starEach [] X.env)).any (·.1) = false := by rfl) :
    PMk X (.Call (.Name cn p) [a] [] pos) (tMkX C f ta) := by
  intro pins s σ H Q I h
  refine wpAny_Call_Name_kw (ld_glob I hg T.gC ?_ hd)
  refine PySem.W.callWith_K (h₀ := X.base) I.ok.mod.kin T.kC (thn (ha.run pos pins s σ H _ I h) fun us s1 hh => ?_) he hpl
  obtain ⟨vs, H1, I1, r1, v, ev, q1⟩ := hh
  subst ev
  refine ⟨I1.kIn, ?_⟩
  cases r1 with
  | cons rv rn =>
    rename_i v' us'
    cases rn
    show wpAny _ _ (call (.ref C) [v']) _ _ _
    have hlim := I1.nolimit
    have hG : s1.heap.Ns mainGlobals X.mg := I1.mod.glob.keeps I1.bk
    have hB : ∃ mb, s1.heap.Ns builtinsNs mb ∧ ∀ y : Str, y ≠ "__name__" → mb y = bootBuiltins y := by
      obtain ⟨mb, b1, b2⟩ := I1.mod.blt
      exact ⟨mb, b1.keeps I1.bk, b2⟩
    obtain ⟨hp, g, dr, tk, os⟩ := s1
    refine wpAny_call (DWX.own_made T I1.kIn hlim hG hB (by have := hr.dp; omega) fun h' tk' e d M => ?_)
    show MkP X pins σ Q (.ref e) ⟨h', g, dr, tk', os⟩
    obtain ⟨oe, fv, hoe, hc, hdd, hdat, h1⟩ := M.obj
    obtain ⟨G', g1, g2⟩ := restrict h' fun b => decide (b ≠ e)
    have gk : ∀ b, b ≠ e → G'.get? b = h'.get? b := fun b hb => g1 b (decide_eq_true hb)
    have ge : G'.get? e = none := g2 e (by simp)
    have old : ∀ b o, hp.get? b = some o → G'.get? b = some o := fun b o q => (gk b (Nat.ne_of_lt (Nat.lt_of_lt_of_le (Heap.lt_size q) M.new))).trans (M.keep b o q)
    have ob : ObjOk X.prog X.w (upd H1 d (.xd [(f, v)])) G' d (.xd [(f, v)]) := ⟨_, M.ns.at (fun o q => (gk d M.dne).trans q), fun y => relO_fld rv f y⟩
    have J : Inv X pins σ (upd H1 d (.xd [(f, v)])) ⟨G', g, dr, tk', os⟩ := I1.laid (t' := tk') old M.dbig ob
    refine ⟨e, oe, fv, ⟨G', g, dr, tk', os⟩, _, .ref C, some d, rfl, J, fun b o q => ?_, ge, hoe, ⟨hc, hdd⟩, hdat, h1, ?_, rfl, I1.bare, raises_own T.bC T.tC, q1 d (I1.hok.fresh M.dbig)⟩
    · by_cases hb : b = e
      · have q' : G'.get? b = some o := q
        rw [hb, ge] at q'
        cases q'
      · exact (gk b hb).symm.trans q
    · rw [upd_ne (Ne.symm M.dne)]
      exact I1.hok.fresh M.new
end
end DW

set_option Elab.async false
set_option linter.all false
set_option maxRecDepth 100000
set_option maxHeartbeats 4000000
/-! DWX1: defs that raise, calls of them, raise, try .. except X as n: return n.f -/
namespace DW
open PySem PySem.Spec PyProof.Rows L2
def spX (g : Gx) (fn : Fn) : Sp := fun vs H Q E => ∃ H0 ds, Same H0 H ∧ TbOk g.K H0 H ∧ DaAll g.K H0 vs ds ∧ match fn ds with
  | .ok s => ∀ v H0' H', Gw ⟨H0, H, none⟩ H0' H' → TbOk g.K H0' H' → Same H0' H' → SlR g.K ⟨H0, H, none⟩ H0' H' v s → Q v H'
  | .ex e => ∀ c da H0' H', Gw ⟨H0, H, none⟩ H0' H' → TbOk g.K H0' H' → Same H0' H' → XR g ⟨H0, H, none⟩ H0' H' e c da → E c da H'
  | .bad => False
abbrev wE (E : XK) : WX := fun c d _ H => E c d H
def HasX (P : Program) (w : World) (K : PySem.W.Frag) (mg : Str → Option Value) (base : Heap) (x : Str) (ps : List Str) (fn : Fn) (k : Nat) : Prop :=
  ∃ f fd, mg x = some (.ref f) ∧ PySem.W.keepIn K (.ref f) = true ∧ Binds K fd ps [] ∧ FnG P w K mg base (L2.CX P w) k f fd ps (spX ⟨K, mg⟩ fn)
section
variable {P : Program} {w : World} {K : PySem.W.Frag} {mg : Str → Option Value} {base : Heap}
theorem fnDX {x qual : Str} {params : Arguments} {bd : List Stmt} {scope : Scope} {f : Addr} {fd : FuncData} {N ps : List Str} {k : Nat} {body : Rho → SR} (F : FunD K x qual params bd scope [] [] f fd) (S : FnScope N ps scope) (hN : ps.length ≤ N.length)
    (hb : ∀ (cdv : Value) (A : Around) (outer : List Env) (s : Shared) (H : Hp) (E : XK), Room k (A.deeper (envOfC qual scope s.heap.objs.size f cdv)) → Quiet (A.deeper (envOfC qual scope s.heap.objs.size f cdv)) →
      Takes (cxOf (L2.CX P w) P w K mg base N qual scope f cdv A outer s H E) (wE E) → PassesOwn (model P w) (cxOf (L2.CX P w) P w K mg base N qual scope f cdv A outer s H E).A (cxOf (L2.CX P w) P w K mg base N qual scope f cdv A outer s H E).env (cxOf (L2.CX P w) P w K mg base N qual scope f cdv A outer s H E).xe →
      DSs (cxOf (L2.CX P w) P w K mg base N qual scope f cdv A outer s H E) (wE E) bd body) :
    FnG P w K mg base (L2.CX P w) (k + 1) f fd ps (spX ⟨K, mg⟩ (runF ps.length N.length body)) := by
  have lem : ∀ ds : List Dt, runF ps.length N.length body ds ≠ .bad → ds.length = ps.length := fun ds h => by
    unfold runF at h
    split at h
    · assumption
    · exact absurd rfl h
  have lem2 : ∀ {vs : List V} {H : Hp} {Q : VK} {E : XK} {H0 : Hp} {ds : List Dt}, (match runF ps.length N.length body ds with
      | .ok s => ∀ v H0' H', Gw ⟨H0, H, none⟩ H0' H' → TbOk K H0' H' → Same H0' H' → SlR K ⟨H0, H, none⟩ H0' H' v s → Q v H'
      | .ex e => ∀ c da H0' H', Gw ⟨H0, H, none⟩ H0' H' → TbOk K H0' H' → Same H0' H' → XR ⟨K, mg⟩ ⟨H0, H, none⟩ H0' H' e c da → E c da H'
      | .bad => False) → ds.length = ps.length := fun {vs H Q E H0 ds} h => by
    refine lem ds fun z => ?_
    rw [z] at h
    exact h
  refine fnG F S (fun vs H Q E h => ?_) (fun cdv A outer s H vs Q E hr hq _ h => ?_)
  · obtain ⟨H0, ds, h1, tb, h2, h3⟩ := h
    rw [h2.length]
    exact lem2 (vs := vs) h3
  · obtain ⟨H0, ds, h1, tb, h2, h3⟩ := h
    have hl : ds.length = ps.length := lem2 (vs := vs) h3
    refine ⟨_, hb cdv A outer s H E hr hq (takes_of rfl rfl rfl rfl) (passes_of rfl) ⟨H0, H, none⟩, H0, envOf N.length ds, en_start h1 tb h2 (by omega), ?_⟩
    unfold runF at h3
    rw [if_pos hl] at h3
    cases e : body (envOf N.length ds) with
    | nx ρ' =>
      rw [e] at h3
      exact fun σ' H0' H' E' _ => h3 _ H0' H' E'.gr E'.tb E'.ex (Da.non : Da K H0' .non .non)
    | rt s ρ' =>
      rw [e] at h3
      exact fun v σ' H0' H' E' hs => h3 _ H0' H' E'.gr E'.tb E'.ex hs
    | bk _ => rw [e] at h3; exact h3.elim
    | ct _ => rw [e] at h3; exact h3.elim
    | ex x ρ' =>
      rw [e] at h3
      exact fun σ' c da H0' H' xr E' => h3 c da H0' H' E'.gr E'.tb E'.ex xr
    | bad => rw [e] at h3; exact h3.elim
theorem hasX {x : Str} {st : Stmt} {N ps : List Str} {k : Nat} {body : Rho → SR} (D : IsDef K mg x st) (S : FnScope N ps (defScope st)) (hN : ps.length ≤ N.length)
    (hbi : ∀ (kV doc pm : Value) (an : Option Addr) (cdv ct : Value) (us : List Value), us.length = ps.length → bindArgs (PySem.W.fnOf x x (defArgs st) (defBody st) (defScope st) .none kV doc pm an cdv ct) ⟨us, []⟩ = pure (ps.zip us))
    (hb : ∀ (f : Addr) (cdv : Value) (A : Around) (outer : List Env) (s : Shared) (H : Hp) (E : XK), Room k (A.deeper (envOfC x (defScope st) s.heap.objs.size f cdv)) → Quiet (A.deeper (envOfC x (defScope st) s.heap.objs.size f cdv)) →
      Takes (cxOf (L2.CX P w) P w K mg base N x (defScope st) f cdv A outer s H E) (wE E) → PassesOwn (model P w) (cxOf (L2.CX P w) P w K mg base N x (defScope st) f cdv A outer s H E).A (cxOf (L2.CX P w) P w K mg base N x (defScope st) f cdv A outer s H E).env (cxOf (L2.CX P w) P w K mg base N x (defScope st) f cdv A outer s H E).xe →
      DSs (cxOf (L2.CX P w) P w K mg base N x (defScope st) f cdv A outer s H E) (wE E) (defBody st) body) :
    HasX P w K mg base x ps (runF ps.length N.length body) (k + 1) := by
  obtain ⟨f, fd, F, hm⟩ := D
  exact ⟨f, fd, hm, F.kp, F.bindsN hbi, fnDX F S hN (hb f)⟩
end
/-! ### calls of such -/
def callX (fn : Fn) (fa : Rho → R (List Dt)) : Rho → R Dt := fun ρ => (fa ρ).bind fun ds ρ1 => match fn ds with
  | .ok (.fr d) => .ok d ρ1
  | .ex e => .ex e ρ1
  | _ => .bad
section
variable {X : Cx} {CX : CXT} {k : Nat} {f : Addr} {fd : FuncData} {ps : List Str} {sp : Sp} {E : L2.St → XK} {x : Str} {p pos : Pos} {e : Expr} {es : List Expr} {t : TA}
theorem runGS {pins : List (Addr × Obj)} {σ : L2.St} {H : Hp} {s : Shared} {Q : VK} {us : List Value} {vs : List V} (G : FnG X.prog X.w X.K X.mg X.base CX k f fd ps sp) (room : Room k X.A) (quiet : Quiet X.A) (bind : Binds X.K fd ps []) (hx : PassesAt CX X σ (E σ))
    (J : Inv X pins σ H s) (rel : Vals vs us) (h : sp vs H Q (E σ)) : wpAny (model X.prog X.w) X.A (call (.ref f) us) (EP X pins σ Q) X.xe s := by
  have hl : (us ++ []).length = ps.length := by rw [List.append_nil, ← rel.length]; exact G.len _ _ _ _ h
  have hb : BindsTo s fd ⟨us, []⟩ (ps.zip us) := by
    have := bind s us J.kIn hl
    rwa [List.append_nil] at this
  refine wpAny_call (codeAny_mono (G.run X.A X.stack s H ⟨us, []⟩ us vs Q (E σ) room quiet J.env0 hb rel h) fun res s' hq => ?_)
  match res, hq with
  | .error err, hq => exact hx pins H s err s' J hq
  | .ok (.ret u), hq => exact J.after hq
  | .ok .next, hq => exact False.elim hq
  | .ok .brk, hq => exact False.elim hq
  | .ok .cont, hq => exact False.elim hq
theorem pe_callGS (G : FnG X.prog X.w X.K X.mg X.base CX k f fd ps sp) (room : Room k X.A) (quiet : Quiet X.A) (hgl : Gl X x) (hmg : X.mg x = some (.ref f)) (keep : PySem.W.keepIn X.K (.ref f) = true) (bind : Binds X.K fd ps []) (hx : ∀ σ, PassesAt CX X σ (E σ))
    (args : PA X (e :: es) t) (hdb : (x == ("__debug__" : Str)) = false) (he : starEach (e :: es) X.env = (false, eval e X.env) :: starEach es X.env) (hpl : (backTo pos (starEach es X.env)).any (·.1) = false) :
    PE X (.Call (.Name x p) (e :: es) [] pos) (tCallS sp E t) :=
  ⟨fun pins s σ H Q J h => wpAny_Call_Name_kw (ld_glob J hgl hmg (PySem.W.callWith_K (h₀ := X.base) J.ok.mod.kin keep (thn (args.run pos pins s σ H _ J h) fun us s1 z => by
    obtain ⟨vs, H1, J1, rel, q⟩ := z
    exact ⟨J1.kIn, runGS G room quiet bind (hx σ) J1 rel q⟩) he hpl) hdb)⟩
end
section
variable {g : Gx} {F : Fm} {W : WX} {σ : L2.St} {H : Hp} {Q : VK}
theorem tCallX_of {fn : Fn} {fa : Rho → R (List Dt)} (h : tD g F W (callX fn fa) σ H Q) : tCallS (spX g fn) (WE W) (tDA g F W fa) σ H Q := by
  obtain ⟨H0, ρ, E, q⟩ := h
  refine ⟨H0, ρ, E, ?_⟩
  unfold callX at q
  cases e : fa ρ with
  | ok ds ρ1 =>
    rw [e] at q
    dsimp only [R.bind] at q
    intro vs H0' H' E' m hd
    refine ⟨H0', ds, E'.ex, E'.tb, hd, ?_⟩
    cases e2 : fn ds with
    | ok s =>
      rw [e2] at q
      cases s with
      | fr d =>
        intro v C0 C gr tt s2 hv
        obtain ⟨E3, m3⟩ := E'.postW m gr tt s2
        exact q v C0 C E3 m3 hv
      | _ => exact q.elim
    | ex x =>
      rw [e2] at q
      intro c da C0 C gr tt s2 xr
      obtain ⟨E3, m3⟩ := E'.postW m gr tt s2
      obtain ⟨p, v, x1, x2, x3, x4⟩ := xr
      exact q c da C0 C ⟨p, v, x1, x2, Classical.byContradiction fun z => E'.gr.st p z x3, x4⟩ E3
    | bad => rw [e2] at q; exact q.elim
  | ex x ρ1 =>
    rw [e] at q
    exact q
  | bad => rw [e] at q; exact q.elim
end
section
variable {X : Cx} {W : WX} {e : Expr} {es : List Expr} {pos p p2 : Pos} {fa : Rho → R (List Dt)} {k j : Nat} {ps : List Str} {x : Str}
theorem de_hX {fn : Fn} (h : HasX X.prog X.w X.K X.mg X.base x ps fn j) (tk : Takes X W) (hr : Room k X.A) (hq : Quiet X.A) (hjk : j ≤ k) (hg : Gl X x)
    (ha : DA X W (e :: es) fa) (hdb : (x == ("__debug__" : Str)) = false := by decide) (he : starEach (e :: es) X.env = (false, eval e X.env) :: starEach es X.env := by rfl) (hpl : (backTo pos (starEach es X.env)).any (·.1) = false := by rfl) :
    DE X W (.Call (.Name x p) (e :: es) [] pos) (callX fn fa) := by
  obtain ⟨f, fd, hm, hk, hb, G⟩ := h
  exact fun F => PE.wk (pe_callGS G (hr.mono hjk) hq hg hm hk hb (fun σ => passAt tk σ) (ha F) hdb he hpl) fun _ _ _ h => tCallX_of h
end
/-! ### raise -/
def raiseS (cls fld : Str) (f1 : Rho → R Dt) : Rho → SR := fun ρ => (f1 ρ).bindS fun d ρ1 => .ex ⟨cls, fld, d⟩ ρ1
section
variable {X : Cx} {W : WX} {cn f : Str} {B newId initId : String} {bmB : List Value} {C fI : Addr} {e : Expr} {f1 : Rho → R Dt} {p pos pos2 : Pos} {k : Nat}
theorem ds_raise (T : DWX.OwnX X.prog X.K X.mg cn f B newId initId bmB C fI) (hr : Room k X.A) (hc : X.calm = true) (tk : Takes X W) (hg : Gl X cn) (ha : DE X W e f1)
    (hd : (cn == ("__debug__" : Str)) = false := by decide) (he : starEach (e :: []) X.env = (false, eval e X.env) :: starEach [] X.env := by rfl) (hpl : (backTo pos (starEach [] X.env)).any (·.1) = false := by rfl) :
    DS X W (.Raise (some (.Call (.Name cn p) [e] [] pos)) none pos2) (raiseS cn f f1) := fun F =>
  PS.wk (ps_raise hc tk (pmk_x T hr (pa_cons (ha F) pa_nil he) hg hd he hpl)) fun D σ H h => by
    obtain ⟨H0, ρ, E, q⟩ := h
    refine ⟨H0, ρ, E, ?_⟩
    unfold raiseS at q
    cases e1 : f1 ρ with
    | ok d ρ1 =>
      rw [e1] at q
      intro v H0' H' E' m hv
      exact ⟨v, rfl, fun dx hdx => q σ (.ref C) (some dx) H0' (upd H' dx (.xd [(f, v)])) ⟨dx, v, T.gC, rfl, Classical.byContradiction fun z => E'.gr.st dx z hdx, upd_same, hv⟩ (E'.grow (gr_newO hdx) (same_newO hdx E'.ex))⟩
    | ex x ρ1 =>
      rw [e1] at q
      exact q σ
    | bad => rw [e1] at q; exact q.elim
end
end DW

set_option Elab.async false
set_option linter.all false
set_option maxRecDepth 100000
set_option maxHeartbeats 4000000
/-! DWX2: try: .. except X as n: return n.f -/
namespace DW
open PySem PySem.Spec PyProof.Rows L2
/-- body; what each error's class is to the clause; what the suite returns of an error -/
def tryR (i : Nat) (fb : Rho → SR) (mt : Str → Option Bool) (su : Xc → Option Dt) : Rho → SR := fun ρ => match fb ρ with
  | .ex e ρ1 => match mt e.cls with
    | some true => match su e with
      | some d => if i < ρ1.length then .rt (.fr d) ρ1 else .bad
      | none => .bad
    | some false => .ex e ρ1
    | none => .bad
  | r => r
/-- the field of an error of just one class -/
def fldOf (cn f : Str) (e : Xc) : Option Dt := if e.cls = cn ∧ e.fld = f then some e.val else none
/-- the clause's class is at c -/
def MtOk (K : PySem.W.Frag) (mg : Str → Option Value) (mt : Str → Option Bool) (c : Value) : Prop := ∀ cn b, mt cn = some b → ∀ cv, mg cn = some cv → PySem.W.exmOne K cv c = some b
def mtL (l : List (Str × Bool)) (s : Str) : Option Bool := l.lookup s
theorem mt_nil {K : PySem.W.Frag} {mg : Str → Option Value} {c : Value} : MtOk K mg (mtL []) c := fun cn b h => by
  unfold mtL at h
  cases h
theorem mt_cons {K : PySem.W.Frag} {mg : Str → Option Value} {c : Value} {l : List (Str × Bool)} {cn : Str} {b : Bool} {a : Addr} (hg : mg cn = some (.ref a)) (he : PySem.W.exmOne K (.ref a) c = some b) (h : MtOk K mg (mtL l) c) : MtOk K mg (mtL ((cn, b) :: l)) c := fun y b' hy cv hcv => by
  unfold mtL at hy
  rw [List.lookup_cons] at hy
  split at hy
  · rename_i e
    have e2 : y = cn := by simpa using e
    subst e2
    rw [hg] at hcv
    cases hcv
    cases hy
    exact he
  · exact h y b' hy cv hcv
section
variable {X : Cx} {W : WX} {cn f n : Str} {B newId initId : String} {bmB : List Value} {C fI : Addr} {body : List Stmt} {fb : Rho → SR} {p1 p2 p3 p4 p5 p6 : Pos} {mt : Str → Option Bool}
theorem ds_tryF (i : Nat) (T : DWX.OwnX X.prog X.K X.mg cn f B newId initId bmB C fI) (hm : MtOk X.K X.mg mt (.ref C)) (hs : X.stack = X.env :: X.outer) (hf : X.env.frame = some X.env.locals) (hN : X.N.Nodup) (hi : X.N[i]? = some n) (hln : X.env.kindOf n = some .local) (hg : Gl X cn) (tk : Takes X W)
    (hb : ∀ (W' : WX) (pn : List (Addr × Obj)) (xe : Value → Shared → Prop), Takes (X.tr pn xe) W' → PassesOwn (model X.prog X.w) X.A X.env xe → DSs (X.tr pn xe) W' body fb)
    (hd : (cn == ("__debug__" : Str)) = false := by decide) (hv : ∀ a oe pn, PE (X.suite a ((a, oe) :: pn)) (.Name n p3) (tVar i) := by exact fun _ _ _ => pv _) (hab : attributeBase (.Name n p3) f X.env (eval (.Name n p3) X.env) = eval (.Name n p3) X.env := by rfl) :
    DS X W (.Try body [.ExceptHandler (some (.Name cn p1)) (some n) [.Return (some (.Attribute (.Name n p3) f p4)) p5] p2] [] [] p6) (tryR i fb mt (fldOf cn f)) := fun F =>
  PS.wk (ps_try_as (i := i) (tb := fun W' => tS (gx X) F W' fb) (ts := fun a cls d => tRet (tXf a cls d C f (tVar i))) (Wout := W) hs hf hN hi hln ⟨hg, hd, .inl T.gC⟩ tk
      (fun W' pn xe tk' po => hb W' pn xe tk' po F) (fun a oe cls d pn hz hf' => pss_one (ps_ret (pe_xf T.xf T.no hz hf' (hv a oe pn) hab)))) fun D σ H h => by
    obtain ⟨H0, ρ, E, q⟩ := h
    refine ⟨H0, ρ, E, ?_⟩
    unfold tryR at q
    cases e1 : fb ρ with
    | nx ρ1 => rw [e1] at q; exact q
    | rt s ρ1 => rw [e1] at q; exact q
    | bk ρ1 => rw [e1] at q; exact q
    | ct ρ1 => rw [e1] at q; exact q
    | bad => rw [e1] at q; exact q
    | ex e ρ1 =>
      rw [e1] at q
      dsimp only at q
      intro σ' cv da H0' H' xr E'
      cases e2 : mt e.cls with
      | none => rw [e2] at q; exact q.elim
      | some b =>
        rw [e2] at q
        obtain ⟨dd, v, g1, g2, g0, g3, g4⟩ := xr
        refine ⟨b, hm _ _ e2 _ g1, fun hbt a ha => ?_, fun hbf => ?_⟩
        · subst hbt
          dsimp only at q
          unfold fldOf at q
          by_cases hc : e.cls = cn ∧ e.fld = f
          · rw [if_pos hc] at q
            have hcv : cv = .ref C := by
              rw [hc.1] at g1
              exact Option.some.inj (g1.symm.trans T.gC)
            dsimp only at q
            by_cases hi1 : i < ρ1.length
            rotate_left
            · rw [if_neg hi1] at q
              exact q.elim
            rw [if_pos hi1] at q
            have hl : i < σ'.length := by rw [E'.len]; exact hi1
            refine ⟨.ref a, by rw [List.getElem?_set_self hl], rfl, hcv, dd, [(e.fld, v)], v, g2, g3, by rw [hc.2]; simp [List.lookup], ?_⟩
            exact q v σ' H0' H' E' g4
          · rw [if_neg hc] at q
            exact q.elim
        · subst hbf
          exact q σ' cv da H0' H' ⟨dd, v, g1, g2, g0, g3, g4⟩ E'
end
end DW

set_option Elab.async false
set_option linter.all false
set_option maxRecDepth 100000
set_option maxHeartbeats 4000000
/-! DWX3: the facts of own error classes, told by the head -/
namespace DWX
open PySem PySem.W PySem.Calls PyProof.Rows L2 He
/-- an error class: its name, its field, the text of its __init__, the base above it -/
structure XD where
  cn : Str
  fld : Str
  st : Stmt
  B : String
  newId : String
  initId : String
  bmB : List Value
abbrev FnE : Type := Option (Str × Str × Arguments × FuncBody × Scope × Addr × List Str × Addr)
def initAt (K : Frag) (cn : Str) : Addr := ma K (ga K cn) "__init__"
def fnE (K : Frag) (a : Addr) : FnE := match K.lookup a with
  | some ⟨_, _, .func fd, _⟩ => some (fd.name, fd.qualname, fd.params, fd.body, fd.scope, fd.globals, fd.closure.map (·.1), fd.builtins)
  | _ => none
def XD.val (d : XD) : FnE := some ("__init__", d.cn ++ ".__init__", defArgs d.st, .stmts (defBody d.st), defScope d.st, mainGlobals, [PySem.Str.ofString "__class__"], builtinsNs)
def cellB (K : Frag) (C : Addr) : List (Str × Addr) → Bool
  | [(_, cc)] => (match K.lookup cc with
    | some ⟨_, _, .cell (some (.ref D)), _⟩ => decide (D = C)
    | _ => false)
  | _ => false
def fileB (K : Frag) (file : Str) : Value → Bool
  | .ref c => (match K.lookup c with
    | some ⟨_, _, .fields vs, _⟩ => (match (vs[2]? : Option Value) with
      | some (.str z _) => file == z
      | _ => false)
    | _ => false)
  | _ => false
def iniB (K : Frag) (file qual : Str) (C a : Addr) : Bool := match K.lookup a with
  | some ⟨_, _, .func fd, _⟩ => decide (fd.defaults = .none) && (decide (fd.kwdefaults = .none) && (codeIn K fd.code qual && (cellB K C fd.closure && fileB K file fd.code)))
  | _ => false
def XD.ok (file : Str) (K : Frag) (d : XD) : Bool :=
  eqO (nsIn K mainGlobals d.cn) (some (some (.ref (ga K d.cn)))) && (excInitIn K (ga K d.cn) d.bmB d.newId && (excOver K (ga K d.cn) d.bmB && (hasDictIn K (ga K d.cn) &&
  (eqO (findIn K (.ref (ga K d.cn)) "__setattr__") (some (some (.builtin "object.__setattr__"))) && (eqO (takerIn K (ga K d.cn) d.fld) (some none) && (eqO (findIn K (.ref (ga K d.cn)) d.fld) (some none) &&
  (eqO (findIn K (.ref (ga K d.cn)) "__init__") (some (some (.ref (initAt K d.cn)))) && (decide (typeIn K (.ref (initAt K d.cn)) = some (.type "function")) && (keepIn K (.ref (ga K d.cn)) &&
  (decide (subIn K (.ref (ga K d.cn)) (.type "BaseException") = some true) && (decide (subIn K (.ref (ga K d.cn)) (.type d.B) = some true) && (decide (mroIn K (ga K d.cn) (.ref (ga K d.cn)) = some true) &&
  (decide (typeIn K (.ref (ga K d.cn)) = some (.type "type")) && (eqO (ks_superIn K (ga K d.cn) (ga K d.cn) "__init__") (some (some (.builtin d.initId))) && (eqO (nsIn K mainGlobals "super") (some none) &&
  (eqO (nsIn K cStatics "thirdparty.any") (some none) && (xfB K (ga K d.cn) && iniB K file (d.cn ++ ".__init__") (ga K d.cn) (initAt K d.cn))))))))))))))))))
def TxtOk (st : Stmt) (f : Str) : Prop := ∃ (m : Str) (j : Nat) (p1 p2 q1 q2 q3 q4 q5 q6 r1 r2 r3 r4 : Pos), defArgs st = xA f p1 p2 ∧ defBody st = xB f m j q1 q2 q3 q4 q5 q6 r1 r2 r3 r4 ∧ defScope st = xS f ∧ McOk m j q1 q2 q3 q4 q5
theorem cellB_ok {K : Frag} {C : Addr} {cl : List (Str × Addr)} (h : cellB K C cl = true) : ∃ y cc cv cd cs, cl = [(y, cc)] ∧ K.lookup cc = some ⟨cv, cd, .cell (some (.ref C)), cs⟩ := by
  unfold cellB at h
  split at h
  · rename_i y cc
    split at h
    · rename_i a b D c e
      rw [of_decide_eq_true h] at e
      exact ⟨y, cc, _, _, _, rfl, e⟩
    · cases h
  · cases h
theorem fileB_ok {K : Frag} {file : Str} {v : Value} (h : fileB K file v = true) : ∃ c cv cd vs cs z t, v = .ref c ∧ K.lookup c = some ⟨cv, cd, .fields vs, cs⟩ ∧ vs[2]? = some (.str z t) ∧ (file == z) = true := by
  unfold fileB at h
  split at h
  · rename_i c
    split at h
    · rename_i a b vs d e
      split at h
      · rename_i z t e2
        exact ⟨c, _, _, _, _, z, t, rfl, e, e2, h⟩
      · cases h
    · cases h
  · cases h
theorem XD.own {P : Program} {K : Frag} {h : Heap} {mg : Str → Option Value} {d : XD} {file : Str} (X : K.In h) (G : h.Ns mainGlobals mg) (hok : d.ok file K = true) (hfn : fnE K (initAt K d.cn) = d.val) (tx : TxtOk d.st d.fld)
    (fb : ExcBaseFacts d.B d.newId d.initId d.bmB) (kf : KxsFacts d.B d.initId) (sf : StoreFacts d.B d.bmB "object.__setattr__" "object") (fo : FldOk d.fld) (hfile : (P.main.file : Str) = file) (top : (P.main.scope.names.lookup ("super" : Str)).isSome = false) :
    OwnX P K mg d.cn d.fld d.B d.newId d.initId d.bmB (ga K d.cn) (initAt K d.cn) := by
  unfold XD.ok at hok
  obtain ⟨h1, hok⟩ := ba hok
  obtain ⟨h2, hok⟩ := ba hok
  obtain ⟨h3, hok⟩ := ba hok
  obtain ⟨h4, hok⟩ := ba hok
  obtain ⟨h5, hok⟩ := ba hok
  obtain ⟨h6, hok⟩ := ba hok
  obtain ⟨h7, hok⟩ := ba hok
  obtain ⟨h8, hok⟩ := ba hok
  obtain ⟨h9, hok⟩ := ba hok
  obtain ⟨h10, hok⟩ := ba hok
  obtain ⟨h11, hok⟩ := ba hok
  obtain ⟨h12, hok⟩ := ba hok
  obtain ⟨h13, hok⟩ := ba hok
  obtain ⟨h14, hok⟩ := ba hok
  obtain ⟨h15, hok⟩ := ba hok
  obtain ⟨h16, hok⟩ := ba hok
  obtain ⟨h17, hok⟩ := ba hok
  obtain ⟨h18, h19⟩ := ba hok
  obtain ⟨m, j, p1, p2, q1, q2, q3, q4, q5, q6, r1, r2, r3, r4, t1, t2, t3, t4⟩ := tx
  refine ⟨fb, kf, sf, fo, mg_of X G (eqO_ok h1), h2, h3, h4, eqO_ok h5, eqO_ok h6, eqO_ok h8, of_decide_eq_true h9, h10, of_decide_eq_true h11, of_decide_eq_true h12, of_decide_eq_true h13, of_decide_eq_true h14, eqO_ok h15, mg_none_of X G (eqO_ok h16), xfB_ok h18, eqO_ok h7, eqO_ok h17, top, ?_⟩
  unfold iniB at h19
  unfold fnE XD.val at hfn
  cases e : K.lookup (initAt K d.cn) with
  | none =>
    rw [e] at hfn
    cases hfn
  | some o =>
    obtain ⟨oc, od, dt, osl⟩ := o
    rw [e] at hfn h19
    cases dt with
    | func fd =>
      obtain ⟨g1, g2⟩ := ba h19
      obtain ⟨g3, g4⟩ := ba g2
      obtain ⟨g5, g6⟩ := ba g4
      obtain ⟨g7, g8⟩ := ba g6
      obtain ⟨y, cc, cv, cdx, cs, c1, c2⟩ := cellB_ok g7
      obtain ⟨c, cv2, cd2, vs, cs2, z, t, f1, f2, f3, f4⟩ := fileB_ok g8
      have k1 := of_decide_eq_true g1
      have k2 := of_decide_eq_true g3
      obtain ⟨nm, qn, params, body, scope, gl, clo, dv, kv, doc, pm, an, code, ct, bl⟩ := fd
      dsimp only at k1 k2 c1 f1 g5 hfn
      subst k1 k2 c1 f1
      injection hfn with hfn
      simp only [Prod.mk.injEq, List.map_cons, List.map_nil, List.cons.injEq, and_true] at hfn
      obtain ⟨rfl, rfl, rfl, rfl, rfl, rfl, rfl, rfl⟩ := hfn
      rw [t1, t2, t3]
      exact ⟨oc, od, doc, pm, an, ct, osl, _, m, j, p1, p2, q1, q2, q3, q4, q5, q6, r1, r2, r3, r4, cc, c, cv, cv2, cdx, cd2, cs, cs2, vs, z, t, rfl, g5, c2, f2, f3, by rw [hfile]; exact f4, t4⟩
    | _ => cases h19
/-! ### the Hook: what the names of the module reach, and the statics -/
/-- those that are not yet among the bits of m -/
def visB : List Addr → Nat → List Addr → Nat × List Addr
  | [], m, out => (m, out)
  | a :: as, m, out => match Nat.beq (Nat.land (Nat.shiftRight m a) 1) 1 with
    | true => visB as m out
    | false => visB as (Nat.lor m (Nat.shiftLeft 1 a)) (a :: out)
def refB (g : Addr → Option Obj) (a : Addr) : List Addr := match g a with
  | some o => refsD o
  | none => []
def asB (g : Addr → Option Obj) : Nat → Nat → List Addr → List Addr → List Addr
  | 0, _, _, all => all
  | n + 1, m, fr, all => match visB (fr.flatMap (refB g)) m [] with
    | (m', new) => asB g n m' new (new ++ all)
def asE (g : Addr → Option Obj) (n : Nat) : List Addr := sysModules :: cStatics :: asB g n (Nat.shiftLeft 1 mainGlobals) [mainGlobals] [mainGlobals]
abbrev frE (g : Addr → Option Obj) (n : Nat) : Frag := frT g (asE g n)
abbrev AlE : Type := (AlT × Bool) × List FnE
def obsE (n : Nat) (fa : List Fa) (fn : List DefD) (ts : List Tab) (tf : List Defn) (file : Str) (xs : List XD) (ex : Frag → Bool) (g : Addr → Option Obj) : AlE :=
  ((obsT fa fn ts (frE g n), xs.all (XD.ok file (frE g n)) && (tabsB g tf (frE g n) && ex (frE g n))), xs.map fun d => fnE (frE g n) (initAt (frE g n) d.cn))
def valE (fn : List DefD) (ts : List Tab) (xs : List XD) (w : World) : AlE := ((valT fn ts w, true), xs.map XD.val)
structure SaysE (fa : List Fa) (fn : List DefD) (ts : List Tab) (tf : List Defn) (file : Str) (xs : List XD) (ex : Frag → Bool) (w : World) (h : Heap) (K : Frag) : Prop where
  t : SaysT fa fn ts w K
  ok : ∀ d ∈ xs, d.ok file K = true
  txt : ∀ d ∈ xs, fnE K (initAt K d.cn) = d.val
  hd : ∀ p ∈ tf, codeHdIn K (cT K p).1 (cT K p).2 = true
  out : ∀ p ∈ tf, K.lookup (cT K p).2 = none
  empty : ∀ p ∈ tf, h.get? (cT K p).2 = some { cls := .none, data := .fields #[] }
  ex : ex K = true
theorem map_all {α β : Type} {f g : α → β} : ∀ {l : List α}, l.map f = l.map g → ∀ x ∈ l, f x = g x
  | [], _, _, h => nomatch h
  | a :: l, e, x, h => by
    injection e with e1 e2
    cases h with
    | head => exact e1
    | tail _ h => exact map_all e2 x h
theorem saysE_of {n : Nat} {fa : List Fa} {fn : List DefD} {ts : List Tab} {tf : List Defn} {file : Str} {xs : List XD} {ex : Frag → Bool} {w : World} {h : Heap} (e : obsE n fa fn ts tf file xs ex h.get? = valE fn ts xs w) : SaysE fa fn ts tf file xs ex w h (frE h.get? n) := by
  have e1 : obsT fa fn ts (frE h.get? n) = valT fn ts w := congrArg (fun z : AlE => z.1.1) e
  have e2 : (xs.all (XD.ok file (frE h.get? n)) && (tabsB h.get? tf (frE h.get? n) && ex (frE h.get? n))) = true := congrArg (fun z : AlE => z.1.2) e
  have e3 : (xs.map fun d => fnE (frE h.get? n) (initAt (frE h.get? n) d.cn)) = xs.map XD.val := congrArg (fun z : AlE => z.2) e
  obtain ⟨h1, h2⟩ := ba e2
  obtain ⟨h2, hex⟩ := ba h2
  have tabs : ∀ p ∈ tf, codeHdIn (frE h.get? n) (cT (frE h.get? n) p).1 (cT (frE h.get? n) p).2 = true ∧ ∃ o, h.get? (cT (frE h.get? n) p).2 = some o ∧ emptyTab o = true := fun p hp => by
    obtain ⟨h3, h4⟩ := ba (List.all_eq_true.mp h2 p hp)
    refine ⟨h3, ?_⟩
    split at h4
    · rename_i o q
      exact ⟨o, q, h4⟩
    · cases h4
  refine ⟨e1, List.all_eq_true.mp h1, fun d hd => map_all e3 d hd, fun p hp => (tabs p hp).1, fun p hp => ?_, fun p hp => ?_, hex⟩
  · obtain ⟨o, q, z⟩ := (tabs p hp).2
    exact frT_none q z
  · obtain ⟨o, q, z⟩ := (tabs p hp).2
    rw [q, emptyTab_eq z]
def hookE (n : Nat) (fa : List Fa) (fn : List DefD) (ts : List Tab) (tf : List Defn) (file : Str) (xs : List XD) (ex : Frag → Bool) : Hook where
  α := AlE
  obs := fun s => obsE n fa fn ts tf file xs ex s.heap.get?
  val := fun w => valE fn ts xs w
  says := fun w h => ∃ K : Frag, K.In h ∧ SaysE fa fn ts tf file xs ex w h K
  of := fun _ _ e => ⟨_, frT_in, saysE_of e⟩
  keeps := fun _ _ _ ⟨K, hK, c⟩ k => ⟨K, Frag.In.keeps hK k, ⟨c.t, c.ok, c.txt, c.hd, c.out, fun p hp => k _ _ (c.empty p hp), c.ex⟩⟩
theorem obsE_eq {n : Nat} {fa : List Fa} {fn : List DefD} {ts : List Tab} {tf : List Defn} {file : Str} {xs : List XD} {ex : Frag → Bool} {g : Addr → Option Obj} {s : Shared} (h : ∀ a, g a = s.heap.get? a) : obsE n fa fn ts tf file xs ex g = (hookE n fa fn ts tf file xs ex).obs s := by
  have e : g = s.heap.get? := funext h
  rw [e]
  rfl
/-! ### the three bases -/
abbrev veB : List Value := [.type "ValueError", .type "Exception", .type "BaseException", .type "object"]
abbrev leB : List Value := [.type "LookupError", .type "Exception", .type "BaseException", .type "object"]
abbrev oeB : List Value := [.type "OverflowError", .type "ArithmeticError", .type "Exception", .type "BaseException", .type "object"]
/-- the __init__ that a class's text begins with -/
def clsInit : Stmt → Stmt
  | .ClassDef _ _ _ (st :: _) .. => st
  | st => st
end DWX

set_option Elab.async false
set_option linter.all false
set_option maxRecDepth 100000
set_option maxHeartbeats 4000000
/-! DWY: for a, b in zip(xs, ys): two tuples, or two lists, of one size -/
namespace DW
open PySem PySem.Spec PyProof.Rows L2 RZ
def pr2 (a b : Dt) : Dt := .tup [a, b]
def zipD : List Dt → Option (List Dt)
  | [.tup xs, .tup ys] => if xs.length = ys.length then some (List.zipWith pr2 xs ys) else none
  | [.lst xs, .lst ys] => if xs.length = ys.length then some (List.zipWith pr2 xs ys) else none
  | _ => none
section
variable {K : PySem.W.Frag} {a b : Addr} {xs ys : List V}
theorem walk_zipT {n : Nat} (hn : n = min xs.length ys.length) : Walk (ItzT K a b) n (fun H => SqT K H a xs ∧ SqT K H b ys) (YPair (fun i => xs[i]?) (fun i => ys[i]?)) := by
  subst hn
  refine ⟨fun i _ hi q => ?_, fun _ q => ⟨xs, ys, q.1, q.2, by omega⟩, fun i H v H' _ q y => ?_⟩
  · have h1 : i < xs.length := by omega
    have h2 : i < ys.length := by omega
    exact ⟨xs, ys, xs[i], ys[i], q.1, q.2, by simp [h1], by simp [h2]⟩
  · obtain ⟨T, x, z, h1, h2, h3, h4, h5⟩ := y
    exact ⟨T, x, z, h1, h2, h3, h4 xs q.1, h5 ys q.2⟩
theorem pair_item {H0 H H' : Hp} {ds es : List Dt} {i : Nat} {x : V} (hx : DaAll K H0 xs ds) (hy : DaAll K H0 ys es) (y : YPair (fun i => xs[i]?) (fun i => ys[i]?) i H x H') : ∃ d, (List.zipWith pr2 ds es)[i]? = some d ∧
    ((H' = H ∧ Da K H0 x d) ∨ ∃ T vs fs, x = .ref T ∧ H T = none ∧ H' = upd H T (.tup vs) ∧ DaAll K H0 vs fs ∧ d = .tup fs) := by
  obtain ⟨T, u, v, h1, h2, h3, h4, h5⟩ := y
  obtain ⟨d, e1, f1⟩ := hx.getV h4
  obtain ⟨e, e2, f2⟩ := hy.getV h5
  refine ⟨.tup [d, e], ?_, .inr ⟨T, [u, v], [d, e], h1, h2, h3, .cons f1 (.cons f2 .nil), rfl⟩⟩
  rw [List.getElem?_zipWith, e1, e2]
  rfl
end
section
variable {g : Gx} {F : Fm} {W : WX} {σ : L2.St} {H : Hp}
theorem iZip_of {f : Rho → R (List Dt)} {Rk : It → Hp → Prop} (h : tI g F W (rngF zipD f) σ H Rk) : iZipA g.K (tDA g F W f) σ H Rk := by
  obtain ⟨H0, ρ, E, q⟩ := h
  refine ⟨H0, ρ, E, ?_⟩
  unfold rngF at q
  cases e : f ρ with
  | ok ds ρ1 =>
    rw [e] at q
    dsimp only [R.bind] at q
    intro vs H0' H' E' m hd
    cases e2 : zipD ds with
    | none => rw [e2] at q; exact q.elim
    | some zs =>
      rw [e2] at q
      unfold zipD at e2
      split at e2
      · split at e2
        · rename_i xs ys hl
          cases e2
          cases hd with
          | cons h1 h2 =>
            cases h2 with
            | cons h2 h3 =>
              cases h3
              cases h1 with
              | tup s1 d1 =>
                cases h2 with
                | tup s2 d2 =>
                  refine ⟨_, _, _, _, rfl, .inr ⟨seqT_mono E'.ex s1, seqT_mono E'.ex s2, q _ H0' H' E' m ?_⟩⟩
                  refine ⟨_, _, walk_zipT (n := (List.zipWith pr2 xs ys).length) (by rw [List.length_zipWith, d1.length, d2.length]), fun H s => ⟨seqT_mono s s1, seqT_mono s s2⟩, fun i H x H' _ _ y => pair_item d1 d2 y⟩
        · cases e2
      · split at e2
        · rename_i xs ys hl
          cases e2
          cases hd with
          | cons h1 h2 =>
            cases h2 with
            | cons h2 h3 =>
              cases h3
              cases h1 with
              | lst s1 d1 =>
                cases h2 with
                | lst s2 d2 =>
                  have t1 : ∀ H, Same H0' H → _ := fun H s => SqL.of (K := g.K) (s _ _ s1)
                  have t2 : ∀ H, Same H0' H → _ := fun H s => SqL.of (K := g.K) (s _ _ s2)
                  refine ⟨_, _, _, _, rfl, .inl ⟨t1 _ E'.ex, t2 _ E'.ex, q _ H0' H' E' m ?_⟩⟩
                  refine ⟨_, _, walk_zip (n := (List.zipWith pr2 xs ys).length) (by rw [List.length_zipWith, d1.length, d2.length]), fun H s => ⟨t1 H s, t2 H s⟩, fun i H x H' _ _ y => pair_item d1 d2 y⟩
        · cases e2
      · cases e2
  | ex x ρ1 =>
    rw [e] at q
    exact q
  | bad =>
    rw [e] at q
    exact q
end
section
variable {X : Cx} {W : WX} {a b : Expr} {pos p tpos : Pos} {fa : Rho → R (List Dt)} {elts : List Expr} {kk : Nat}
theorem di_zip (hg : Gl X "zip") (hm : X.mg "zip" = none) (h : DA X W [a, b] fa) (hs : starEach [a, b] X.env = (false, eval a X.env) :: starEach [b] X.env := by rfl) (hpl : (backTo pos (starEach [b] X.env)).any (·.1) = false := by rfl) :
    DI X W (.Tuple elts kk tpos) (.Call (.Name "zip" p) [a, b] [] pos) (rngF zipD fa) := fun F => PI.wk (pi_zipA hg hm (h F) hs hpl) fun _ _ _ q => iZip_of q
end
end DW

set_option Elab.async false
set_option linter.all false
set_option maxRecDepth 100000
set_option maxHeartbeats 4000000
/-! DWY2: for a, b in zip(a list, a tuple) of one size -/
namespace DW
open PySem PySem.Spec PyProof.Rows L2 RZ
def ItzM (K : PySem.W.Frag) (a b : Addr) : It :=
  ⟨fun i H => ∃ (xs ys : List V) (x y : V), SqL K H a xs ∧ SqT K H b ys ∧ xs[i]? = some x ∧ ys[i]? = some y,
    fun i H v H' => ∃ T x y, v = .ref T ∧ H T = none ∧ H' = upd H T (.tup [x, y]) ∧ (∀ xs, SqL K H a xs → xs[i]? = some x) ∧ ∀ ys, SqT K H b ys → ys[i]? = some y,
    fun i H => ∃ xs ys : List V, SqL K H a xs ∧ SqT K H b ys ∧ xs.length = i ∧ ys.length = i⟩
theorem turn_zipM {P : Program} {w : World} {K : PySem.W.Frag} {elts : List Expr} {kk : Nat} {tpos : Pos} {a b z TI TO i1 i2 : Addr} (D : ZipSep2 z TI TO i1 i2 [i1, a] [i2, b]) (ha : a ≠ i1) (hb : b ≠ i2) :
    Turn P w K (.Tuple elts kk tpos) (ItzM K a b) [z, TI, TO, i1, i2] z (fun i h => IsZip h z TI TO .none ∧ IsTupOf2 h TI (.ref i1) (.ref i2) ∧ (∃ x y, IsTupOf2 h TO x y) ∧ h.IsListIter i1 a i ∧ h.IsTupleIter i2 b i) where
  mem := by simp
  obj := fun i h st c hc => by
    obtain ⟨hz, hTI, ⟨x, y, hTO⟩, ⟨o1, e1, _, d1⟩, ⟨o2, e2, _, d2⟩⟩ := st
    have e' : c = z ∨ c = TI ∨ c = TO ∨ c = i1 ∨ c = i2 := by simpa using hc
    rcases e' with q | q | q | q | q
    · rw [q]; exact ⟨_, hz, fun v q => nomatch q⟩
    · rw [q]; exact ⟨_, hTI, fun v q => nomatch q⟩
    · rw [q]; exact ⟨_, hTO, fun v q => nomatch q⟩
    · rw [q]; exact ⟨o1, e1, fun v q => by rw [d1] at q; cases q⟩
    · rw [q]; exact ⟨o2, e2, fun v q => by rw [d2] at q; cases q⟩
  keep := fun i h h' st k => by
    obtain ⟨hz, hTI, ⟨x, y, hTO⟩, h1, h2⟩ := st
    exact ⟨k z (by simp) _ hz, k TI (by simp) _ hTI, ⟨x, y, k TO (by simp) _ hTO⟩, h1.at fun o q => k i1 (by simp) o q, h2.at fun o q => k i2 (by simp) o q⟩
  item := by
    intro X hP hw hK hc i pins s σ H E I hf st hg
    subst hP hw hK
    obtain ⟨hz, hTI, ⟨x0, y0, hTO⟩, h1, h2⟩ := st
    obtain ⟨xs, ys, x, y, hqx, hqy, hx, hy⟩ := hg
    obtain ⟨its, rv, p, _⟩ := I.list hqx
    obtain ⟨its2, rv2, p2, _⟩ := I.tuple hqy
    obtain ⟨u, hu, ru⟩ := rv.get hx
    obtain ⟨u2, hu2, ru2⟩ := rv2.get hy
    have hzl : z < s.heap.objs.size := Heap.lt_size hz
    have hd : X.A.in1.handled = none := I.ok.hd hc
    have D1 := Draws.list (prog := X.prog) (w := X.w) hd i1 a ha its.toArray
    have D2 := Draws.tuple (prog := X.prog) (w := X.w) hd i2 b hb its2.toArray
    have l1 : i < its.toArray.size := by
      have := (List.getElem?_eq_some_iff.mp hu).1
      simpa using this
    have l2 : i < its2.toArray.size := by
      have := (List.getElem?_eq_some_iff.mp hu2).1
      simpa using this
    refine wpAny_pyNext_zipD2_item D D1 D2 hz hTI hTO ⟨h1, p.isList⟩ ⟨h2, p2⟩ l1 l2 fun x1 x2 h' tk y1 y2 z' TO' st1 st2 hT hsz hk => ?_
    have e1 : x1 = u := by
      have : its[i]? = some x1 := by simpa using y1
      rw [hu] at this
      exact (Option.some.inj this).symm
    have e2 : x2 = u2 := by
      have : its2[i]? = some x2 := by simpa using y2
      rw [hu2] at this
      exact (Option.some.inj this).symm
    subst e1 e2
    have h1' := st1.1
    have h2' := st2.1
    refine ⟨_, rfl, wpAny_letOwnedTupleGo_zip (s := { s with heap := h', toks := tk }) z' fun h'' z'' sb => ?_⟩
    have hT2 : h''.get? s.heap.objs.size = some { cls := .type "tuple", data := .seq #[x1, x2] } := (sb.2 _ (Nat.ne_of_gt hzl)).trans hT
    have new : ObjOk X.prog X.w (upd H s.heap.objs.size (.tup [x, y])) h'' s.heap.objs.size (.tup [x, y]) :=
      ⟨by show 2 ≤ sizeLine; decide, [x1, x2], .cons ru (.cons ru2 .nil), ⟨_, hT2, rfl, _, rfl⟩⟩
    have I1 : Inv X pins σ (upd H s.heap.objs.size (.tup [x, y])) { s with heap := h'', toks := tk } :=
      I.turnedNew (t' := tk) (ch := [z, TI, TO, i1, i2]) (fun c o hb q => (sb.2 c (fun q' => hb (by simp [q']))).trans (hk c o (fun q' => hb (by simp [q'])) (fun q' => hb (by simp [q'])) (fun q' => hb (by simp [q'])) (fun q' => hb (by simp [q'])) q)) hf (Nat.le_refl _) new
    refine ⟨.ref s.heap.objs.size, _, I1, rfl, ⟨_, x, y, rfl, I.hok.fresh (Nat.le_refl _), rfl, fun l hl => by rw [I.list_inj hl hqx]; exact hx, fun l hl => by rw [I.tuple_inj hl hqy]; exact hy⟩, ⟨z'', ?_, ⟨x1, x2, ?_⟩, ?_, ?_⟩, fun c hcm => ?_⟩
    · exact (sb.2 _ D.TIz).trans (hk _ _ D.TIz D.TITO D.TIi1 D.TIi2 hTI)
    · exact (sb.2 _ D.TOz).trans TO'
    · exact h1'.at fun o q => (sb.2 _ (Ne.symm D.zi1)).trans q
    · exact h2'.at fun o q => (sb.2 _ (Ne.symm D.zi2)).trans q
    · have hlt : c < s.heap.objs.size := by
        have e' : c = z ∨ c = TI ∨ c = TO ∨ c = i1 ∨ c = i2 := by simpa using hcm
        rcases e' with q | q | q | q | q
        · rw [q]; exact hzl
        · rw [q]; exact Heap.lt_size hTI
        · rw [q]; exact Heap.lt_size hTO
        · rw [q]; obtain ⟨_, e1, _⟩ := h1; exact Heap.lt_size e1
        · rw [q]; obtain ⟨_, e2, _⟩ := h2; exact Heap.lt_size e2
      rw [upd_ne (Nat.ne_of_lt hlt)]
      exact (hf c hcm).1
  done := by
    intro X hP hw hK hc i pins s σ H E I hf st hg
    subst hP hw hK
    obtain ⟨hz, hTI, ⟨x0, y0, hTO⟩, h1, h2⟩ := st
    obtain ⟨xs, ys, hqx, hqy, hl1, hl2⟩ := hg
    obtain ⟨its, rv, p, _⟩ := I.list hqx
    obtain ⟨its2, rv2, p2, _⟩ := I.tuple hqy
    have l1 := rv.length
    have l2 := rv2.length
    have hd : X.A.in1.handled = none := I.ok.hd hc
    have D1 := Draws.list (prog := X.prog) (w := X.w) hd i1 a ha its.toArray
    have D2 := Draws.tuple (prog := X.prog) (w := X.w) hd i2 b hb its2.toArray
    have e1 : i = its.toArray.size := by simp; omega
    have e2 : i = its2.toArray.size := by simp; omega
    exact wpAny_pyNext_zipD2_end D D1 D2 hz hTI hTO ⟨h1, p.isList⟩ ⟨h2, p2⟩ (Nat.le_of_eq e1) (Nat.le_of_eq e2) (.inl e1) fun h' tk hk => ⟨rfl, I.turnedL (t' := tk) (ch := [z, TI, TO, i1, i2]) (fun c o hb q =>
      hk c o (fun q' => hb (by simp [q'])) (fun q' => hb (by simp [q'])) (fun q' => hb (by simp [q'])) (fun q' => hb (by simp [q'])) q) hf⟩
  self := fun A i s Q E st h => wpAny_pyIter_zip st.1 h
def iZipM (K : PySem.W.Frag) (ta : TA) : TI := fun σ H R => ta σ H fun vs H1 => ∃ a b xs ys, vs = [.ref a, .ref b] ∧ SqL K H1 a xs ∧ SqT K H1 b ys ∧ R (ItzM K a b) H1
theorem pi_zipM {X : Cx} {e e2 : Expr} {ta : TA} {p pos tpos : Pos} {elts : List Expr} {kk : Nat} (hg : Gl X "zip") (hm : X.mg "zip" = none) (ha : PA X [e, e2] ta)
    (hs : starEach [e, e2] X.env = (false, eval e X.env) :: starEach [e2] X.env := by rfl) (hpl : (backTo pos (starEach [e2] X.env)).any (·.1) = false := by rfl) :
    PI X (.Tuple elts kk tpos) (.Call (.Name "zip" p) [e, e2] [] pos) (iZipM X.K ta) := by
  refine ⟨fun pins s σ H R I h => ?_⟩
  refine Call_ (ld_blt I hg hm PyProof.Rows.boot_zip (PyProof.Rows.callWith_type1 (thn (ha.run pos pins s σ H _ I h) fun us s1 ⟨vs, H1, I1, r1, q1⟩ => ?_) hs hpl))
  obtain ⟨a, b, xs, ys, rfl, hqx, hqy, q⟩ := q1
  cases r1 with
  | cons r rr =>
    cases rr with
    | cons r' rr =>
      cases rr
      cases r
      cases r'
      have fresh5 : ∀ c, c ∈ [s1.heap.objs.size + 4, s1.heap.objs.size + 2, s1.heap.objs.size + 3, s1.heap.objs.size, s1.heap.objs.size + 1] → FpOk X pins H1 c := fun c hcm => by
        have hle : s1.heap.objs.size ≤ c := by
          simp only [List.mem_cons, List.not_mem_nil, or_false] at hcm
          rcases hcm with z | z | z | z | z <;> (rw [z]; first | exact Nat.le_refl _ | exact Nat.le_add_right _ _)
        exact I1.fpOk hle (I1.hok.fresh hle)
      obtain ⟨its, rv, p1, _⟩ := I1.list hqx
      obtain ⟨its2, rv2, p2, _⟩ := I1.tuple hqy
      have la : a < s1.heap.objs.size := p1.lt
      have lb : b < s1.heap.objs.size := by
        obtain ⟨o2, ho2, _⟩ := id p2
        exact Heap.lt_size ho2
      refine zip_begins2 (begins_list a its.toArray) (begins_tuple b its2.toArray) p1.isList p2 fun h' hz hTI hTO h1 h2 hsz hk => wpAny_pyIter_zip hz ?_
      have I2 : Inv X pins σ H1 { s1 with heap := h' } := I1.kept (t' := s1.toks) hk
      exact ⟨s1.heap.objs.size + 4, [s1.heap.objs.size + 4, s1.heap.objs.size + 2, s1.heap.objs.size + 3, s1.heap.objs.size, s1.heap.objs.size + 1], _, _, H1, rfl, I2, turn_zipM (zip_sep2 (fp1 := [a]) (fp2 := [b]) (fun c hc => by rw [List.mem_singleton.mp hc]; exact la) (fun c hc => by rw [List.mem_singleton.mp hc]; exact lb)) (Nat.ne_of_lt la) (Nat.ne_of_lt (Nat.lt_succ_of_lt lb)), ⟨hz, hTI, ⟨_, _, hTO⟩, ⟨_, h1, rfl, rfl⟩, ⟨_, h2, rfl, rfl⟩⟩, fresh5, q⟩
/-! ### data -/
def zipX : List Dt → Option (List Dt)
  | [.lst xs, .tup ys] => if xs.length = ys.length then some (List.zipWith pr2 xs ys) else none
  | ds => zipD ds
theorem walk_zipM {K : PySem.W.Frag} {a b : Addr} {xs ys : List V} {n : Nat} (h1 : xs.length = n) (h2 : ys.length = n) : Walk (ItzM K a b) n (fun H => SqL K H a xs ∧ SqT K H b ys) (YPair (fun i => xs[i]?) (fun i => ys[i]?)) := by
  refine ⟨fun i _ hi q => ?_, fun _ q => ⟨xs, ys, q.1, q.2, h1, h2⟩, fun i H v H' _ q y => ?_⟩
  · have h1 : i < xs.length := by omega
    have h2 : i < ys.length := by omega
    exact ⟨xs, ys, xs[i], ys[i], q.1, q.2, by simp [h1], by simp [h2]⟩
  · obtain ⟨T, x, z, h1, h2, h3, h4, h5⟩ := y
    exact ⟨T, x, z, h1, h2, h3, h4 xs q.1, h5 ys q.2⟩
section
variable {g : Gx} {F : Fm} {W : WX} {σ : L2.St} {H : Hp}
theorem iZipX_of {f : Rho → R (List Dt)} {Rk : It → Hp → Prop} (h : tI g F W (rngF zipX f) σ H Rk) : iZipA g.K (tDA g F W f) σ H Rk ∨ iZipM g.K (tDA g F W f) σ H Rk := by
  obtain ⟨H0, ρ, E, q⟩ := h
  unfold rngF at q
  cases e : f ρ with
  | ok ds ρ1 =>
    rw [e] at q
    dsimp only [R.bind] at q
    by_cases hs : ∃ xs ys, ds = [.lst xs, .tup ys]
    · obtain ⟨xs, ys, rfl⟩ := hs
      refine .inr ⟨H0, ρ, E, ?_⟩
      rw [e]
      intro vs H0' H' E' m hd
      by_cases hl : xs.length = ys.length
      rotate_left
      · rw [show zipX [.lst xs, .tup ys] = none from if_neg hl] at q
        exact q.elim
      rw [show zipX [.lst xs, .tup ys] = some (List.zipWith pr2 xs ys) from if_pos hl] at q
      cases hd with
      | cons h1 h2 =>
        cases h2 with
        | cons h2 h3 =>
          cases h3
          cases h1 with
          | lst s1 d1 =>
            cases h2 with
            | tup s2 d2 =>
              have t1 : ∀ H, Same H0' H → _ := fun H s => SqL.of (K := g.K) (s _ _ s1)
              refine ⟨_, _, _, _, rfl, t1 _ E'.ex, seqT_mono E'.ex s2, q _ H0' H' E' m ?_⟩
              refine ⟨_, _, walk_zipM (n := (List.zipWith pr2 xs ys).length) (by rw [List.length_zipWith, d1.length]; omega) (by rw [List.length_zipWith, d2.length]; omega), fun H s => ⟨t1 H s, seqT_mono s s2⟩, fun i H x H' _ _ y => pair_item d1 d2 y⟩
    · have hz : zipX ds = zipD ds := by
        unfold zipX
        split
        · exact absurd ⟨_, _, rfl⟩ hs
        · rfl
      rw [hz] at q
      refine .inl (iZip_of ⟨H0, ρ, E, ?_⟩)
      unfold rngF
      rw [e]
      exact q
  | ex x ρ1 =>
    rw [e] at q
    refine .inl (iZip_of ⟨H0, ρ, E, ?_⟩)
    unfold rngF
    rw [e]
    exact q
  | bad =>
    rw [e] at q
    exact q.elim
end
section
variable {X : Cx} {W : WX} {a b : Expr} {pos p tpos : Pos} {fa : Rho → R (List Dt)} {elts : List Expr} {kk : Nat}
theorem di_zipX (hg : Gl X "zip") (hm : X.mg "zip" = none) (h : DA X W [a, b] fa) (hs : starEach [a, b] X.env = (false, eval a X.env) :: starEach [b] X.env := by rfl) (hpl : (backTo pos (starEach [b] X.env)).any (·.1) = false := by rfl) :
    DI X W (.Tuple elts kk tpos) (.Call (.Name "zip" p) [a, b] [] pos) (rngF zipX fa) := fun F => PI.wk (PI.or (pi_zipA hg hm (h F) hs hpl) (pi_zipM hg hm (h F) hs hpl)) fun _ _ _ q => iZipX_of q
end
end DW

set_option Elab.async false
set_option linter.all false
set_option maxRecDepth 100000
set_option maxHeartbeats 4000000
/-! DWY3: for i, x in enumerate(a tuple, or a list) -/
namespace DW
open PySem PySem.Spec PyProof.Rows L2 RZ
theorem meets_enum1 {v : Value} {o : Obj} {H : Heap → Prop} (B : Begins v o H) (nt : ∀ b, v ≠ .bool b) :
    Meets (Builtin.«enumerate.__new__» ⟨[.type "enumerate", v], []⟩) (fun _ R s => H s.heap ∧
      R (.ok (.ret (.ref (s.heap.push o).objs.size))) { s with heap := (s.heap.push o).push { cls := .type "enumerate", data := .fields #[.none, .bool false, .ref s.heap.objs.size, rawInt 0, .none, .none] } }) :=
  .of_wp fun prog w A R s h => by
    obtain ⟨hp, g, d, tk, os⟩ := s; obtain ⟨h1, h⟩ := h
    have hsub := sub_enumerate
    have q1 : ∀ {A' : Around} {E : Value → Shared → Prop} {Q : Value → Shared → Prop}, Q (.ref hp.objs.size) ⟨hp.push o, g, d, tk, os⟩ → wpAny (model prog w) A' (pyIter v) Q E ⟨hp, g, d, tk, os⟩ :=
      fun q => B.iter prog w _ _ ⟨hp, g, d, tk, os⟩ _ h1 q
    wp_walk using q1
    refine wpAny_stack_any fun st => wpAny_pure ?_
    split
    · rename_i c _ _ _ _ _
      cases (c == Value.type "enumerate")
      · wp_walk using q1
        exact ⟨_, rfl, h⟩
      · wp_walk using q1
        exact ⟨_, rfl, h⟩
    · wp_walk using q1
      exact ⟨_, rfl, h⟩
theorem call_enum1 {prog : Program} {w : World} {A : Around} {E : Value → Shared → Prop} {s : Shared} {v : Value} {o : Obj} {H : Heap → Prop} {Q : Value → Shared → Prop} (B : Begins v o H) (nt : ∀ b, v ≠ .bool b) (h1 : H s.heap)
    (h : ∀ h', IsEnum h' (s.heap.objs.size + 1) s.heap.objs.size 0 .none → h'.get? s.heap.objs.size = some o → h'.objs.size = s.heap.objs.size + 2 →
      (∀ b o, s.heap.get? b = some o → h'.get? b = some o) → Q (.ref (s.heap.objs.size + 1)) { s with heap := h' }) :
    wpAny (model prog w) A (call (.type "enumerate") [v]) Q E s := by
  refine callType_new F.called_enumerate (by decide) (F.typeCall_enumerate_1 _) (F.newCall_enumerate_1 _) (fun obj => F.args_object_init_2 obj _) F.entry_enumerate_new
    (meets_enum1 B nt) ⟨h1, ?_⟩
  have hz : (s.heap.push o).objs.size = s.heap.objs.size + 1 := Heap.size_push ..
  show _ ∧ _
  rw [hz]
  have he : IsEnum ((s.heap.push o).push { cls := .type "enumerate", data := .fields #[.none, .bool false, .ref s.heap.objs.size, rawInt 0, .none, .none] }) (s.heap.objs.size + 1) s.heap.objs.size 0 .none := by
    have := Heap.get?_push_size (s.heap.push o) (o := { cls := .type "enumerate", data := .fields #[.none, .bool false, .ref s.heap.objs.size, rawInt 0, .none, .none] }) rfl
    rw [hz] at this; exact this
  refine ⟨⟨_, he, rfl⟩, h _ he (Heap.get?_push_of_some _ (Heap.get?_push_size _ B.free)) (by rw [Heap.size_push, hz]) fun b o x => Heap.get?_push_of_some _ (Heap.get?_push_of_some _ x)⟩
/-- the tuple at a, each item in a new pair -/
def IteT (K : PySem.W.Frag) (a : Addr) : It :=
  ⟨fun i H => ∃ (xs : List V) (x : V), SqT K H a xs ∧ xs[i]? = some x, fun i H v H' => ∃ T x, v = .ref T ∧ H T = none ∧ H' = upd H T (.tup [.int (i : Nat), x]) ∧ ∀ xs, SqT K H a xs → xs[i]? = some x, fun i H => ∃ xs : List V, SqT K H a xs ∧ xs.length = i⟩
theorem turn_enumT {P : Program} {w : World} {K : PySem.W.Frag} {elts : List Expr} {kk : Nat} {tpos : Pos} (a e it : Addr) (ha : a ≠ it) (hea : e ≠ a) (hne : e ≠ it) :
    Turn P w K (.Tuple elts kk tpos) (IteT K a) [e, it] e (fun i h => (∃ old, IsEnum h e it ((i : Nat) : Int) old) ∧ h.IsTupleIter it a i) where
  mem := by simp
  obj := fun i h st b hb => by
    obtain ⟨⟨old, he⟩, ⟨o, ho, hc, hd⟩⟩ := st
    have e' : b = e ∨ b = it := by simpa using hb
    rcases e' with z | z
    · rw [z]; exact ⟨_, he, fun v q => nomatch q⟩
    · rw [z]; exact ⟨o, ho, fun v q => by rw [hd] at q; cases q⟩
  keep := fun i h h' st k => let ⟨⟨old, he⟩, hi⟩ := st; ⟨⟨old, k e (by simp) _ he⟩, hi.at fun o q => k it (by simp) o q⟩
  item := by
    intro X hP hw hK hc i pins s σ H E I hf st hg
    subst hP hw hK
    obtain ⟨⟨old, he⟩, hit⟩ := st
    obtain ⟨xs, x, hq, hx⟩ := hg
    obtain ⟨its, rv, p, hz⟩ := I.tuple hq
    obtain ⟨u, hu, ru⟩ := rv.get hx
    have hel : e < s.heap.objs.size := Heap.lt_size he
    have hil : it < s.heap.objs.size := by obtain ⟨_, q, _⟩ := hit; exact Heap.lt_size q
    have hd : X.A.in1.handled = none := I.ok.hd hc
    have D1 := Draws.tuple (prog := X.prog) (w := X.w) hd it a ha its.toArray
    have l1 : i < its.toArray.size := by
      have := (List.getElem?_eq_some_iff.mp hu).1
      simpa using this
    refine wpAny_pyNext_enum_itemC D1 he ⟨hit, p⟩ l1 hne (by simp only [List.mem_cons, List.not_mem_nil, or_false, not_or]; exact ⟨hne, hea⟩) fun x1 h' tk y1 ho st1 hT hsz hk => ?_
    have e1 : x1 = u := by
      have : its[i]? = some x1 := by simpa using y1
      rw [hu] at this
      exact (Option.some.inj this).symm
    subst e1
    have hit' := st1.1
    refine ⟨_, rfl, wpAny_letOwnedTupleGo_enum (s := { s with heap := h', toks := tk + 1 }) ho fun h'' he' sb => ?_⟩
    have hT2 : h''.get? s.heap.objs.size = some { cls := .type "tuple", data := .seq #[.int i tk, x1] } := (sb.2 _ (Nat.ne_of_gt hel)).trans hT
    have new : ObjOk X.prog X.w (upd H s.heap.objs.size (.tup [.int (i : Nat), x])) h'' s.heap.objs.size (.tup [.int (i : Nat), x]) :=
      ⟨by show 2 ≤ sizeLine; decide, [.int i tk, x1], .cons ⟨_, rfl⟩ (.cons ru .nil), ⟨_, hT2, rfl, _, rfl⟩⟩
    have I1 : Inv X pins σ (upd H s.heap.objs.size (.tup [.int (i : Nat), x])) { s with heap := h'', toks := tk + 1 } :=
      I.turnedNew (t' := tk + 1) (ch := [e, it]) (fun b ob hb q => (sb.2 b (fun z => hb (by simp [z]))).trans (hk b ob (fun z => hb (by simp [z])) (fun z => hb (by simp [z])) q)) hf (Nat.le_refl _) new
    refine ⟨.ref s.heap.objs.size, _, I1, rfl, ⟨_, x, rfl, I.hok.fresh (Nat.le_refl _), rfl, fun ys hy => by rw [I.tuple_inj hy hq]; exact hx⟩, ⟨⟨x1, ?_⟩, hit'.at fun o q => (sb.2 it (Ne.symm hne)).trans q⟩, fun b hb => ?_⟩
    · have e1 : ((i + 1 : Nat) : Int) = (i : Int) + 1 := by omega
      rw [e1]; exact he'
    · have hb' : b < s.heap.objs.size := by
        have e' : b = e ∨ b = it := by simpa using hb
        rcases e' with z | z
        · rw [z]; exact hel
        · rw [z]; exact hil
      rw [upd_ne (Nat.ne_of_lt hb')]
      exact (hf b hb).1
  done := by
    intro X hP hw hK hc i pins s σ H E I hf st hg
    subst hP hw hK
    obtain ⟨⟨old, he⟩, hit⟩ := st
    obtain ⟨xs, hq, hx⟩ := hg
    obtain ⟨its, rv, p, hz⟩ := I.tuple hq
    obtain ⟨f0, f1, f2, f3, f4, f5⟩ := hf it (by simp)
    have hl := rv.length
    have hd : X.A.in1.handled = none := I.ok.hd hc
    have D1 := Draws.tuple (prog := X.prog) (w := X.w) hd it a ha its.toArray
    have e1 : i = its.toArray.size := by simp; omega
    subst e1
    exact wpAny_pyNext_enum_endD D1 he ⟨hit, p⟩ fun h' hx => ⟨rfl, I.turned (t' := s.toks) (fun b o hb q => hx b o hb q) f0 f1 f3 f4 f5⟩
  self := fun A i s Q E st h => let ⟨⟨_, he⟩, _⟩ := st; wpAny_pyIter_enum he h
def iEnumT (K : PySem.W.Frag) (ta : TA) : TI := fun σ H R => ta σ H fun vs H1 => ∃ a xs, vs = [.ref a] ∧ SqT K H1 a xs ∧ R (IteT K a) H1
theorem pi_enumT {X : Cx} {e : Expr} {ta : TA} {p pos tpos : Pos} {elts : List Expr} {kk : Nat} (hg : Gl X "enumerate") (hm : X.mg "enumerate" = none) (ha : PA X [e] ta) (hs : starEach [e] X.env = [(false, eval e X.env)] := by rfl) :
    PI X (.Tuple elts kk tpos) (.Call (.Name "enumerate" p) [e] [] pos) (iEnumT X.K ta) := by
  refine ⟨fun pins s σ H R I h => ?_⟩
  refine Call_ (ld_blt I hg hm boot_enumerate (PyProof.Rows.callWith_type1 (thn (ha.run pos pins s σ H _ I h) fun us s1 ⟨vs, H1, I1, r1, q1⟩ => ?_) hs rfl))
  obtain ⟨a, xs, rfl, hq, q⟩ := q1
  cases r1 with
  | cons r rr =>
    cases rr
    cases r
    obtain ⟨its, rv, p', hz⟩ := I1.tuple hq
    have la : a < s1.heap.objs.size := by
      obtain ⟨o2, ho2, _⟩ := id p'
      exact Heap.lt_size ho2
    refine call_enum1 (begins_tuple a its.toArray) (fun b z => nomatch z) p' fun h' he hit hsz hk => wpAny_pyIter_enum he ?_
    have I2 : Inv X pins σ H1 { s1 with heap := h' } := I1.kept (t' := s1.toks) hk
    refine ⟨s1.heap.objs.size + 1, [s1.heap.objs.size + 1, s1.heap.objs.size], _, _, H1, rfl, I2, turn_enumT a (s1.heap.objs.size + 1) s1.heap.objs.size (Nat.ne_of_lt la) (Nat.ne_of_gt (Nat.lt_succ_of_lt la)) (Nat.succ_ne_self _), ⟨⟨.none, he⟩, ⟨_, hit, rfl, rfl⟩⟩, fun b hb => ?_, q⟩
    have e' : b = s1.heap.objs.size + 1 ∨ b = s1.heap.objs.size := by simpa using hb
    have hle : s1.heap.objs.size ≤ b := by
      rcases e' with z | z
      · rw [z]; exact Nat.le_add_right _ _
      · rw [z]; exact Nat.le_refl _
    exact I1.fpOk hle (I1.hok.fresh hle)
/-! ### data -/
def numD (ds : List Dt) : List Dt := ds.mapIdx fun i d => .tup [.int (i : Nat), d]
def enumD : List Dt → Option (List Dt)
  | [.tup xs] => some (numD xs)
  | [.lst xs] => some (numD xs)
  | _ => none
section
variable {K : PySem.W.Frag} {a b : Addr} {xs ys : List V}
theorem walk_enumT {n : Nat} (hn : xs.length = n) : Walk (IteT K a) n (fun H => SqT K H a xs) (YPair (fun i => some (.int (i : Nat))) (fun i => xs[i]?)) := by
  refine ⟨fun i _ hi q => ?_, fun _ q => ⟨xs, q, hn⟩, fun i H v H' _ q y => ?_⟩
  · have h1 : i < xs.length := by omega
    exact ⟨xs, xs[i], q, by simp [h1]⟩
  · obtain ⟨T, x, h1, h2, h3, h4⟩ := y
    exact ⟨T, .int (i : Nat), x, h1, h2, h3, rfl, h4 xs q⟩
theorem enum_item {H0 H H' : Hp} {ds : List Dt} {i : Nat} {x : V} (hx : DaAll K H0 xs ds) (y : YPair (fun i => some (.int (i : Nat))) (fun i => xs[i]?) i H x H') : ∃ d, (numD ds)[i]? = some d ∧
    ((H' = H ∧ Da K H0 x d) ∨ ∃ T vs fs, x = .ref T ∧ H T = none ∧ H' = upd H T (.tup vs) ∧ DaAll K H0 vs fs ∧ d = .tup fs) := by
  obtain ⟨T, u, v, h1, h2, h3, h4, h5⟩ := y
  obtain ⟨d, e1, f1⟩ := hx.getV h5
  cases h4
  refine ⟨.tup [.int (i : Nat), d], ?_, .inr ⟨T, [_, v], [.int (i : Nat), d], h1, h2, h3, .cons (.int _) (.cons f1 .nil), rfl⟩⟩
  unfold numD
  rw [List.getElem?_mapIdx, e1]
  rfl
end
section
variable {g : Gx} {F : Fm} {W : WX} {σ : L2.St} {H : Hp}
theorem iEnum_of {f : Rho → R (List Dt)} {Rk : It → Hp → Prop} (h : tI g F W (rngF enumD f) σ H Rk) : iEnum g.K (tDA g F W f) σ H Rk ∨ iEnumT g.K (tDA g F W f) σ H Rk := by
  obtain ⟨H0, ρ, E, q⟩ := h
  unfold rngF at q
  cases e : f ρ with
  | ok ds ρ1 =>
    rw [e] at q
    dsimp only [R.bind] at q
    cases e2 : enumD ds with
    | none => rw [e2] at q; exact q.elim
    | some zs =>
      rw [e2] at q
      unfold enumD at e2
      split at e2
      · rename_i xs
        cases e2
        refine .inr ⟨H0, ρ, E, ?_⟩
        rw [e]
        intro vs H0' H' E' m hd
        cases hd with
        | cons h1 h2 =>
          cases h2
          cases h1 with
          | tup s1 d1 =>
            refine ⟨_, _, rfl, seqT_mono E'.ex s1, q _ H0' H' E' m ?_⟩
            exact ⟨_, _, walk_enumT (n := (numD xs).length) (by unfold numD; rw [List.length_mapIdx]; exact d1.length), fun H s => seqT_mono s s1, fun i H x H' _ _ y => enum_item d1 y⟩
      · rename_i xs
        cases e2
        refine .inl ⟨H0, ρ, E, ?_⟩
        rw [e]
        intro vs H0' H' E' m hd
        cases hd with
        | cons h1 h2 =>
          cases h2
          cases h1 with
          | @lst _ us _ s1 d1 =>
            have t1 : ∀ H, Same H0' H → _ := fun H s => SqL.of (K := g.K) (s _ _ s1)
            refine ⟨_, _, rfl, t1 _ E'.ex, q _ H0' H' E' m ?_⟩
            have hl : (numD xs).length = us.length := by unfold numD; rw [List.length_mapIdx]; exact d1.length.symm
            exact ⟨fun H => SqL g.K H _ us, YPair (fun i => some (.int (i : Nat))) (fun i => us[i]?), by rw [hl]; exact walk_enum, fun H s => t1 H s, fun i H x H' _ _ y => enum_item d1 y⟩
      · cases e2
  | ex x ρ1 =>
    rw [e] at q
    refine .inr ⟨H0, ρ, E, ?_⟩
    rw [e]
    exact q
  | bad =>
    rw [e] at q
    exact q.elim
end
section
variable {X : Cx} {W : WX} {a : Expr} {pos p tpos : Pos} {fa : Rho → R (List Dt)} {elts : List Expr} {kk : Nat}
theorem di_enum (hg : Gl X "enumerate") (hm : X.mg "enumerate" = none) (h : DA X W [a] fa) (hs : starEach [a] X.env = [(false, eval a X.env)] := by rfl) :
    DI X W (.Tuple elts kk tpos) (.Call (.Name "enumerate" p) [a] [] pos) (rngF enumD fa) := fun F => PI.wk (PI.or (pi_enum hg hm (h F) hs) (pi_enumT hg hm (h F) hs)) fun _ _ _ q => iEnum_of q
end
end DW

set_option Elab.async false
set_option linter.all false
set_option autoImplicit false
set_option maxRecDepth 100000
set_option maxHeartbeats 4000000
/-! DWL2: a comprehension with two fors; list(range(n)) -/
namespace DW
open PySem PySem.Spec PyProof.Rows L2
/-- what a comprehension with two fors makes -/
def lc2L (t : Dt → Rho → Option Rho) (c : Rho → R Bool) (it1 : Rho → R (List Dt)) (t1 : Dt → Rho → Option Rho) (c1 : Rho → R Bool) (e : Rho → R Dt) (vs vs1 : List Nat) : List Dt → Rho → R (List Dt)
  | [], ρ => .ok [] ρ
  | x :: xs, ρ => match t x ρ with
    | none => .bad
    | some ρ1 => (c ρ1).bind fun b ρ2 => if b = true then (it1 ρ2).bind fun ys ρ3 => (lcL t1 c1 e vs1 ys (wipeR ρ3 vs1)).bind fun ds ρ4 => (lc2L t c it1 t1 c1 e vs vs1 xs (wipeR ρ4 vs)).bind fun es ρ5 => .ok (ds ++ es) ρ5 else lc2L t c it1 t1 c1 e vs vs1 xs (wipeR ρ2 vs)
def lc2O (it : Rho → R (List Dt)) (t : Dt → Rho → Option Rho) (c : Rho → R Bool) (it1 : Rho → R (List Dt)) (t1 : Dt → Rho → Option Rho) (c1 : Rho → R Bool) (e : Rho → R Dt) (vs vs1 : List Nat) : Rho → R Sl := fun ρ => (it ρ).bind fun xs ρ1 =>
  if okW vs ρ1 = true then (match lc2L t c it1 t1 c1 e vs vs1 xs (wipeR ρ1 vs) with
    | .ok ds ρ2 => if ds.length ≤ 1000000 then .ok (.ol ds) ρ2 else .bad
    | _ => .bad) else .bad
section
variable {K : PySem.W.Frag} {F : Fm} {H0 H H0' H' : Hp} {σ : L2.St} {ρ : Rho} {v : V} {d : Dt} {s : Sl} {i : Nat} {a p : Addr} {o : HO} {g : Gx} {W : WX}
/-- a walk with anything done at each turn -/
theorem w_it {J : It} {n : Nat} {G : Hp → Prop} {Y : Nat → Hp → V → Hp → Prop} (w : Walk J n G Y) {Bd : V → Hp → (Hp → Prop) → Prop} {H1 : Hp} {Qd : Hp → Prop} (Pv : Nat → Hp → Prop) (h0 : Pv 0 H1) (hG : ∀ i H, i ≤ n → Pv i H → G H)
    (hs : ∀ i x H H', i < n → Pv i H → Y i H x H' → Bd x H' (Pv (i + 1))) (hd : ∀ H, Pv n H → Qd H) :
    ∃ W : Nat → Nat → Hp → Prop, (∃ m, W 0 m H1) ∧ ∀ i m H, W i m H → (J.stop i H ∧ Qd H) ∨ (J.go i H ∧ ∃ Nx : Hp → Prop, (∀ H', Nx H' → ∃ m', m' < m ∧ W (i + 1) m' H') ∧ ∀ x H', J.yld i H x H' → Bd x H' Nx) := by
  refine ⟨fun i m H => m = n - i ∧ i ≤ n ∧ Pv i H, ⟨n, by simp, Nat.zero_le _, h0⟩, ?_⟩
  rintro i m H ⟨rfl, hi, p⟩
  have q := hG i H hi p
  by_cases hlt : i < n
  · exact .inr ⟨w.goes i H hlt q, Pv (i + 1), fun H' p' => ⟨n - (i + 1), by omega, rfl, hlt, p'⟩, fun x H' y => hs i x H H' hlt p (w.yields i H x H' hlt q y)⟩
  · have e : i = n := by omega
    subst e
    exact .inl ⟨w.stops H q, hd H p⟩
theorem okW_later {vs us : List Nat} {σ1 : L2.St} {ρ1 : Rho} {B0 B : Hp} (E1 : En K F B0 B σ1 ρ1) (h : okW vs ρ1 = true) (E : En K F H0 H σ ρ) (hu : ∀ i ∈ us, i ∈ vs) : okW us ρ = true := by
  unfold okW at h ⊢
  rw [Bool.or_eq_true] at h ⊢
  rcases h with h | h
  · left
    refine noIo_iff.mpr fun kvs ek => ?_
    obtain ⟨w, y1, a, ks, rfl, z2, z3, z4, z5⟩ := E.sl 0 _ ek
    obtain ⟨_, ⟨kv, y2⟩, _⟩ := E1.io a z3
    exact noIo_iff.mp h kv y2
  · exact .inr (List.all_eq_true.mpr fun i hi => List.all_eq_true.mp h i (hu i hi))
/-- back to a turn's beginning: the names of the block are wiped -/
theorem wipe_down {vs us : List Nat} {σ1 σ2 σw : L2.St} {ρ1 ρ4 : Rho} {B0 B J0 J : Hp} (E1 : En K F B0 B σ1 ρ1) (h : okW vs ρ1 = true) (hu : ∀ i ∈ us, i ∈ vs) (hw : wipe σ2 us = σw) (E4 : En K F J0 J σ2 ρ4) (M4 : Mw σ1 ρ1 σ2 ρ4 B0 B J0 J) :
    En K F J0 J σw (wipeR ρ4 us) ∧ Mw σ1 ρ1 σw (wipeR ρ4 us) B0 B J0 J := by
  have E5 := E4.wipe us (okW_later E1 h E4 hu)
  subst hw
  refine ⟨E5, M4.b0, M4.keep, M4.off, fun a o => M4.sub a ?_, M4.st⟩
  obtain ⟨i, s, y1, y2, y3⟩ := own_wipeR o
  exact ⟨i, s, y1, y2, wipe_get us y3⟩
/-- [e for t in it if c for t1 in it1 if c1] -/
theorem tLc2_of {it it1 : Rho → R (List Dt)} {t t1 : Dt → Rho → Option Rho} {c c1 : Rho → R Bool} {el : Rho → R Dt} {vs vs1 is is1 : List Nat} (his : ∀ i ∈ is, i ∈ vs) (his1 : ∀ i ∈ is1, i ∈ vs1) (hvs : ∀ i ∈ vs1, i ∈ vs) {σ : L2.St} {H : Hp} {Q : VK} (h : tO g F W (lc2O it t c it1 t1 c1 el vs vs1) σ H Q) :
    tLc2 (tI g F W it) (tG g F is t) (tDT g F WF c) (tI g F WF it1) (tG g F is1 t1) (tDT g F WF c1) (tD g F WF el) vs vs1 σ H Q := by
  obtain ⟨H0, ρ, E, q⟩ := h
  refine ⟨H0, ρ, E, ?_⟩
  unfold lc2O at q
  cases e : it ρ with
  | ex x ρ1 =>
    rw [e] at q
    exact q
  | bad =>
    rw [e] at q
    exact q
  | ok xs ρ1 =>
    rw [e] at q
    dsimp only [R.bind] at q
    intro J B0 B E1 m1 hJ D hD
    by_cases hc : okW vs ρ1 = true
    · rw [if_pos hc] at q
      cases er : lc2L t c it1 t1 c1 el vs vs1 xs (wipeR ρ1 vs) with
      | ex _ _ => rw [er] at q; exact q.elim
      | bad => rw [er] at q; exact q.elim
      | ok full ρe =>
        rw [er] at q
        dsimp only at q
        by_cases hf : full.length ≤ 1000000
        rotate_left
        · rw [if_neg hf] at q
          exact q.elim
        rw [if_pos hf] at q
        obtain ⟨G, Y, wk, hG, hY⟩ := hJ
        have hFD : F.H D = none := E1.upF hD
        have nD : ¬ OwnAt σ ρ1 D := E1.notOwn hD
        have Ew := E1.wipe vs hc
        have nDw : ¬ OwnAt (wipe σ vs) (wipeR ρ1 vs) D := fun z => nD (own_wipe (own_wipeR z))
        refine w_it wk (fun i H => ∃ C0 ρc acc done tl, En g.K F C0 H (wipe σ vs) ρc ∧ Mw σ ρ1 (wipe σ vs) ρc B0 B C0 H ∧ H D = some (.lst acc) ∧ C0 D = none ∧ DaAll g.K C0 acc done ∧
          lc2L t c it1 t1 c1 el vs vs1 (xs.drop i) ρc = .ok tl ρe ∧ full = done ++ tl) ?_ (fun i H _ ⟨C0, ρc, acc, done, tl, Ec, mc, _⟩ => hG H (mc.b0.trans Ec.ex)) ?_ ?_
        · refine ⟨B0, wipeR ρ1 vs, [], [], full, Ew.beside (E1.up0 hD) hFD nDw (.inr (.inr hD)), ⟨Same.refl _, fun a o h _ _ => ?_, fun _ _ h _ => h, fun a o => own_wipe (own_wipeR o), fun a h => ?_⟩, upd_same, E1.up0 hD, .nil, by rw [List.drop_zero]; exact er, rfl⟩
          · rw [upd_ne (ne_of_none h hD)]
            exact h
          · have : a ≠ D := fun z => h (z ▸ hD)
            rw [upd_ne this]
            exact h
        · rintro i x H H' hi ⟨C0, ρc, acc, done, tl, Ec, mc, hacc, hC, hdd, hrun, hfull⟩ y
          obtain ⟨d, hd, hx⟩ := hY i H x H' hi (mc.b0.trans Ec.ex) y
          have nc : ¬ OwnAt (wipe σ vs) ρc D := fun z => nD (mc.sub D z)
          obtain ⟨D0, Ed, md, dd⟩ := item_at Ec mc.b0 hx
          have hacc' : H' D = some (.lst acc) := md.kl D hacc nc
          have hC' : D0 D = none := md.off D (by rw [hacc]; exact fun z => nomatch z) hC nc
          have hdrop : xs.drop i = d :: xs.drop (i + 1) := by
            obtain ⟨hlt, hget⟩ := List.getElem?_eq_some_iff.mp hd
            rw [List.drop_eq_getElem_cons hlt, hget]
          rw [hdrop] at hrun
          unfold lc2L at hrun
          cases et : t d ρc with
          | none => rw [et] at hrun; cases hrun
          | some ρ2 =>
            rw [et] at hrun
            dsimp only at hrun
            obtain ⟨b, ρ3, hb, hrun⟩ := bind_ok hrun
            refine ⟨D0, ρc, d, Ed, dd, ρ2, et, fun us E2 ow => ?_⟩
            have hw2 : wipe (setAll is us (wipe σ vs)) vs = wipe σ vs := by rw [wipe_setAll vs is us _ his, wipe_idem vs vs σ fun _ z => z]
            have n2 : ¬ OwnAt (setAll is us (wipe σ vs)) ρ2 D := fun z => nc (ow D z)
            have m2 : Mw (wipe σ vs) ρc (setAll is us (wipe σ vs)) ρ2 D0 H' D0 H' := ⟨Same.refl _, fun _ _ h _ _ => h, fun _ _ h _ => h, fun a o => ow a o, fun _ h => h⟩
            refine ⟨hw2, D0, ρ2, E2, ?_⟩
            rw [hb]
            intro I0 I E3 m3
            generalize hσ2 : setAll is us (wipe σ vs) = σ2 at *
            have n3 : ¬ OwnAt σ2 ρ3 D := fun z => n2 (m3.sub D z)
            have acc3 : I D = some (.lst acc) := m3.kl D hacc' n2
            have C3 : I0 D = none := m3.off D (by rw [hacc']; exact fun z => nomatch z) hC' n2
            have M3 := (mc.trans md).trans (m2.trans m3)
            have hdd3 := (hdd.mono md.b0).mono m3.b0
            cases b with
            | false =>
              rw [if_neg Bool.false_ne_true] at hrun ⊢
              obtain ⟨E5, M5⟩ := wipe_down E1 hc (fun _ z => z) hw2 E3 M3
              exact ⟨I0, wipeR ρ3 vs, acc, done, tl, E5, M5, acc3, C3, hdd3, hrun, hfull⟩
            | true =>
              rw [if_pos rfl] at hrun ⊢
              obtain ⟨ys, ρ4, hit, hrun⟩ := bind_ok hrun
              obtain ⟨ds, ρ5, hlc, hrun⟩ := bind_ok hrun
              obtain ⟨es, ρ6, hrest, hrun⟩ := bind_ok hrun
              cases hrun
              refine ⟨I0, ρ3, E3, ?_⟩
              rw [hit]
              intro J1 L0 L E4 m4 hJ1
              obtain ⟨G1, Y1, wk1, hG1, hY1⟩ := hJ1
              have n4 : ¬ OwnAt σ2 ρ4 D := fun z => n3 (m4.sub D z)
              have acc4 : L D = some (.lst acc) := m4.kl D acc3 n3
              have C4 : L0 D = none := m4.off D (by rw [acc3]; exact fun z => nomatch z) C3 n3
              have M4 := M3.trans m4
              obtain ⟨E5, M5⟩ := wipe_down E1 hc hvs rfl E4 M4
              have hdd4 := hdd3.mono m4.b0
              have sb : Same B0 L0 := M4.b0
              refine w_it wk1 (fun j H => ∃ C0 ρd acc done tl, En g.K F C0 H (wipe σ2 vs1) ρd ∧ Mw σ ρ1 (wipe σ2 vs1) ρd B0 B C0 H ∧ Same L0 C0 ∧ H D = some (.lst acc) ∧ C0 D = none ∧ DaAll g.K C0 acc done ∧
                lcL t1 c1 el vs1 (ys.drop j) ρd = .ok tl ρ5 ∧ full = done ++ (tl ++ es)) ?_ (fun j H _ ⟨C0, ρd, acc, done, tl, Ec, mc, sl, _⟩ => hG1 H (sl.trans Ec.ex)) ?_ ?_
              · exact ⟨L0, wipeR ρ4 vs1, acc, done, ds, E5, M5, Same.refl _, acc4, C4, hdd4, by rw [List.drop_zero]; exact hlc, hfull⟩
              · rintro j x1 H1 H1' hj ⟨C0, ρd, acc, done, tl, Ec, mc, sl, hacc, hC, hdd, hrun, hfull⟩ y
                obtain ⟨d, hd, hx⟩ := hY1 j H1 x1 H1' hj (sl.trans Ec.ex) y
                have nc : ¬ OwnAt (wipe σ2 vs1) ρd D := fun z => nD (mc.sub D z)
                obtain ⟨D0, Ed, md, dd⟩ := item_at Ec sl hx
                have hacc' : H1' D = some (.lst acc) := md.kl D hacc nc
                have hC' : D0 D = none := md.off D (by rw [hacc]; exact fun z => nomatch z) hC nc
                have hdrop : ys.drop j = d :: ys.drop (j + 1) := by
                  obtain ⟨hlt, hget⟩ := List.getElem?_eq_some_iff.mp hd
                  rw [List.drop_eq_getElem_cons hlt, hget]
                rw [hdrop] at hrun
                unfold lcL at hrun
                cases et : t1 d ρd with
                | none => rw [et] at hrun; cases hrun
                | some ρ2 =>
                  rw [et] at hrun
                  dsimp only at hrun
                  obtain ⟨b, ρ3, hb, hrun⟩ := bind_ok hrun
                  refine ⟨D0, ρd, d, Ed, dd, ρ2, et, fun us1 E2 ow => ?_⟩
                  have hw3 : wipe (setAll is1 us1 (wipe σ2 vs1)) vs1 = wipe σ2 vs1 := by rw [wipe_setAll vs1 is1 us1 _ his1, wipe_idem vs1 vs1 σ2 fun _ z => z]
                  have n2 : ¬ OwnAt (setAll is1 us1 (wipe σ2 vs1)) ρ2 D := fun z => nc (ow D z)
                  have m2 : Mw (wipe σ2 vs1) ρd (setAll is1 us1 (wipe σ2 vs1)) ρ2 D0 H1' D0 H1' := ⟨Same.refl _, fun _ _ h _ _ => h, fun _ _ h _ => h, fun a o => ow a o, fun _ h => h⟩
                  refine ⟨hw3, D0, ρ2, E2, ?_⟩
                  rw [hb]
                  intro I0 I E3 m3
                  generalize hσ3 : setAll is1 us1 (wipe σ2 vs1) = σ3 at *
                  have n3 : ¬ OwnAt σ3 ρ3 D := fun z => n2 (m3.sub D z)
                  have acc3 : I D = some (.lst acc) := m3.kl D hacc' n2
                  have C3 : I0 D = none := m3.off D (by rw [hacc']; exact fun z => nomatch z) hC' n2
                  have M3 := (mc.trans md).trans (m2.trans m3)
                  have hdd3 := (hdd.mono md.b0).mono m3.b0
                  have sl3 := (sl.trans md.b0).trans m3.b0
                  cases b with
                  | false =>
                    rw [if_neg Bool.false_ne_true] at hrun ⊢
                    obtain ⟨E5, M5⟩ := wipe_down E1 hc hvs hw3 E3 M3
                    exact ⟨I0, wipeR ρ3 vs1, acc, done, tl, E5, M5, sl3, acc3, C3, hdd3, hrun, hfull⟩
                  | true =>
                    rw [if_pos rfl] at hrun ⊢
                    obtain ⟨d2, ρ4, hel, hrun⟩ := bind_ok hrun
                    obtain ⟨ds2, ρ5', hrest2, hrun⟩ := bind_ok hrun
                    cases hrun
                    refine ⟨I0, ρ3, E3, ?_⟩
                    rw [hel]
                    intro v2 N0 N E4 m4 dv
                    have n4 : ¬ OwnAt σ3 ρ4 D := fun z => n3 (m4.sub D z)
                    have acc4 : N D = some (.lst acc) := m4.kl D acc3 n3
                    have C4 : N0 D = none := m4.off D (by rw [acc3]; exact fun z => nomatch z) C3 n3
                    obtain ⟨E5, M5⟩ := wipe_down E1 hc hvs hw3 E4 (M3.trans m4)
                    have n5 : ¬ OwnAt (wipe σ2 vs1) (wipeR ρ4 vs1) D := fun z => nD (M5.sub D z)
                    have hal : acc.length = done.length := hdd.length
                    have hlen : done.length < 1000000 := by
                      have h1 : full.length = done.length + (ds2.length + 1 + es.length) := by rw [hfull]; simp only [List.length_append, List.length_cons]
                      omega
                    refine ⟨acc, acc4, Nat.lt_of_lt_of_le (by rw [hal]; exact hlen) (by decide), N0, wipeR ρ4 vs1, acc ++ [v2], done ++ [d2], ds2, E5.beside C4 hFD n5 (.inl ⟨_, acc4⟩), ⟨M5.b0, fun a o h nt ho => ?_, M5.off, M5.sub, fun a h => ?_⟩, sl3.trans m4.b0, upd_same, C4,
                      (hdd3.mono m4.b0).append (.cons dv .nil), hrest2, by rw [hfull, List.append_assoc]; rfl⟩
                    · rw [upd_ne (ne_of_none h hD)]
                      exact M5.keep a o h nt ho
                    · have : a ≠ D := fun z => h (z ▸ hD)
                      rw [upd_ne this]
                      exact M5.st a h
              · rintro H1 ⟨C0, ρd, acc, done, tl, Ec, mc, sl, hacc, hC, hdd, hrun, hfull⟩
                rw [List.drop_length] at hrun
                cases hrun
                rw [List.nil_append] at hfull
                have hw4 : wipe (wipe σ2 vs1) vs = wipe σ vs := by rw [wipe_idem vs vs1 σ2 hvs]; exact hw2
                obtain ⟨E6, M6⟩ := wipe_down E1 hc (fun _ z => z) hw4 Ec mc
                exact ⟨C0, _, acc, done, es, E6, M6, hacc, hC, hdd, hrest, hfull⟩
        · rintro H ⟨C0, ρc, acc, done, tl, Ec, mc, hacc, hC, hdd, hrun, hfull⟩
          rw [List.drop_length] at hrun
          cases hrun
          rw [List.append_nil] at hfull
          subst hfull
          have E6 : En g.K F C0 H σ ρe := Ec.unwipe (by rw [E1.len, ← E1.len, ← wipe_length σ vs, Ec.len])
          refine q _ C0 H E6 (m1.trans ⟨mc.b0, mc.keep, mc.off, fun a o => ?_, mc.st⟩) ⟨D, acc, rfl, hC, hFD, hacc, hdd⟩ fun _ b z => by cases z; exact m1.fresh hD
          obtain ⟨i, s, y1, y2, y3⟩ := o
          obtain ⟨w, z1, _⟩ := Ec.sl i s y1
          have z2 := wipe_get vs z1
          rw [y3] at z2
          cases z2
          exact mc.sub a ⟨i, s, y1, y2, z1⟩
    · rw [if_neg hc] at q
      exact q.elim
end
section
variable {X : Cx} {W : WX} {a b e : Expr} {pos p p2 p3 : Pos} {f1 : Rho → R Dt}
theorem ds_setLc2 (i : Nat) {y : Str} {py spos : Pos} {elt tg iter tg1 iter1 : Expr} {ifs ifs1 : List Expr} {scope : Scope} {own : List (Str × Nat)} {it it1 : Rho → R (List Dt)} {t t1 : Dt → Rho → Option Rho} {ct ct1 : Rho → R Bool} {el : Rho → R Dt} {is is1 vs1 : List Nat} (hc : X.calm = true) (hN : X.N.Nodup)
    (hsw : swapsWith (.ListComp elt [⟨tg, iter, ifs, 0⟩, ⟨tg1, iter1, ifs1, 0⟩] scope pos) (some (.Name y py)) spos.line X.env = pure true) (hi : DI X W tg iter it) (ok : BlkOk X.N X.env.scope scope own) (hv : ∀ i ∈ vs1, i ∈ own.map (·.2))
    (hg : ∀ s H C cl fp, DG (blkX X scope s H C cl fp) tg is t) (ht : ∀ s H C cl fp, DTs (blkX X scope s H C cl fp) WF ifs ct) (hi1 : ∀ s H C cl fp, DI (blkX X scope s H C cl fp) WF tg1 iter1 it1) (hg1 : ∀ s H C cl fp, DG (blkX X scope s H C cl fp) tg1 is1 t1) (ht1 : ∀ s H C cl fp, DTs (blkX X scope s H C cl fp) WF ifs1 ct1)
    (he : ∀ s H C cl fp, DE (blkX X scope s H C cl fp) WF elt el) (his : ∀ i ∈ is, i ∈ own.map (·.2)) (his1 : ∀ i ∈ is1, i ∈ vs1)
    (hy : X.N[i]? = some y := by rfl) (hyl : X.env.scope.names.lookup y = some .local := by rfl)
    (hs : ∀ x, foldedSetIterable iter X.env x = pure x := by intro _; rfl) (hs1 : ∀ env x, foldedSetIterable iter1 env x = pure x := by intro _ _; rfl) : DS X W (.Assign [.Name y py] (.ListComp elt [⟨tg, iter, ifs, 0⟩, ⟨tg1, iter1, ifs1, 0⟩] scope pos) spos) (setS i (frzR (lc2O it t ct it1 t1 ct1 el (own.map (·.2)) vs1))) :=
  fun F => PS.wk (ps_setLc2 hc hN hy hyl hsw (hi F) ok hv (fun s H C cl fp => hg s H C cl fp F) (fun s H C cl fp => ht s H C cl fp F) (fun s H C cl fp => hi1 s H C cl fp F) (fun s H C cl fp => hg1 s H C cl fp F) (fun s H C cl fp => ht1 s H C cl fp F) (fun s H C cl fp => he s H C cl fp F) hs hs1) fun D σ H h => by
    have h2 : tD (gx X) F W (frzR (lc2O it t ct it1 t1 ct1 el (own.map (·.2)) vs1)) σ H (fun x H1 => gName i x σ H1 D.nx) := by
      refine tD_bindS h fun v H0 H' ρ1 d E hd q => ?_
      obtain ⟨ρ2, e, k⟩ := nxO_post q
      exact k _ H' (E.putFr hd e)
    exact tLc2_of his his1 hv (tO_frz h2)
theorem do_lc2 {elt tg iter tg1 iter1 : Expr} {ifs ifs1 : List Expr} {scope : Scope} {own : List (Str × Nat)} {it it1 : Rho → R (List Dt)} {t t1 : Dt → Rho → Option Rho} {ct ct1 : Rho → R Bool} {el : Rho → R Dt} {is is1 vs1 : List Nat} (hc : X.calm = true) (hN : X.N.Nodup)
    (hi : DI X W tg iter it) (ok : BlkOk X.N X.env.scope scope own) (hv : ∀ i ∈ vs1, i ∈ own.map (·.2))
    (hg : ∀ s H C cl fp, DG (blkX X scope s H C cl fp) tg is t) (ht : ∀ s H C cl fp, DTs (blkX X scope s H C cl fp) WF ifs ct) (hi1 : ∀ s H C cl fp, DI (blkX X scope s H C cl fp) WF tg1 iter1 it1) (hg1 : ∀ s H C cl fp, DG (blkX X scope s H C cl fp) tg1 is1 t1) (ht1 : ∀ s H C cl fp, DTs (blkX X scope s H C cl fp) WF ifs1 ct1)
    (he : ∀ s H C cl fp, DE (blkX X scope s H C cl fp) WF elt el) (his : ∀ i ∈ is, i ∈ own.map (·.2)) (his1 : ∀ i ∈ is1, i ∈ vs1)
    (hs : ∀ x, foldedSetIterable iter X.env x = pure x := by intro _; rfl) (hs1 : ∀ env x, foldedSetIterable iter1 env x = pure x := by intro _ _; rfl) : DO X W (.ListComp elt [⟨tg, iter, ifs, 0⟩, ⟨tg1, iter1, ifs1, 0⟩] scope pos) (lc2O it t ct it1 t1 ct1 el (own.map (·.2)) vs1) :=
  fun F => PE.wk (pe_lc2 hc hN (hi F) ok hv (fun s H C cl fp => hg s H C cl fp F) (fun s H C cl fp => ht s H C cl fp F) (fun s H C cl fp => hi1 s H C cl fp F) (fun s H C cl fp => hg1 s H C cl fp F) (fun s H C cl fp => ht1 s H C cl fp F) (fun s H C cl fp => he s H C cl fp F) hs hs1) fun _ _ _ q => tLc2_of his his1 hv q
/-- list(range(n)) -/
theorem de_listRg1 (hc : X.calm = true) (hg : Gl X "list") (hm : X.mg "list" = none) (hgr : Gl X "range") (hmr : X.mg "range" = none) (ha : DE X W a f1)
    (na : starEach [.Call (.Name "range" p2) [a] [] p3] X.env = (false, eval (.Call (.Name "range" p2) [a] [] p3) X.env) :: starEach [] X.env := by rfl) (nb : starEach [a] X.env = (false, eval a X.env) :: starEach [] X.env := by rfl) :
    DE X W (.Call (.Name "list" p) [.Call (.Name "range" p2) [a] [] p3] [] pos) (rgList rngD2 (consA (cst (.int (0 : Nat))) (consA f1 nilA))) := fun F => PE.wk (pe_listRg hc hg hm (prg_1 hgr hmr (ha F) nb) na) fun σ H Q ⟨H0, ρ, E, q⟩ => by
  refine ⟨H0, ρ, E, ?_⟩
  unfold rgList consA cst at q
  dsimp only [R.bind] at q
  cases e2 : f1 ρ with
  | ok y ρ2 =>
    rw [e2] at q
    dsimp only [R.bind, nilA] at q
    intro w C0 C E2 m2 d2
    cases e3 : rngD2 [.int (0 : Nat), y] with
    | none => rw [e3] at q; exact q.elim
    | some xs =>
      rw [e3] at q
      dsimp only at q
      by_cases hl : xs.length ≤ 1000000
      · rw [if_pos hl] at q
        unfold rngD2 at e3
        split at e3
        · rename_i ds i j hd
          cases hd
          split at e3
          · rename_i hb
            cases e3
            cases d2
            refine ⟨j, rfl, rgOk2 hb hl, al_lst (K := X.K) E2.ex (rgV_da _ j) fun v D0 D gr s3 hv => ?_⟩
            obtain ⟨E3, m3⟩ := E2.post m2 gr s3
            exact q v D0 D E3 m3 hv
          · cases e3
        · cases e3
      · rw [if_neg hl] at q
        exact q.elim
  | ex x ρ1 => rw [e2] at q; exact q
  | bad => rw [e2] at q; exact q
end
end DW

set_option Elab.async false
set_option linter.all false
set_option maxRecDepth 100000
set_option maxHeartbeats 4000000
/-! DWTB: a table of the module with text keys, never changed: `x in T`, `T[x]` -/
namespace DW
open PySem PySem.Spec PyProof.Rows L2
theorem ix_kd {X : Cx} {d : Addr} {es : Array DictEntry} {n : Nat} (D : KDict X.K X.w d es n) : IxR X (fun x y H Q => ∃ (z : Str) (u0 : Value) (v0 : V), x = .ref d ∧ y = .str z ∧ PySem.W.nsIn X.K d z = some (some u0) ∧ RelV v0 u0 ∧ Q v0 H) := by
  intro value slice pins s σ H x y v u Q I rx ry h hs
  obtain ⟨z, u0, v0, rfl, rfl, e, r, q⟩ := h
  cases rx
  obtain ⟨t, rfl⟩ := ry
  exact subscriptTail_builtinR (x := u0) (kd_type D I) slot_dict_getitem.lookup
    (wpAny_getItem_of (Q := fun r s' => r = u0 ∧ EP X pins σ Q r s') (PySem.strKind_is X.prog X.w z t) (PySem.W.mapOf_K (prog := X.prog) I.kIn D.at_ D.lit) (PySem.W.find_K D.at_ e) ⟨rfl, v0, H, I.tok _, r, q⟩) hs
/-- the table nm: what stands at each key, what is no key -/
def Tbl (K : PySem.W.Frag) (w : World) (mg : Str → Option Value) (nm : Str) (ks : List (Str × Dt)) (no : List Str) : Prop :=
  ∃ (d : Addr) (es : Array DictEntry) (n : Nat), mg nm = some (.ref d) ∧ KDict K w d es n ∧ (∀ p ∈ ks, ∃ u v, PySem.W.nsIn K d p.1 = some (some u) ∧ RelV v u ∧ ∀ H, Da K H v p.2) ∧ ∀ s ∈ no, PySem.W.nsIn K d s = some none
def inTb (ks : List (Str × Dt)) (no : List Str) : Dt → Option Dt
  | .str s => if s ∈ ks.map (·.1) then some (.bl true) else if s ∈ no then some (.bl false) else none
  | _ => none
def itTb (ks : List (Str × Dt)) : Dt → Option Dt
  | .str s => ks.lookup s
  | _ => none
theorem lookup_mem {ks : List (Str × Dt)} {s : Str} {d : Dt} (h : ks.lookup s = some d) : (s, d) ∈ ks := by
  induction ks with
  | nil => cases h
  | cons p ks ih =>
    obtain ⟨k, e⟩ := p
    rw [List.lookup_cons] at h
    split at h
    · rename_i hk
      cases h
      have : s = k := by simpa using hk
      rw [this]
      exact List.mem_cons_self ..
    · exact List.mem_cons_of_mem _ (ih h)
section
variable {X : Cx} {W : WX} {nm : Str} {ks : List (Str × Dt)} {no : List Str} {a : Expr} {p pos : Pos} {f1 : Rho → R Dt}
theorem pe_tab {d : Addr} (hg : Gl X nm) (hm : X.mg nm = some (.ref d)) (hd : (nm == ("__debug__" : Str)) = false := by decide) : PE X (.Name nm p) (fun σ H Q => Q (.ref d) H) :=
  ⟨fun pins s σ H Q I h => ld_glob I hg hm ⟨.ref d, H, I, rfl, h⟩ hd⟩
theorem und_in {K : PySem.W.Frag} {d : Addr} (h1 : ∀ p ∈ ks, ∃ u v, PySem.W.nsIn K d p.1 = some (some u) ∧ RelV v u ∧ ∀ H, Da K H v p.2) (h2 : ∀ s ∈ no, PySem.W.nsIn K d s = some none) :
    UnD K (fun x H Q => ∃ (z : Str) (r : Option Value), x = .str z ∧ V.ref d = .ref d ∧ PySem.W.nsIn K d z = some r ∧ Q (.bl r.isSome) H) (inTb ks no) := by
  intro x dd z H0 H s hx hg Q k
  unfold inTb at hg
  split at hg
  · rename_i t
    cases hx
    split at hg
    · rename_i hm
      cases hg
      obtain ⟨q, hq, rfl⟩ := List.mem_map.mp hm
      obtain ⟨u, v, e, _⟩ := h1 q hq
      exact ⟨_, _, rfl, rfl, e, sc s (.bl _) k⟩
    · split at hg
      · rename_i hn
        cases hg
        exact ⟨_, _, rfl, rfl, h2 _ hn, sc s (.bl _) k⟩
      · cases hg
  · cases hg
theorem de_inT (T : Tbl X.K X.w X.mg nm ks no) (hg : Gl X nm) (ha : DK X W a f1) (hm : behindInMarks .In (.Name nm p) = false := by rfl) (hd : (nm == ("__debug__" : Str)) = false := by decide) : DE X W (.Compare a [.In] [.Name nm p] pos) (un (inTb ks no) f1) := fun F => by
  obtain ⟨d, es, n, h0, D, h1, h2⟩ := T
  exact PE.wk (pe_cmpR (op_in_kd D) (ha F) (pe_tab hg h0 hd) hm) fun σ H Q h => tUn_un (und_in h1 h2) h
theorem dt_inT (T : Tbl X.K X.w X.mg nm ks no) (hg : Gl X nm) (ha : DK X W a f1) (hm : behindInMarks .In (.Name nm p) = false := by rfl) (hd : (nm == ("__debug__" : Str)) = false := by decide) : DT X W (.Compare a [.In] [.Name nm p] pos) (tstF (un (inTb ks no) f1)) := fun F => by
  obtain ⟨d, es, n, h0, D, h1, h2⟩ := T
  exact PT.wk (pt_cmpR (op_in_kd D) (ha F) (pe_tab hg h0 hd) hm) fun σ H Q h => tUn_un (und_in h1 h2) (tTest_of h)
theorem de_itT (T : Tbl X.K X.w X.mg nm ks no) (hg : Gl X nm) (ha : DK X W a f1) (hs : PlainIx a) (hd : (nm == ("__debug__" : Str)) = false := by decide) : DE X W (.Subscript (.Name nm p) a pos) (un (itTb ks) f1) := fun F => by
  obtain ⟨d, es, n, h0, D, h1, h2⟩ := T
  refine PE.wk (pe_ix (ix_kd D) (pe_tab hg h0 hd) (ha F) hs) fun σ H Q h => tUn_un (r := fun y H Q => ∃ (z : Str) (u0 : Value) (v0 : V), V.ref d = .ref d ∧ y = .str z ∧ PySem.W.nsIn X.K d z = some (some u0) ∧ RelV v0 u0 ∧ Q v0 H) (fun x dd z H0 H s hx hgg Q k => ?_) h
  unfold itTb at hgg
  split at hgg
  · rename_i t
    cases hx
    obtain ⟨u, v, e, r, hv⟩ := h1 _ (lookup_mem hgg)
    exact ⟨_, u, v, rfl, rfl, e, r, sc s (hv _) k⟩
  · cases hgg
end
/-! ### seen at the head -/
def tup2B (K : PySem.W.Frag) (u : Value) (lo hi : Int) : Bool := match u with
  | .ref t => (match K.lookup t with
    | some ⟨.type c, _, .seq its _, _⟩ => (match its.toList with
      | [.int a _, .int b _] => decide (c = "tuple") && (decide (a = lo) && decide (b = hi))
      | _ => false)
    | _ => false)
  | _ => false
theorem tup2B_ok {K : PySem.W.Frag} {u : Value} {lo hi : Int} (h : tup2B K u lo hi = true) : ∃ v, RelV v u ∧ ∀ H, Da K H v (.tup [.int lo, .int hi]) := by
  unfold tup2B at h
  split at h
  · rename_i t
    split at h
    · rename_i c dct its n sl e
      split at h
      · rename_i a ta b tb el
        rw [Bool.and_eq_true, Bool.and_eq_true, decide_eq_true_eq, decide_eq_true_eq, decide_eq_true_eq] at h
        obtain ⟨rfl, rfl, rfl⟩ := h
        refine ⟨.ref t, rfl, fun H => .tup (xs := [.int a, .int b]) (.inr ⟨_, its, n, e, rfl, rfl, ?_, ?_⟩) (.cons (.int _) (.cons (.int _) .nil))⟩
        · have : its.size = 2 := by rw [← Array.length_toList, el]; rfl
          rw [this]
          decide
        · rw [el]
          exact .cons ⟨_, rfl⟩ (.cons ⟨_, rfl⟩ .nil)
      · cases h
    · cases h
  · cases h
abbrev Row2 : Type := Str × Int × Int
abbrev row2D (r : Row2) : Str × Dt := (r.1, .tup [.int r.2.1, .int r.2.2])
def tabB (nm : Str) (ks : List Row2) (no : List Str) (K : PySem.W.Frag) : Bool :=
  He.eqO (PySem.W.nsIn K mainGlobals nm) (some (some (.ref (He.ga K nm)))) && (ks.all (fun r => match PySem.W.nsIn K (He.ga K nm) r.1 with
    | some (some u) => tup2B K u r.2.1 r.2.2
    | _ => false) && no.all fun s => He.eqO (PySem.W.nsIn K (He.ga K nm) s) (some none))
theorem tabB_ok {K : PySem.W.Frag} {w : World} {h : Heap} {mg : Str → Option Value} {nm : Str} {ks : List Row2} {no : List Str} (X : K.In h) (G : h.Ns mainGlobals mg) (D : ∃ es n, KDict K w (He.ga K nm) es n) (hb : tabB nm ks no K = true) : Tbl K w mg nm (ks.map row2D) no := by
  unfold tabB at hb
  rw [Bool.and_eq_true, Bool.and_eq_true, List.all_eq_true, List.all_eq_true] at hb
  obtain ⟨h1, h2, h3⟩ := hb
  obtain ⟨es, n, D⟩ := D
  refine ⟨He.ga K nm, es, n, PySem.W.mg_of X G (He.eqO_ok h1), D, fun p hp => ?_, fun s hs => He.eqO_ok (h3 s hs)⟩
  obtain ⟨r, hr, rfl⟩ := List.mem_map.mp hp
  have := h2 r hr
  split at this
  · rename_i u e
    obtain ⟨v, hv, hd⟩ := tup2B_ok this
    exact ⟨u, v, e, hv, hd⟩
  · cases this
end DW

set_option Elab.async false
set_option linter.all false
set_option maxRecDepth 100000
set_option maxHeartbeats 4000000
/-! DWKW: a def called with all its arguments by their names -/
namespace DW
open PySem PySem.Spec PyProof.Rows L2
/-- what stands at the places ix -/
def permD {α : Type} (ix : List Nat) (ds : List α) : List α := ix.filterMap fun i => ds[i]?
theorem DaAll.perm {K : PySem.W.Frag} {H : Hp} {vs : List V} {ds : List Dt} (h : DaAll K H vs ds) : ∀ ix : List Nat, DaAll K H (permD ix vs) (permD ix ds)
  | [] => .nil
  | i :: ix => by
    have ih := h.perm ix
    unfold permD at ih ⊢
    rw [List.filterMap_cons, List.filterMap_cons]
    cases e : ds[i]? with
    | none =>
      have : vs[i]? = none := by
        rw [List.getElem?_eq_none_iff] at e ⊢
        rw [h.length]
        exact e
      rw [this]
      exact ih
    | some d =>
      obtain ⟨v, h1, h2⟩ := h.get e
      rw [h1]
      exact .cons h2 ih
theorem vals_perm {vs : List V} {us : List Value} (h : Vals vs us) : ∀ ix : List Nat, Vals (permD ix vs) (permD ix us)
  | [] => .nil
  | i :: ix => by
    have ih := vals_perm h ix
    have key : ∀ {vs : List V} {us : List Value}, Vals vs us → ∀ i : Nat, (vs[i]? = none ∧ us[i]? = none) ∨ ∃ v u, vs[i]? = some v ∧ us[i]? = some u ∧ RelV v u := fun h => by
      induction h with
      | nil => exact fun i => .inl ⟨by simp, by simp⟩
      | cons r _ ih =>
        intro i
        cases i with
        | zero => exact .inr ⟨_, _, rfl, rfl, r⟩
        | succ i => exact ih i
    unfold permD at ih ⊢
    rw [List.filterMap_cons, List.filterMap_cons]
    rcases key h i with ⟨h1, h2⟩ | ⟨v, u, h1, h2, r⟩
    · rw [h1, h2]
      exact ih
    · rw [h1, h2]
      exact .cons r ih
/-- a def, and how it stands: for calls by names -/
def HasL (P : Program) (w : World) (K : PySem.W.Frag) (mg : Str → Option Value) (base : Heap) (x : Str) (st : Stmt) (ps : List Str) (fn : Fn) (k : Nat) : Prop :=
  ∃ f fd, mg x = some (.ref f) ∧ PySem.W.keepIn K (.ref f) = true ∧ Binds K fd ps [] ∧ FnG P w K mg base CX0 k f fd ps (spF ⟨K, mg⟩ fn) ∧ ∃ (kV doc pm : Value) (an : Option Addr) (cdv ct : Value), fd = PySem.W.fnOf x x (defArgs st) (defBody st) (defScope st) .none kV doc pm an cdv ct
section
variable {P : Program} {w : World} {K : PySem.W.Frag} {mg : Str → Option Value} {base : Heap}
theorem HasL.has {x : Str} {st : Stmt} {ps : List Str} {fn : Fn} {k : Nat} (h : HasL P w K mg base x st ps fn k) : Has P w K mg base x ps fn k := by
  obtain ⟨f, fd, h1, h2, h3, h4, _⟩ := h
  exact ⟨f, fd, h1, h2, h3, h4⟩
theorem hasL0 {x : Str} {st : Stmt} {N ps : List Str} {k : Nat} {body : Rho → SR} (D : IsDef K mg x st) (S : FnScope N ps (defScope st)) (hN : ps.length ≤ N.length)
    (hbi : ∀ (kV doc pm : Value) (an : Option Addr) (cdv ct : Value) (us : List Value), us.length = ps.length → bindArgs (PySem.W.fnOf x x (defArgs st) (defBody st) (defScope st) .none kV doc pm an cdv ct) ⟨us, []⟩ = pure (ps.zip us))
    (hb : ∀ (f : Addr) (cdv : Value) (A : Around) (outer : List Env) (s : Shared) (H : Hp) (E : XK), Room k (A.deeper (envOfC x (defScope st) s.heap.objs.size f cdv)) → Quiet (A.deeper (envOfC x (defScope st) s.heap.objs.size f cdv)) → mg x = some (.ref f) ∧ CdOk K f cdv → DSs (cxOf CX0 P w K mg base N x (defScope st) f cdv A outer s H E).nox WF (defBody st) body) :
    HasL P w K mg base x st ps (runF ps.length N.length body) (k + 1) := by
  obtain ⟨f, fd, F, hm⟩ := D
  obtain ⟨oc, od, dV, kV, doc, pm, an, cdv, ct, osl, e, lk, hcd, hD, hK⟩ := F.ex
  have ed : dV = .none := by
    rcases hD with ⟨_, e⟩ | ⟨z, _⟩
    · exact e
    · exact absurd rfl z
  subst ed
  exact ⟨f, fd, hm, F.kp, F.bindsN hbi, fnD0 F S hN fun cdv A outer s H E hr hq hc => hb f cdv A outer s H E hr hq ⟨hm, hc⟩, kV, doc, pm, an, cdv, ct, e⟩
end
section
variable {X : Cx} {W : WX} {e : Expr} {kws : List Keyword} {pos p kpos : Pos} {fa f1 : Rho → R (List Dt)} {fe : Rho → R Dt} {k j : Nat} {ps ks : List Str} {x : Str} {nm : Option Str} {ix : List Nat} {st : Stmt}
def DKw (X : Cx) (W : WX) (kws : List Keyword) (f : Rho → R (List Dt)) : Prop := ∀ F, PK X kws (tDA (gx X) F W f)
theorem dk_nil : DKw X W [] nilA := fun F => ⟨fun pos pins s σ H Q I h => pk_nil.run pos pins s σ H Q I (tNil_of h)⟩
theorem dk_cons (ha : DE X W e fe) (hr : DKw X W kws fa) : DKw X W (⟨nm, e, kpos⟩ :: kws) (consA fe fa) := fun F => ⟨fun pos pins s σ H Q I h => (pk_cons (ha F) (hr F)).run pos pins s σ H Q I (tCons_of h)⟩
def kwF (ix : List Nat) (n : Nat) (fn : Fn) : Fn := fun ds => if ds.length = n then fn (permD ix ds) else .bad
theorem de_hK {fn : Fn} (ks : List Str) (ix : List Nat) (h : HasL X.prog X.w X.K X.mg X.base x st ps fn j) (hr : Room k X.A) (hq : Quiet X.A) (hjk : j ≤ k) (hg : Gl X x) (ha : DKw X W kws fa)
    (hbk : ∀ (kV doc pm : Value) (an : Option Addr) (cdv ct : Value) (ws : List Value), ws.length = ks.length → bindArgs (PySem.W.fnOf x x (defArgs st) (defBody st) (defScope st) .none kV doc pm an cdv ct) ⟨[], ks.zip ws⟩ = pure (ps.zip (permD ix ws)))
    (hks : (backToKw pos (keywordEach kws X.env)).filterMap (·.1) = ks := by rfl)
    (hdb : (x == ("__debug__" : Str)) = false := by decide) (hall : (backToKw pos (keywordEach kws X.env)).all (·.1.isSome) = true := by rfl)
    (hpl : ((backTo pos (starEach [] X.env)).any (·.1) || (backToKw pos (keywordEach kws X.env)).any (·.1.isNone)) = false := by rfl) :
    DE X W (.Call (.Name x p) [] kws pos) (callF (kwF ix ks.length fn) fa) := by
  obtain ⟨f, fd, hm, hk, hb, G, kV, doc, pm, an, cdv, ct, rfl⟩ := h
  refine fun F => ⟨fun pins s σ H Q I h => ?_⟩
  refine wpAny_Call_Name_kw (ld_glob I hg hm ?_ hdb)
  refine PySem.W.callWith_KW0 (h₀ := X.base) I.ok.mod.kin hk hall (thn ((ha F).run pos pins s σ H _ I (tCall_of (E := E0) h)) fun ws s2 ⟨zs, H2, I2, rz, q⟩ => ⟨I2.kIn, ?_⟩) hpl
  rw [hks]
  replace q : spF (gx X) (kwF ix ks.length fn) zs H2 Q E0 := by have := q; dsimp only at this; rwa [List.append_nil] at this
  obtain ⟨H0, ds, sm, tb, da, m⟩ := q
  unfold kwF at m
  by_cases hl : ds.length = ks.length
  rotate_left
  · rw [if_neg hl] at m
    exact m.elim
  rw [if_pos hl] at m
  have hsp : spF (gx X) fn (permD ix zs) H2 Q E0 := ⟨H0, permD ix ds, sm, tb, da.perm ix, m⟩
  have hw : ws.length = ks.length := by rw [← rz.length, da.length, hl]
  refine wpAny_call (codeAny_mono (G.run X.A X.stack s2 H2 ⟨[], ks.zip ws⟩ (permD ix ws) (permD ix zs) Q E0 (hr.mono hjk) hq I2.env0 (.of_eq (hbk _ _ _ _ _ _ ws hw)) (vals_perm rz ix) hsp) fun res s' hq => ?_)
  match res, hq with
  | .error err, hq => exact pass0 pins σ H2 s2 err s' I2 hq
  | .ok (.ret u), hq => exact I2.after hq
  | .ok .next, hq => exact False.elim hq
  | .ok .brk, hq => exact False.elim hq
  | .ok .cont, hq => exact False.elim hq
end
end DW

set_option Elab.async false
set_option linter.all false
set_option maxRecDepth 100000
set_option maxHeartbeats 4000000
/-! DWHD: the head of a great law, looked at part by part -/
namespace DWX
open PySem PySem.W PySem.Calls PyProof.Rows PySem.HandSPX He
theorem opt_some {α β : Type} {x : Option α} {f : α → β} {b : β} (h : x.map f = some b) : ∃ s, x = some s ∧ f s = b := Option.map_eq_some_iff.mp h
theorem opt_at {α β : Type} {x : Option α} {f : α → β} {b : β} {s : α} (h : x.map f = some b) (e : x = some s) : f s = b := by
  rw [e] at h
  exact Option.some.inj h
abbrev fnsOk (fn : List DefD) (K : Frag) : Bool × List FnW := (fn.all (fun d => d.ok K), fn.map fun d => fnW K d.at_)
abbrev restOk (fa : List Fa) (ts : List Tab) (tf : List Defn) (file : Str) (xs : List XD) (ex : Frag → Bool) (g : Addr → Option Obj) (K : Frag) := (fa.all (fun f => f.ok K), xs.all (XD.ok file K) && (tabsB g tf K && ex K), ts.map (fun t => dicW K (t.1 K)), xs.map fun d => fnE K (initAt K d.cn))
theorem fns_app {f1 f2 : List DefD} {K : Frag} (h1 : fnsOk f1 K = (true, f1.map DefD.val)) (h2 : fnsOk f2 K = (true, f2.map DefD.val)) : fnsOk (f1 ++ f2) K = (true, (f1 ++ f2).map DefD.val) := by
  have a1 : f1.all (fun d => d.ok K) = true := congrArg (·.1) h1
  have a2 : f2.all (fun d => d.ok K) = true := congrArg (·.1) h2
  have b1 : f1.map (fun d => fnW K d.at_) = f1.map DefD.val := congrArg (·.2) h1
  have b2 : f2.map (fun d => fnW K d.at_) = f2.map DefD.val := congrArg (·.2) h2
  unfold fnsOk
  rw [List.all_append, List.map_append, List.map_append, a1, a2, b1, b2]
  rfl
theorem obsE_of {n : Nat} {fa : List Fa} {fn : List DefD} {ts : List Tab} {tf : List Defn} {file : Str} {xs : List XD} {ex : Frag → Bool} {w : World} {g : Addr → Option Obj} (h1 : restOk fa ts tf file xs ex g (frE g n) = (true, true, ts.map (fun t => some (keysIn w.params t.2)), xs.map XD.val)) (h2 : fnsOk fn (frE g n) = (true, fn.map DefD.val)) :
    obsE n fa fn ts tf file xs ex g = valE fn ts xs w := by
  have a1 : fa.all (fun f => f.ok (frE g n)) = true := congrArg (·.1) h1
  have a2 : (xs.all (XD.ok file (frE g n)) && (tabsB g tf (frE g n) && ex (frE g n))) = true := congrArg (·.2.1) h1
  have a3 : ts.map (fun t => dicW (frE g n) (t.1 (frE g n))) = ts.map (fun t => some (keysIn w.params t.2)) := congrArg (·.2.2.1) h1
  have a4 : (xs.map fun d => fnE (frE g n) (initAt (frE g n) d.cn)) = xs.map XD.val := congrArg (·.2.2.2) h1
  have b1 : fn.all (fun d => d.ok (frE g n)) = true := congrArg (·.1) h2
  have b2 : fn.map (fun d => fnW (frE g n) d.at_) = fn.map DefD.val := congrArg (·.2) h2
  unfold obsE obsT obsD valE valT valD
  rw [a1, a2, a3, a4, b1, b2]
  rfl
end DWX

set_option Elab.async false
set_option linter.all false
set_option maxRecDepth 100000
set_option maxHeartbeats 4000000
/-! P1: reckoning with data functions: one rule each, and rules of loops -/
namespace PL
open PySem DW
open L2 (Key)
section
variable {ρ ρ1 ρ2 ρ3 : Rho} {d e z w : Dt} {f1 f2 f3 : Rho → R Dt} {b c : Bool} {cd c1 c2 : Rho → R Bool} {i : Nat} {r : SR} {s t : Rho → SR} {fa : Rho → R (List Dt)} {ds : List Dt}
theorem e_un {g : Dt → Option Dt} (h1 : f1 ρ = .ok d ρ1) (h2 : g d = some z) : un g f1 ρ = .ok z ρ1 := by simp only [un, h1, R.bind, h2]
theorem e_bin {g : Dt → Dt → Option Dt} (h1 : f1 ρ = .ok d ρ1) (h2 : f2 ρ1 = .ok e ρ2) (h3 : g d e = some z) : bin g f1 f2 ρ = .ok z ρ2 := by simp only [bin, h1, h2, R.bind, h3]
theorem e_binP {g : Dt → Dt → Option Dt} {d0 : Dt} (h0 : pk i ρ = some d0) (h2 : f2 ρ = .ok e ρ1) (h1 : pk i ρ1 = some d) (h3 : g d e = some z) : binP g i f2 ρ = .ok z ρ1 := by simp only [binP, h0, h1, h2, R.bind, h3]
theorem e_tst (h1 : f1 ρ = .ok (.bl b) ρ1) : tstF f1 ρ = .ok b ρ1 := by simp only [tstF, h1, R.bind]
theorem e_tru (h1 : f1 ρ = .ok d ρ1) (h2 : truD d = some b) : truF f1 ρ = .ok b ρ1 := by simp only [truF, h1, R.bind, h2]
theorem e_not (h1 : cd ρ = .ok b ρ1) : notT cd ρ = .ok (!b) ρ1 := by simp only [notT, h1, R.bind]
theorem e_andT (h1 : c1 ρ = .ok true ρ1) (h2 : c2 ρ1 = .ok b ρ2) : andT c1 c2 ρ = .ok b ρ2 := by simp only [andT, h1, R.bind, h2, if_true]
theorem e_andF (h1 : c1 ρ = .ok false ρ1) : andT c1 c2 ρ = .ok false ρ1 := by simp only [andT, h1, R.bind]; rfl
theorem e_orT (h1 : c1 ρ = .ok true ρ1) : orT c1 c2 ρ = .ok true ρ1 := by simp only [orT, h1, R.bind]; rfl
theorem e_orF (h1 : c1 ρ = .ok false ρ1) (h2 : c2 ρ1 = .ok b ρ2) : orT c1 c2 ρ = .ok b ρ2 := by simp only [orT, h1, R.bind, h2]; rfl
theorem e_andVT (h1 : f1 ρ = .ok (.bl true) ρ1) (h2 : f2 ρ1 = .ok d ρ2) : andV f1 f2 ρ = .ok d ρ2 := by simp only [andV, h1, R.bind, h2]; rfl
theorem e_andVF (h1 : f1 ρ = .ok (.bl false) ρ1) : andV f1 f2 ρ = .ok (.bl false) ρ1 := by simp only [andV, h1, R.bind]; rfl
theorem e_orVT (h1 : f1 ρ = .ok (.bl true) ρ1) : orV f1 f2 ρ = .ok (.bl true) ρ1 := by simp only [orV, h1, R.bind]; rfl
theorem e_orVF (h1 : f1 ρ = .ok (.bl false) ρ1) (h2 : f2 ρ1 = .ok d ρ2) : orV f1 f2 ρ = .ok d ρ2 := by simp only [orV, h1, R.bind, h2]; rfl
theorem e_ifET (h1 : cd ρ = .ok true ρ1) (h2 : f1 ρ1 = .ok d ρ2) : ifE cd f1 f2 ρ = .ok d ρ2 := by simp only [ifE, h1, R.bind, h2]; rfl
theorem e_ifEF (h1 : cd ρ = .ok false ρ1) (h2 : f2 ρ1 = .ok d ρ2) : ifE cd f1 f2 ρ = .ok d ρ2 := by simp only [ifE, h1, R.bind, h2]; rfl
theorem e_chT {g1 g2 : Dt → Dt → Option Dt} {x y : Dt} (h1 : f1 ρ = .ok x ρ1) (h2 : f2 ρ1 = .ok y ρ2) (h3 : g1 x y = some (.bl true)) (h4 : f3 ρ2 = .ok z ρ3) (h5 : g2 y z = some w) : chainD g1 g2 f1 f2 f3 ρ = .ok w ρ3 := by simp only [chainD, h1, h2, h3, h4, h5, R.bind]
theorem e_chF {g1 g2 : Dt → Dt → Option Dt} {x y : Dt} (h1 : f1 ρ = .ok x ρ1) (h2 : f2 ρ1 = .ok y ρ2) (h3 : g1 x y = some (.bl false)) : chainD g1 g2 f1 f2 f3 ρ = .ok (.bl false) ρ2 := by simp only [chainD, h1, h2, h3, R.bind]
theorem e_cons (h1 : f1 ρ = .ok d ρ1) (h2 : fa ρ1 = .ok ds ρ2) : consA f1 fa ρ = .ok (d :: ds) ρ2 := by simp only [consA, h1, h2, R.bind]
theorem e_tup (h1 : fa ρ = .ok ds ρ1) (h2 : ds.length ≤ 1000000) : tupD fa ρ = .ok (.tup ds) ρ1 := by simp only [tupD, h1, R.bind, if_pos h2]
theorem e_lst (h1 : fa ρ = .ok ds ρ1) (h2 : ds.length ≤ 1000000) : lstD fa ρ = .ok (.lst ds) ρ1 := by simp only [lstD, h1, R.bind, if_pos h2]
theorem e_lstO (h1 : fa ρ = .ok ds ρ1) (h2 : ds.length ≤ 1000000) : lstO fa ρ = .ok (.ol ds) ρ1 := by simp only [lstO, h1, R.bind, if_pos h2]
theorem e_frO (h1 : f1 ρ = .ok d ρ1) : frO f1 ρ = .ok (.fr d) ρ1 := by simp only [frO, h1, R.bind]
theorem e_cb {g : List Dt → Option Dt} (h1 : fa ρ = .ok ds ρ1) (h2 : g ds = some z) : cb g fa ρ = .ok z ρ1 := by simp only [cb, h1, R.bind, h2]
theorem e_callF {fn : Fn} (h1 : fa ρ = .ok ds ρ1) (h2 : fn ds = .ok (.fr d)) : callF fn fa ρ = .ok d ρ1 := by simp only [callF, h1, R.bind, h2]
theorem e_callO {fn : Fn} {sl : Sl} (h1 : fa ρ = .ok ds ρ1) (h2 : fn ds = .ok sl) (hw : ∀ v F, sl ≠ .raw v F := by intro _ _ z; cases z) : callO fn fa ρ = .ok sl ρ1 := by
  cases sl with
  | raw v F => exact absurd rfl (hw v F)
  | _ => simp only [callO, h1, R.bind, h2]
theorem e_callM {fn : FnM} {k0 k1 k2 : List (Key × Dt)} (h0 : dAt i ρ = some k0) (h1 : fa ρ = .ok ds ρ1) (h2 : dAt i ρ1 = some k1) (h3 : fn k1 ds = .ok (.fr d) k2) (h4 : dPut i k2 ρ1 = ρ2) : callM fn i fa ρ = .ok d ρ2 := by simp only [callM, h0, h1, R.bind, h2, h3, h4]
theorem e_callMO {fn : FnM} {fo : Rho → R Sl} {k1 k2 : List (Key × Dt)} (h0 : fo ρ = .ok (.od k1) ρ1) (h1 : fa ρ1 = .ok ds ρ2) (h3 : fn k1 ds = .ok (.fr d) k2) : callMO fn fo fa ρ = .ok d ρ2 := by simp only [callMO, h0, h1, R.bind, h3]
theorem e_frz {fo : Rho → R Sl} {sl : Sl} (h1 : fo ρ = .ok sl ρ1) (h2 : toD sl = some d) : frzR fo ρ = .ok d ρ1 := by simp only [frzR, h1, R.bind, h2]
theorem e_sl3 {fl fh : Rho → R (Option Int)} {lo hi : Option Int} (h1 : f1 ρ = .ok d ρ1) (h2 : fl ρ1 = .ok lo ρ2) (h3 : fh ρ2 = .ok hi ρ3) (h4 : slD d lo hi = some z) : sl3 f1 fl fh ρ = .ok z ρ3 := by simp only [sl3, h1, h2, h3, h4, R.bind]
theorem e_someP {k : Int} (h1 : f1 ρ = .ok (.int k) ρ1) : someP f1 ρ = .ok (some k) ρ1 := by simp only [someP, h1, R.bind]
theorem e_itF (h1 : f1 ρ = .ok d ρ1) (h2 : itD d = some ds) : itF f1 ρ = .ok ds ρ1 := by simp only [itF, h1, R.bind, h2]
theorem e_rngF {g : List Dt → Option (List Dt)} {es : List Dt} (h1 : fa ρ = .ok ds ρ1) (h2 : g ds = some es) : rngF g fa ρ = .ok es ρ1 := by simp only [rngF, h1, R.bind, h2]
-- statements
theorem e_seq (h1 : s ρ = .nx ρ1) (h2 : t ρ1 = r) : seqS s t ρ = r := by simp only [seqS, h1, h2]
theorem e_seqR {sl : Sl} (h1 : s ρ = .rt sl ρ1) : seqS s t ρ = .rt sl ρ1 := by simp only [seqS, h1]
theorem e_set (h1 : f1 ρ = .ok d ρ1) (h2 : putR i (.fr d) ρ1 = some ρ2) : setS i f1 ρ = .nx ρ2 := by simp only [setS, h1, R.bindS, h2, nxO]
theorem e_setO {fo : Rho → R Sl} {sl : Sl} (h1 : fo ρ = .ok sl ρ1) (h0 : ∀ k, sl ≠ .io k) (h2 : putR i sl ρ1 = some ρ2) : setOS i fo ρ = .nx ρ2 := by
  simp only [setOS, h1, R.bindS]
  cases sl with
  | io k => exact absurd rfl (h0 k)
  | _ => simp only [h2, nxO]
theorem e_ret (h1 : f1 ρ = .ok d ρ1) : retS f1 ρ = .rt (.fr d) ρ1 := by simp only [retS, h1, R.bindS]
theorem e_retO {fo : Rho → R Sl} {sl : Sl} (h1 : fo ρ = .ok sl ρ1) : retOS fo ρ = .rt sl ρ1 := by simp only [retOS, h1, R.bindS]
theorem e_expr (h1 : f1 ρ = .ok d ρ1) : exprS f1 ρ = .nx ρ1 := by simp only [exprS, h1, R.bindS]
theorem e_ifT (h1 : cd ρ = .ok b ρ1) (hb : b = true) (h2 : s ρ1 = r) : ifS cd s t ρ = r := by subst hb; simp only [ifS, h1, R.bindS, h2, if_true]
theorem e_ifF (h1 : cd ρ = .ok b ρ1) (hb : b = false) (h2 : t ρ1 = r) : ifS cd s t ρ = r := by subst hb; simp only [ifS, h1, R.bindS, h2]; rfl
theorem e_asg {tg : Dt → Rho → Option Rho} (h1 : f1 ρ = .ok d ρ1) (h2 : tg d ρ1 = some ρ2) : asgS tg f1 ρ = .nx ρ2 := by simp only [asgS, h1, R.bindS, h2, nxO]
theorem e_argsP {fo : Rho → R Sl} {fs : List (Rho → R Sl)} {sl : Sl} {ss : List Sl} (h1 : fo ρ = .ok sl ρ1) (h3 : notIo sl = true) (h2 : argsP fs ρ1 = .ok ss ρ2) : argsP (fo :: fs) ρ = .ok (sl :: ss) ρ2 := by simp only [argsP, h1, h2, R.bind, h3, if_true]
theorem e_par {fs : List (Rho → R Sl)} {is : List Nat} {ss : List Sl} (h1 : argsP fs ρ = .ok ss ρ1) (h2 : putP is ss ρ1 = some ρ2) : parP is fs ρ = .nx ρ2 := by simp only [parP, h1, R.bindS, h2, nxO]
theorem e_app {xs0 xs : List Dt} (h0 : lAt i ρ = some xs0) (h1 : f1 ρ = .ok d ρ1) (h2 : lAt i ρ1 = some xs) (h3 : xs.length < 1000000) (h4 : ρ1.set i (some (.ol (xs ++ [d]))) = ρ2) : appS i f1 ρ = .nx ρ2 := by simp only [appS, h0, h1, R.bindS, h2, if_pos h3, h4]
theorem e_dput {fk fv : Rho → R Dt} {k0 k1 : List (Key × Dt)} {k : Dt} {key : Key} (h1 : fv ρ = .ok d ρ1) (h0 : dAt i ρ1 = some k0) (h2 : fk ρ1 = .ok k ρ2) (h3 : keyD k = some key) (h4 : dAt i ρ2 = some k1) (h5 : k1.length < 1000000) (h6 : dPut i (putKD k1 key d) ρ2 = ρ3) : dputS i fk fv ρ = .nx ρ3 := by
  simp only [dputS, h1, h0, h2, h3, h4, R.bindS, if_pos h5, h6]
theorem e_for {it : Rho → R (List Dt)} {tg : Dt → Rho → Option Rho} (h1 : it ρ = .ok ds ρ1) (h2 : forL tg s ds ρ1 = r) : forS it tg s ρ = r := by simp only [forS, h1, R.bindS, h2]
theorem m_runF {np nn : Nat} {body : Rho → SR} {sl : Sl} (hl : ds.length = np) (h : body (envOf nn ds) = .rt sl ρ1) : runF np nn body ds = .ok sl := by simp only [runF, if_pos hl, h]
theorem m_runM {np nn : Nat} {body : Rho → SR} {sl : Sl} {kvs kvs' : List (Key × Dt)} (hl : ds.length + 1 = np) (h : body (envM nn kvs ds) = .rt sl ρ1) (h2 : ioOf ρ1 = some kvs') : runM np nn body kvs ds = .ok sl kvs' := by simp only [runM, if_pos hl, h, h2]
-- loops
theorem wh_inv {bd : Rho → SR} {P : Rho → Prop} (I : Nat → Rho → Prop)
    (hs : ∀ k ρ, I k ρ → (∃ ρ1, cd ρ = .ok false ρ1 ∧ P ρ1) ∨ ∃ k' ρ1 ρ2, k' < k ∧ cd ρ = .ok true ρ1 ∧ bd ρ1 = .nx ρ2 ∧ I k' ρ2) : ∀ n k ρ, I k ρ → k < n → ∃ ρ', whS cd bd n ρ = .nx ρ' ∧ P ρ'
  | 0, k, ρ, _, h => absurd h (Nat.not_lt_zero _)
  | n + 1, k, ρ, hI, h => by
    rcases hs k ρ hI with ⟨ρ1, h1, h2⟩ | ⟨k', ρ1, ρ2, hk, h1, h2, h3⟩
    · exact ⟨ρ1, by simp only [whS, h1, R.bindS]; rfl, h2⟩
    · obtain ⟨ρ', q1, q2⟩ := wh_inv I hs n k' ρ2 h3 (by omega)
      exact ⟨ρ', by simp only [whS, h1, R.bindS, h2, if_true]; exact q1, q2⟩
theorem for_inv {bd : Rho → SR} {tg : Dt → Rho → Option Rho} (I : Nat → Rho → Prop) : ∀ (ds : List Dt) (j : Nat) (ρ : Rho), (∀ i d ρ, ds[i]? = some d → I (j + i) ρ → ∃ ρ1 ρ2, tg d ρ = some ρ1 ∧ bd ρ1 = .nx ρ2 ∧ I (j + i + 1) ρ2) → I j ρ → ∃ ρ', forL tg bd ds ρ = .nx ρ' ∧ I (j + ds.length) ρ'
  | [], j, ρ, _, h => ⟨ρ, rfl, h⟩
  | d :: ds, j, ρ, hs, h => by
    obtain ⟨ρ1, ρ2, h1, h2, h3⟩ := hs 0 d ρ rfl h
    obtain ⟨ρ', q1, q2⟩ := for_inv I ds (j + 1) ρ2 (fun i d ρ hd hI => by
      have := hs (i + 1) d ρ (by simpa using hd) (by rw [show j + (i + 1) = j + 1 + i by omega]; exact hI)
      rwa [show j + (i + 1) + 1 = j + 1 + i + 1 by omega] at this) h3
    refine ⟨ρ', by simp only [forL, h1, h2]; exact q1, ?_⟩
    rw [List.length_cons, show j + (ds.length + 1) = j + 1 + ds.length by omega]
    exact q2
-- operations
theorem o_mod {a b : Int} (h : 0 < b) : modD (.int a) (.int b) = some (.int (a % b)) := if_pos h
theorem log2_lt63 {b : Int} (h0 : 0 < b) (h1 : b < 2 ^ 8000) : b.natAbs.log2 < 9000 := by
  have hn : b.natAbs ≠ 0 := by omega
  refine Nat.lt_of_lt_of_le ((Nat.log2_lt (k := 8000) hn).mpr ?_) (by decide)
  generalize hp : (2 : Int) ^ 8000 = p at h1
  have : ((2 ^ 8000 : Nat) : Int) = p := by rw [← hp]; exact Int.natCast_pow 2 8000
  omega
theorem o_fdiv' {a b : Int} (h : 0 < b) (h1 : b < 2 ^ 8000) : fdivD (.int a) (.int b) = some (.int (a / b)) := if_pos ⟨h, log2_lt63 h h1⟩
theorem o_fdiv {a b : Int} (h : 0 < b) (h1 : b < 2 ^ 63) : fdivD (.int a) (.int b) = some (.int (a / b)) := by
  refine if_pos ⟨h, ?_⟩
  have hn : b.natAbs ≠ 0 := by omega
  exact Nat.lt_of_lt_of_le ((Nat.log2_lt (k := 63) hn).mpr (by omega)) (by decide)
theorem o_mulL {a b : Int} (h : -(2 ^ 63) < a) (h1 : a < 2 ^ 63) : mulD (.int a) (.int b) = some (.int (a * b)) := if_pos (by
  unfold mulOk
  have : a.natAbs < 2 ^ 64 := by omega
  simp [this])
theorem o_mulR {a b : Int} (h : -(2 ^ 63) < b) (h1 : b < 2 ^ 63) : mulD (.int a) (.int b) = some (.int (a * b)) := if_pos (by
  unfold mulOk
  have : b.natAbs < 2 ^ 64 := by omega
  simp [this])
end
/-! ### what a statement comes to -/
def WpB (Pn : Rho → Prop) (Pr : Sl → Rho → Prop) : SR → Prop
  | .nx ρ => Pn ρ
  | .rt s ρ => Pr s ρ
  | _ => False
structure Wp (Pn : Rho → Prop) (Pr : Sl → Rho → Prop) (r : SR) : Prop where
  out : WpB Pn Pr r
section
variable {ρ ρ1 ρ2 ρ3 : Rho} {d e z w : Dt} {f1 f2 f3 : Rho → R Dt} {b c : Bool} {cd c1 c2 : Rho → R Bool} {i n : Nat} {s t bd : Rho → SR} {fa : Rho → R (List Dt)} {ds : List Dt} {Pn : Rho → Prop} {Pr : Sl → Rho → Prop}
theorem w_nx (h : s ρ = .nx ρ1) (k : Pn ρ1) : Wp Pn Pr (s ρ) := by rw [h]; exact ⟨k⟩
theorem w_seq (h : Wp (fun ρ1 => Wp Pn Pr (t ρ1)) Pr (s ρ)) : Wp Pn Pr (seqS s t ρ) := by
  unfold seqS
  obtain ⟨h⟩ := h
  revert h
  cases s ρ with
  | nx _ => exact fun h => h
  | _ => exact fun h => ⟨h⟩
theorem w_step (h : s ρ = .nx ρ1) (k : Wp Pn Pr (t ρ1)) : Wp Pn Pr (seqS s t ρ) := w_seq (w_nx h k)
theorem w_ret (h : f1 ρ = .ok d ρ1) (k : Pr (.fr d) ρ1) : Wp Pn Pr (retS f1 ρ) := by rw [e_ret h]; exact ⟨k⟩
theorem w_ifT (h1 : cd ρ = .ok b ρ1) (hb : b = true) (h2 : Wp Pn Pr (s ρ1)) : Wp Pn Pr (ifS cd s t ρ) := by rw [e_ifT h1 hb rfl]; exact h2
theorem w_ifF (h1 : cd ρ = .ok b ρ1) (hb : b = false) (h2 : Wp Pn Pr (t ρ1)) : Wp Pn Pr (ifS cd s t ρ) := by rw [e_ifF h1 hb rfl]; exact h2
theorem w_if (h1 : cd ρ = .ok b ρ1) (ht : b = true → Wp Pn Pr (s ρ1)) (hf : b = false → Wp Pn Pr (t ρ1)) : Wp Pn Pr (ifS cd s t ρ) := by
  cases b
  · exact w_ifF h1 rfl (hf rfl)
  · exact w_ifT h1 rfl (ht rfl)
theorem w_wh (I : Nat → Rho → Prop) {k0 : Nat} (h0 : I k0 ρ) (hk : k0 < n)
    (hs : ∀ k ρ, I k ρ → (∃ ρ1, cd ρ = .ok false ρ1 ∧ Pn ρ1) ∨ ∃ ρ1, cd ρ = .ok true ρ1 ∧ Wp (fun ρ2 => ∃ k', k' < k ∧ I k' ρ2) Pr (bd ρ1)) : Wp Pn Pr (whS cd bd n ρ) := by
  induction n generalizing ρ k0 with
  | zero => exact absurd hk (Nat.not_lt_zero _)
  | succ n ih =>
    rcases hs k0 ρ h0 with ⟨ρ1, h1, h2⟩ | ⟨ρ1, h1, h2⟩
    · simp only [whS, h1, R.bindS]
      exact ⟨h2⟩
    · simp only [whS, h1, R.bindS, if_true]
      cases e : bd ρ1 with
      | nx ρ2 =>
        rw [e] at h2
        obtain ⟨k', h3, h4⟩ := h2
        exact ih h4 (by omega)
      | rt s ρ2 => rw [e] at h2; exact ⟨h2.out⟩
      | bk _ => rw [e] at h2; exact h2.out.elim
      | ct _ => rw [e] at h2; exact h2.out.elim
      | ex _ _ => rw [e] at h2; exact h2.out.elim
      | bad => rw [e] at h2; exact h2.out.elim
theorem w_forL {tg : Dt → Rho → Option Rho} (I : Nat → Rho → Prop) : ∀ (ds : List Dt) (j : Nat) (ρ : Rho), (∀ i d ρ, ds[i]? = some d → I (j + i) ρ → ∃ ρ1, tg d ρ = some ρ1 ∧ Wp (I (j + i + 1)) Pr (bd ρ1)) → I j ρ → Wp (I (j + ds.length)) Pr (forL tg bd ds ρ)
  | [], j, ρ, _, h => ⟨h⟩
  | d :: ds, j, ρ, hs, h => by
    obtain ⟨ρ1, h1, h2⟩ := hs 0 d ρ rfl h
    simp only [forL, h1]
    have ih := fun ρ2 => w_forL I ds (j + 1) ρ2 (fun i d ρ hd hI => by
      have := hs (i + 1) d ρ (by simpa using hd) (by rw [show j + (i + 1) = j + 1 + i by omega]; exact hI)
      rwa [show j + (i + 1) + 1 = j + 1 + i + 1 by omega] at this)
    rw [List.length_cons, show j + (ds.length + 1) = j + 1 + ds.length by omega]
    cases e : bd ρ1 with
    | nx ρ2 => rw [e] at h2; exact ih ρ2 h2.out
    | rt s ρ2 => rw [e] at h2; exact ⟨h2.out⟩
    | bk _ => rw [e] at h2; exact h2.out.elim
    | ct _ => rw [e] at h2; exact h2.out.elim
    | ex _ _ => rw [e] at h2; exact h2.out.elim
    | bad => rw [e] at h2; exact h2.out.elim
theorem Wp.imp {Pn' : Rho → Prop} {Pr' : Sl → Rho → Prop} {r : SR} (h : Wp Pn Pr r) (hn : ∀ ρ, Pn ρ → Pn' ρ) (hr : ∀ s ρ, Pr s ρ → Pr' s ρ) : Wp Pn' Pr' r := by
  obtain ⟨h⟩ := h
  cases r with
  | nx ρ => exact ⟨hn ρ h⟩
  | rt s ρ => exact ⟨hr s ρ h⟩
  | _ => exact ⟨h⟩
theorem w_for {it : Rho → R (List Dt)} {tg : Dt → Rho → Option Rho} (I : Nat → Rho → Prop) (h : it ρ = .ok ds ρ1) (h0 : I 0 ρ1) (hs : ∀ i d ρ, ds[i]? = some d → I i ρ → ∃ ρ1, tg d ρ = some ρ1 ∧ Wp (I (i + 1)) Pr (bd ρ1)) (hq : ∀ ρ', I ds.length ρ' → Pn ρ') : Wp Pn Pr (forS it tg bd ρ) := by
  rw [e_for h rfl]
  have := w_forL (Pr := Pr) I ds 0 ρ1 (fun i d ρ hd hI => by
    rw [Nat.zero_add] at hI ⊢
    exact hs i d ρ hd hI) h0
  rw [Nat.zero_add] at this
  exact this.imp hq fun _ _ h => h
theorem w_runF {np nn : Nat} {P : Sl → Prop} (hl : ds.length = np) (h : Wp (fun _ => P (.fr .non)) (fun s _ => P s) (bd (envOf nn ds))) : ∃ s, runF np nn bd ds = .ok s ∧ P s := by
  simp only [runF, if_pos hl]
  obtain ⟨h⟩ := h
  revert h
  cases bd (envOf nn ds) with
  | nx ρ => exact fun h => ⟨_, rfl, h⟩
  | rt s ρ => exact fun h => ⟨_, rfl, h⟩
  | _ => exact fun h => h.elim
theorem w_runF1 {np nn : Nat} (hl : ds.length = np) (h : Wp (fun _ => False) (fun s _ => s = .fr d) (bd (envOf nn ds))) : runF np nn bd ds = .ok (.fr d) := by
  obtain ⟨s, h1, rfl⟩ := w_runF (P := fun s => s = .fr d) hl (h.imp (fun _ h => h.elim) fun _ _ h => h)
  exact h1
theorem w_runM {np nn : Nat} {kvs : List (Key × Dt)} {P : Dt → List (Key × Dt) → Prop} (hl : ds.length + 1 = np) (h : Wp (fun _ => False) (fun s ρ => ∃ d k, s = .fr d ∧ ioOf ρ = some k ∧ P d k) (bd (envM nn kvs ds))) : ∃ d k, runM np nn bd kvs ds = .ok (.fr d) k ∧ P d k := by
  simp only [runM, if_pos hl]
  obtain ⟨h⟩ := h
  revert h
  cases bd (envM nn kvs ds) with
  | rt s ρ =>
    rintro ⟨d, k, rfl, h1, h2⟩
    refine ⟨d, k, ?_, h2⟩
    dsimp only
    rw [h1]
  | _ => exact fun h => h.elim
theorem w_retO {fo : Rho → R Sl} {sl : Sl} (h : fo ρ = .ok sl ρ1) (k : Pr sl ρ1) : Wp Pn Pr (retOS fo ρ) := by rw [e_retO h]; exact ⟨k⟩
theorem e_pnil : pairsF [] ρ = .ok [] ρ := rfl
theorem e_pair {x : Str} {ps : List (Key × Dt)} {r : List ((Rho → R Dt) × (Rho → R Dt))} (h1 : f2 ρ = .ok d ρ1) (h2 : pairsF r ρ1 = .ok ps ρ2) : pairsF ((cst (.str x), f2) :: r) ρ = .ok ((.inr x, d) :: ps) ρ2 := by
  simp only [pairsF, cst, R.bind, h1, keyD, h2]
theorem e_disp {fps : List ((Rho → R Dt) × (Rho → R Dt))} {kvs : List (Key × Dt)} (h1 : pairsF fps ρ = .ok kvs ρ1) (h2 : kvs.length ≤ 15) : dispO fps ρ = .ok (.od (mergeD [] kvs)) ρ1 := by simp only [dispO, h1, R.bind, if_pos h2]
def retOf : SR → Option Sl
  | .rt s _ => some s
  | _ => none
theorem w_of {sl : Sl} (h : retOf (s ρ) = some sl) (k : ∀ ρ', Pr sl ρ') : Wp Pn Pr (s ρ) := by
  revert h
  cases s ρ with
  | rt s' ρ' =>
    intro h
    cases h
    exact ⟨k _⟩
  | _ => intro h; cases h
/-- [e for t in xs if c], where each turn is known -/
theorem lc_fm {tg : Dt → Rho → Option Rho} {ct : Rho → R Bool} {el : Rho → R Dt} {vs : List Nat} (p : Dt → Bool) (F : Dt → Dt) : ∀ (xs : List Dt), (∀ x ∈ xs, ∃ ρ1, tg x ρ = some ρ1 ∧ ct ρ1 = .ok (p x) ρ1 ∧ (p x = true → el ρ1 = .ok (F x) ρ1) ∧ wipeR ρ1 vs = ρ) → lcL tg ct el vs xs ρ = .ok ((xs.filter p).map F) ρ
  | [], _ => rfl
  | x :: xs, h => by
    obtain ⟨ρ1, h1, h2, h3, h4⟩ := h x (List.mem_cons_self ..)
    have ih := lc_fm p F xs fun y hy => h y (List.mem_cons_of_mem _ hy)
    simp only [lcL, h1, h2, R.bind]
    cases e : p x with
    | true =>
      rw [if_pos rfl, List.filter_cons_of_pos e, h3 e]
      simp only [h4, ih, List.map_cons]
    | false =>
      rw [if_neg Bool.false_ne_true, List.filter_cons_of_neg (by rw [e]; exact Bool.false_ne_true)]
      simp only [h4, ih]
theorem lc_m {tg : Dt → Rho → Option Rho} {el : Rho → R Dt} {vs : List Nat} (F : Dt → Dt) (xs : List Dt) (h : ∀ x ∈ xs, ∃ ρ1, tg x ρ = some ρ1 ∧ el ρ1 = .ok (F x) ρ1 ∧ wipeR ρ1 vs = ρ) : lcL tg yesT el vs xs ρ = .ok (xs.map F) ρ := by
  have := lc_fm (ct := yesT) (fun _ => true) F xs fun x hx => by
    obtain ⟨ρ1, h1, h2, h3⟩ := h x hx
    exact ⟨ρ1, h1, rfl, fun _ => h2, h3⟩
  rw [this, List.filter_eq_self.mpr fun _ _ => rfl]
theorem e_lc {it : Rho → R (List Dt)} {tg : Dt → Rho → Option Rho} {ct : Rho → R Bool} {el : Rho → R Dt} {vs : List Nat} {xs : List Dt} (h1 : it ρ = .ok xs ρ1) (h2 : okW vs ρ1 = true) (h3 : xs.length ≤ 1000000) (h4 : lcL tg ct el vs xs (wipeR ρ1 vs) = .ok ds ρ2) : lcO it tg ct el vs ρ = .ok (.ol ds) ρ2 := by
  simp only [lcO, h1, R.bind, if_pos (And.intro h2 h3), h4]
theorem cut_hi {α : Type} {xs : List α} {k : Nat} (h : k ≤ xs.length) : cutD xs none (some (k : Int)) = xs.take k := by
  unfold cutD
  rw [HT.sIx_none, HT.sIx_nat, List.drop_zero, Nat.min_eq_left h]
  rfl
theorem cut_lo {α : Type} {xs : List α} {k : Nat} (h : k ≤ xs.length) : cutD xs (some (k : Int)) none = xs.drop k := by
  unfold cutD
  rw [HT.sIx_none, HT.sIx_nat, Nat.min_eq_left h, List.take_of_length_le]
  rw [List.length_drop]
  exact Nat.le_refl _
theorem o_rng2 {a b : Nat} (h : a ≤ b) (hb : b < 2 ^ 62) : rngD2 [.int a, .int b] = some ((List.range (b - a)).map fun i => .int (a + i : Nat)) := by
  have e : ((b : Int) - (a : Int)).toNat = b - a := by omega
  unfold rngD2
  dsimp only
  rw [if_pos ⟨by omega, by omega, by omega, by omega⟩, e]
  rfl
theorem intsOf_map : ∀ ns : List Int, intsOf (ns.map .int) = some ns
  | [] => rfl
  | n :: ns => by simp only [List.map_cons, intsOf, intsOf_map ns, Option.map_some]
theorem o_max {ns : List Int} {m : Int} (h1 : m ∈ ns) (h2 : ∀ y ∈ ns, y ≤ m) : maxD (.lst (ns.map .int)) = some (.int m) := by
  cases ns with
  | nil => cases h1
  | cons n ns =>
    unfold maxD
    dsimp only
    rw [intsOf_map]
    show some (Dt.int (maxL n ns)) = _
    obtain ⟨q1, q2, q3⟩ := maxL_spec ns n
    have h3 : maxL n ns ≤ m := by
      rcases q1 with e | e
      · rw [e]; exact h2 n (List.mem_cons_self ..)
      · exact h2 _ (List.mem_cons_of_mem _ e)
    have h4 : m ≤ maxL n ns := by
      rcases List.mem_cons.mp h1 with e | e
      · rw [e]; exact q2
      · exact q3 m e
    rw [Int.le_antisymm h3 h4]
end
end PL

set_option Elab.async false
set_option linter.all false
set_option autoImplicit false
set_option maxRecDepth 100000
set_option maxHeartbeats 4000000
/-! P3: reckoning by simp: each form unfolded one step, continuations left alone until their turn -/
namespace PL
open PySem DW
open L2 (Key)
def Rof {α : Type} (o : Option α) (ρ : Rho) : R α := match o with
  | some z => .ok z ρ
  | none => .bad
section
variable {α β γ : Type} {ρ ρ1 ρ2 : Rho} {d e z : Dt} {f1 f2 f3 : Rho → R Dt} {fa : Rho → R (List Dt)} {fo : Rho → R Sl} {c1 c2 : Rho → R Bool} {i j : Nat} {s t : Rho → SR} {sl : Sl} {b : Bool} {ds : List Dt} {kvs : List (Key × Dt)}
theorem x_Rof {a : α} : Rof (some a) ρ = .ok a ρ := rfl
theorem x_cst : cst d ρ = .ok d ρ := rfl
def var1 (s : Option (Option Sl)) (i : Nat) (ρ : Rho) : R Dt := match s with
  | some (some (.fr d)) => .ok d ρ
  | some (some (.ol xs)) => .ok (.lst xs) (ρ.set i (some (.fr (.lst xs))))
  | some (some (.od kvs)) => .ok (.dct kvs) (ρ.set i (some (.fr (.dct kvs))))
  | _ => .bad
theorem x_var : var i ρ = var1 ρ[i]? i ρ := rfl
theorem x_var1f : var1 (some (some (.fr d))) i ρ = .ok d ρ := rfl
theorem x_var1l : var1 (some (some (.ol ds))) i ρ = .ok (.lst ds) (ρ.set i (some (.fr (.lst ds)))) := rfl
theorem x_var1d : var1 (some (some (.od kvs))) i ρ = .ok (.dct kvs) (ρ.set i (some (.fr (.dct kvs)))) := rfl
def pk1 (s : Option (Option Sl)) : Option Dt := match s with
  | some (some (.fr d)) => some d
  | some (some (.ol xs)) => some (.lst xs)
  | some (some (.od kvs)) => some (.dct kvs)
  | some (some (.io kvs)) => some (.dct kvs)
  | _ => none
theorem x_pk : pk i ρ = pk1 ρ[i]? := rfl
theorem x_pk1f : pk1 (some (some (.fr d))) = some d := rfl
theorem x_pk1l : pk1 (some (some (.ol ds))) = some (.lst ds) := rfl
theorem x_pk1d : pk1 (some (some (.od kvs))) = some (.dct kvs) := rfl
theorem x_pk1i : pk1 (some (some (.io kvs))) = some (.dct kvs) := rfl
theorem x_pkF : pkF i ρ = Rof (pk i ρ) ρ := by unfold pkF Rof; cases pk i ρ <;> rfl
def un1 (g : α → Option β) (r : R α) : R β := match r with
  | .ok d ρ => Rof (g d) ρ
  | .ex x ρ => .ex x ρ
  | .bad => .bad
theorem x_un1 {g : α → Option β} {a : α} : un1 g (.ok a ρ) = Rof (g a) ρ := rfl
theorem x_un {g : Dt → Option Dt} : un g f1 ρ = un1 g (f1 ρ) := by
  unfold un
  cases f1 ρ with
  | ok a ρ1 => dsimp only [R.bind, un1, Rof]; cases g a <;> rfl
  | _ => rfl
theorem x_truF : truF f1 ρ = un1 truD (f1 ρ) := by
  unfold truF
  cases f1 ρ with
  | ok a ρ1 => dsimp only [R.bind, un1, Rof]; cases truD a <;> rfl
  | _ => rfl
def bOf (d : Dt) : Option Bool := match d with
  | .bl b => some b
  | _ => none
theorem x_bOf : bOf (.bl b) = some b := rfl
theorem x_tstF : tstF f1 ρ = un1 bOf (f1 ρ) := by
  unfold tstF
  cases f1 ρ with
  | ok d ρ1 => cases d <;> rfl
  | _ => rfl
theorem x_notT : notT c1 ρ = un1 (fun b => some (!b)) (c1 ρ) := by unfold notT; cases c1 ρ <;> rfl
def bin1 (g : Dt → Dt → Option Dt) (f2 : Rho → R Dt) (r : R Dt) : R Dt := match r with
  | .ok d ρ => un1 (g d) (f2 ρ)
  | .ex x ρ => .ex x ρ
  | .bad => .bad
theorem x_bin1 {g : Dt → Dt → Option Dt} : bin1 g f2 (.ok d ρ) = un1 (g d) (f2 ρ) := rfl
theorem x_bin {g : Dt → Dt → Option Dt} : bin g f1 f2 ρ = bin1 g f2 (f1 ρ) := by
  unfold bin
  cases f1 ρ with
  | ok d ρ1 =>
    dsimp only [R.bind, bin1]
    cases f2 ρ1 with
    | ok e ρ2 => dsimp only [un1, Rof]; cases g d e <;> rfl
    | _ => rfl
  | _ => rfl
def bp3 (g : Dt → Dt → Option Dt) (o : Option Dt) (e : Dt) (ρ : Rho) : R Dt := match o with
  | some d => Rof (g d e) ρ
  | none => .bad
def bp2 (g : Dt → Dt → Option Dt) (i : Nat) (r : R Dt) : R Dt := match r with
  | .ok e ρ => bp3 g (pk i ρ) e ρ
  | .ex x ρ => .ex x ρ
  | .bad => .bad
def bp1 (g : Dt → Dt → Option Dt) (i : Nat) (o : Option Dt) (f2 : Rho → R Dt) (ρ : Rho) : R Dt := match o with
  | some _ => bp2 g i (f2 ρ)
  | none => .bad
theorem x_bp3 {g : Dt → Dt → Option Dt} : bp3 g (some d) e ρ = Rof (g d e) ρ := rfl
theorem x_bp2 {g : Dt → Dt → Option Dt} : bp2 g i (.ok e ρ) = bp3 g (pk i ρ) e ρ := rfl
theorem x_bp1 {g : Dt → Dt → Option Dt} : bp1 g i (some d) f2 ρ = bp2 g i (f2 ρ) := rfl
theorem x_binP {g : Dt → Dt → Option Dt} : binP g i f2 ρ = bp1 g i (pk i ρ) f2 ρ := by
  unfold binP
  cases pk i ρ with
  | none => rfl
  | some d =>
    dsimp only [bp1]
    cases f2 ρ with
    | ok e ρ2 =>
      dsimp only [R.bind, bp2]
      cases pk i ρ2 with
      | none => rfl
      | some d2 => dsimp only [bp3, Rof]; cases g d2 e <;> rfl
    | _ => rfl
def and1 (r : R Bool) (c2 : Rho → R Bool) : R Bool := match r with
  | .ok b ρ => if b = true then c2 ρ else .ok false ρ
  | .ex x ρ => .ex x ρ
  | .bad => .bad
def or1 (r : R Bool) (c2 : Rho → R Bool) : R Bool := match r with
  | .ok b ρ => if b = true then .ok true ρ else c2 ρ
  | .ex x ρ => .ex x ρ
  | .bad => .bad
theorem x_andT : andT c1 c2 ρ = and1 (c1 ρ) c2 := by unfold andT; cases c1 ρ <;> rfl
theorem x_orT : orT c1 c2 ρ = or1 (c1 ρ) c2 := by unfold orT; cases c1 ρ <;> rfl
theorem x_and1t : and1 (.ok true ρ) c2 = c2 ρ := rfl
theorem x_and1f : and1 (.ok false ρ) c2 = .ok false ρ := rfl
theorem x_or1t : or1 (.ok true ρ) c2 = .ok true ρ := rfl
theorem x_or1f : or1 (.ok false ρ) c2 = c2 ρ := rfl
/-- both sides of a test that say nothing else -/
theorem x_and1b {b2 : Bool} (h : c2 ρ = .ok b2 ρ) : and1 (.ok b ρ) c2 = .ok (b && b2) ρ := by cases b <;> simp [and1, h]
theorem x_or1b {b2 : Bool} (h : c2 ρ = .ok b2 ρ) : or1 (.ok b ρ) c2 = .ok (b || b2) ρ := by cases b <;> simp [or1, h]
def andV1 (r : R Dt) (f2 : Rho → R Dt) : R Dt := match r with
  | .ok (.bl b) ρ => if b = true then f2 ρ else .ok (.bl false) ρ
  | .ex x ρ => .ex x ρ
  | _ => .bad
def orV1 (r : R Dt) (f2 : Rho → R Dt) : R Dt := match r with
  | .ok (.bl b) ρ => if b = true then .ok (.bl true) ρ else f2 ρ
  | .ex x ρ => .ex x ρ
  | _ => .bad
theorem x_andV : andV f1 f2 ρ = andV1 (f1 ρ) f2 := by
  unfold andV
  cases f1 ρ with
  | ok d ρ1 => cases d <;> rfl
  | _ => rfl
theorem x_orV : orV f1 f2 ρ = orV1 (f1 ρ) f2 := by
  unfold orV
  cases f1 ρ with
  | ok d ρ1 => cases d <;> rfl
  | _ => rfl
theorem x_andV1t : andV1 (.ok (.bl true) ρ) f2 = f2 ρ := rfl
theorem x_andV1f : andV1 (.ok (.bl false) ρ) f2 = .ok (.bl false) ρ := rfl
theorem x_orV1t : orV1 (.ok (.bl true) ρ) f2 = .ok (.bl true) ρ := rfl
theorem x_orV1f : orV1 (.ok (.bl false) ρ) f2 = f2 ρ := rfl
theorem x_andV1b {b2 : Bool} (h : f2 ρ = .ok (.bl b2) ρ) : andV1 (.ok (.bl b) ρ) f2 = .ok (.bl (b && b2)) ρ := by cases b <;> simp [andV1, h]
theorem x_orV1b {b2 : Bool} (h : f2 ρ = .ok (.bl b2) ρ) : orV1 (.ok (.bl b) ρ) f2 = .ok (.bl (b || b2)) ρ := by cases b <;> simp [orV1, h]
def ifE1 (r : R Bool) (f g : Rho → R Dt) : R Dt := match r with
  | .ok b ρ => if b = true then f ρ else g ρ
  | .ex x ρ => .ex x ρ
  | .bad => .bad
theorem x_ifE : ifE c1 f1 f2 ρ = ifE1 (c1 ρ) f1 f2 := by unfold ifE; cases c1 ρ <;> rfl
theorem x_ifE1t : ifE1 (.ok true ρ) f1 f2 = f1 ρ := rfl
theorem x_ifE1f : ifE1 (.ok false ρ) f1 f2 = f2 ρ := rfl
def ch3 (g2 : Dt → Dt → Option Dt) (f3 : Rho → R Dt) (y : Dt) (o : Option Dt) (ρ : Rho) : R Dt := match o with
  | some (.bl true) => un1 (g2 y) (f3 ρ)
  | some (.bl false) => .ok (.bl false) ρ
  | _ => .bad
def ch2 (g1 g2 : Dt → Dt → Option Dt) (f3 : Rho → R Dt) (x : Dt) (r : R Dt) : R Dt := match r with
  | .ok y ρ => ch3 g2 f3 y (g1 x y) ρ
  | .ex x ρ => .ex x ρ
  | .bad => .bad
def ch1 (g1 g2 : Dt → Dt → Option Dt) (f2 f3 : Rho → R Dt) (r : R Dt) : R Dt := match r with
  | .ok x ρ => ch2 g1 g2 f3 x (f2 ρ)
  | .ex x ρ => .ex x ρ
  | .bad => .bad
theorem x_chainD {g1 g2 : Dt → Dt → Option Dt} : chainD g1 g2 f1 f2 f3 ρ = ch1 g1 g2 f2 f3 (f1 ρ) := by
  unfold chainD
  cases f1 ρ with
  | ok x ρ1 =>
    dsimp only [R.bind, ch1]
    cases f2 ρ1 with
    | ok y ρ2 =>
      dsimp only [ch2]
      cases g1 x y with
      | none => rfl
      | some w =>
        cases w with
        | bl b =>
          cases b
          · rfl
          · dsimp only [ch3]
            cases f3 ρ2 with
            | ok z ρ3 => dsimp only [un1, Rof]; cases g2 y z <;> rfl
            | _ => rfl
        | _ => rfl
    | _ => rfl
  | _ => rfl
theorem x_ch1 {g1 g2 : Dt → Dt → Option Dt} : ch1 g1 g2 f2 f3 (.ok d ρ) = ch2 g1 g2 f3 d (f2 ρ) := rfl
theorem x_ch2 {g1 g2 : Dt → Dt → Option Dt} : ch2 g1 g2 f3 d (.ok e ρ) = ch3 g2 f3 e (g1 d e) ρ := rfl
theorem x_ch3t {g2 : Dt → Dt → Option Dt} : ch3 g2 f3 d (some (.bl true)) ρ = un1 (g2 d) (f3 ρ) := rfl
theorem x_ch3f {g2 : Dt → Dt → Option Dt} : ch3 g2 f3 d (some (.bl false)) ρ = .ok (.bl false) ρ := rfl
theorem x_nilA : nilA ρ = .ok [] ρ := rfl
def cons2 (d : Dt) (r : R (List Dt)) : R (List Dt) := match r with
  | .ok ds ρ => .ok (d :: ds) ρ
  | .ex x ρ => .ex x ρ
  | .bad => .bad
def cons1 (fa : Rho → R (List Dt)) (r : R Dt) : R (List Dt) := match r with
  | .ok d ρ => cons2 d (fa ρ)
  | .ex x ρ => .ex x ρ
  | .bad => .bad
theorem x_consA : consA f1 fa ρ = cons1 fa (f1 ρ) := by
  unfold consA
  cases f1 ρ with
  | ok d ρ1 =>
    dsimp only [R.bind, cons1]
    cases fa ρ1 <;> rfl
  | _ => rfl
theorem x_cons1 : cons1 fa (.ok d ρ) = cons2 d (fa ρ) := rfl
theorem x_cons2 : cons2 d (.ok ds ρ) = .ok (d :: ds) ρ := rfl
def few (b : Bool) (a : α) (ρ : Rho) : R α := if b = true then .ok a ρ else .bad
theorem x_few {a : α} : few true a ρ = .ok a ρ := rfl
def mk1 (k : List Dt → α) (r : R (List Dt)) : R α := match r with
  | .ok ds ρ => few (decide (ds.length ≤ 1000000)) (k ds) ρ
  | .ex x ρ => .ex x ρ
  | .bad => .bad
theorem x_mk1 {k : List Dt → α} : mk1 k (.ok ds ρ) = few (decide (ds.length ≤ 1000000)) (k ds) ρ := rfl
theorem x_tupD : tupD fa ρ = mk1 Dt.tup (fa ρ) := by
  unfold tupD
  cases fa ρ <;> simp only [R.bind, mk1, few, decide_eq_true_eq]
theorem x_lstD : lstD fa ρ = mk1 Dt.lst (fa ρ) := by
  unfold lstD
  cases fa ρ <;> simp only [R.bind, mk1, few, decide_eq_true_eq]
theorem x_lstO : lstO fa ρ = mk1 Sl.ol (fa ρ) := by
  unfold lstO
  cases fa ρ <;> simp only [R.bind, mk1, few, decide_eq_true_eq]
theorem x_dctO0 : dctO0 ρ = .ok (.od []) ρ := rfl
theorem x_frO : frO f1 ρ = un1 (fun d => some (Sl.fr d)) (f1 ρ) := by unfold frO; cases f1 ρ <;> rfl
theorem x_cb {g : List Dt → Option Dt} : cb g fa ρ = un1 g (fa ρ) := by
  unfold cb
  cases fa ρ with
  | ok a ρ1 => dsimp only [R.bind, un1, Rof]; cases g a <;> rfl
  | _ => rfl
theorem x_noP : noP ρ = .ok none ρ := rfl
def iOf (d : Dt) : Option (Option Int) := match d with
  | .int i => some (some i)
  | _ => none
theorem x_iOf {k : Int} : iOf (.int k) = some (some k) := rfl
theorem x_someP : someP f1 ρ = un1 iOf (f1 ρ) := by
  unfold someP
  cases f1 ρ with
  | ok d ρ1 => cases d <;> rfl
  | _ => rfl
def sl32 (fh : Rho → R (Option Int)) (d : Dt) (r : R (Option Int)) : R Dt := match r with
  | .ok lo ρ => un1 (slD d lo) (fh ρ)
  | .ex x ρ => .ex x ρ
  | .bad => .bad
def sl31 (fl fh : Rho → R (Option Int)) (r : R Dt) : R Dt := match r with
  | .ok d ρ => sl32 fh d (fl ρ)
  | .ex x ρ => .ex x ρ
  | .bad => .bad
theorem x_sl31 {fl fh : Rho → R (Option Int)} : sl31 fl fh (.ok d ρ) = sl32 fh d (fl ρ) := rfl
theorem x_sl32 {fh : Rho → R (Option Int)} {lo : Option Int} : sl32 fh d (.ok lo ρ) = un1 (slD d lo) (fh ρ) := rfl
theorem x_sl3 {fl fh : Rho → R (Option Int)} : sl3 f1 fl fh ρ = sl31 fl fh (f1 ρ) := by
  unfold sl3
  cases f1 ρ with
  | ok d ρ1 =>
    dsimp only [R.bind, sl31]
    cases fl ρ1 with
    | ok lo ρ2 =>
      dsimp only [sl32]
      cases fh ρ2 with
      | ok hi ρ3 => dsimp only [un1, Rof]; cases slD d lo hi <;> rfl
      | _ => rfl
    | _ => rfl
  | _ => rfl
def slK1 (fk : Rho → R (Option Int)) (r : R Dt) : R Dt := match r with
  | .ok d ρ => un1 (stpD d) (fk ρ)
  | .ex x ρ => .ex x ρ
  | .bad => .bad
theorem x_slK1 {fk : Rho → R (Option Int)} : slK1 fk (.ok d ρ) = un1 (stpD d) (fk ρ) := rfl
theorem x_slK {fk : Rho → R (Option Int)} : slK f1 fk ρ = slK1 fk (f1 ρ) := by
  unfold slK
  cases f1 ρ with
  | ok d ρ1 =>
    dsimp only [R.bind, slK1]
    cases fk ρ1 with
    | ok o ρ2 => dsimp only [un1, Rof]; cases stpD d o <;> rfl
    | _ => rfl
  | _ => rfl
def frF (r : FR) : Option Dt := match r with
  | .ok (.fr d) => some d
  | _ => none
def frS (r : FR) : Option Sl := match r with
  | .ok (.raw _ _) => none
  | .ok s => some s
  | _ => none
theorem x_frF : frF (.ok (.fr d)) = some d := rfl
theorem x_frS1 : frS (.ok (.fr d)) = some (.fr d) := rfl
theorem x_frS2 {l : List Dt} : frS (.ok (.ol l)) = some (.ol l) := rfl
theorem x_frS3 {l : List (Key × Dt)} : frS (.ok (.od l)) = some (.od l) := rfl
def cal1 (fn : Fn) (k : FR → Option α) (r : R (List Dt)) : R α := match r with
  | .ok ds ρ => Rof (k (fn ds)) ρ
  | .ex x ρ => .ex x ρ
  | .bad => .bad
theorem x_cal1 {fn : Fn} {k : FR → Option α} : cal1 fn k (.ok ds ρ) = Rof (k (fn ds)) ρ := rfl
theorem x_callF {fn : Fn} : callF fn fa ρ = cal1 fn frF (fa ρ) := by
  unfold callF
  cases fa ρ with
  | ok ds ρ1 =>
    dsimp only [R.bind, cal1]
    cases fn ds with
    | ok s => cases s <;> rfl
    | _ => rfl
  | _ => rfl
theorem x_callO {fn : Fn} : callO fn fa ρ = cal1 fn frS (fa ρ) := by
  unfold callO
  cases fa ρ with
  | ok ds ρ1 =>
    dsimp only [R.bind, cal1]
    cases fn ds with
    | ok s => cases s <;> rfl
    | _ => rfl
  | _ => rfl
def FMof (r : FM) (i : Nat) (ρ : Rho) : R Dt := match r with
  | .ok (.fr d) kvs' => .ok d (dPut i kvs' ρ)
  | _ => .bad
theorem x_FMof : FMof (.ok (.fr d) kvs) i ρ = .ok d (dPut i kvs ρ) := rfl
def cm3 (fn : FnM) (i : Nat) (o : Option (List (Key × Dt))) (ds : List Dt) (ρ : Rho) : R Dt := match o with
  | some k => FMof (fn k ds) i ρ
  | none => .bad
def cm2 (fn : FnM) (i : Nat) (r : R (List Dt)) : R Dt := match r with
  | .ok ds ρ => cm3 fn i (dAt i ρ) ds ρ
  | .ex x ρ => .ex x ρ
  | .bad => .bad
def cm1 (fn : FnM) (i : Nat) (o : Option (List (Key × Dt))) (fa : Rho → R (List Dt)) (ρ : Rho) : R Dt := match o with
  | some _ => cm2 fn i (fa ρ)
  | none => .bad
theorem x_cm1 {fn : FnM} : cm1 fn i (some kvs) fa ρ = cm2 fn i (fa ρ) := rfl
theorem x_cm2 {fn : FnM} : cm2 fn i (.ok ds ρ) = cm3 fn i (dAt i ρ) ds ρ := rfl
theorem x_cm3 {fn : FnM} : cm3 fn i (some kvs) ds ρ = FMof (fn kvs ds) i ρ := rfl
theorem x_callM {fn : FnM} : callM fn i fa ρ = cm1 fn i (dAt i ρ) fa ρ := by
  unfold callM
  cases dAt i ρ with
  | none => rfl
  | some k =>
    dsimp only [cm1]
    cases fa ρ with
    | ok ds ρ1 =>
      dsimp only [R.bind, cm2]
      cases dAt i ρ1 with
      | none => rfl
      | some k1 =>
        dsimp only [cm3]
        cases fn k1 ds with
        | ok s k2 => cases s <;> rfl
        | _ => rfl
    | _ => rfl
def FMO (r : FM) : Option Dt := match r with
  | .ok (.fr d) _ => some d
  | _ => none
theorem x_FMO : FMO (.ok (.fr d) kvs) = some d := rfl
def cmo2 (fn : FnM) (k : List (Key × Dt)) (r : R (List Dt)) : R Dt := match r with
  | .ok ds ρ => Rof (FMO (fn k ds)) ρ
  | .ex x ρ => .ex x ρ
  | .bad => .bad
def cmo1 (fn : FnM) (fa : Rho → R (List Dt)) (r : R Sl) : R Dt := match r with
  | .ok (.od k) ρ => cmo2 fn k (fa ρ)
  | .ex x ρ => .ex x ρ
  | _ => .bad
theorem x_cmo1 {fn : FnM} : cmo1 fn fa (.ok (.od kvs) ρ) = cmo2 fn kvs (fa ρ) := rfl
theorem x_cmo2 {fn : FnM} : cmo2 fn kvs (.ok ds ρ) = Rof (FMO (fn kvs ds)) ρ := rfl
theorem x_callMO {fn : FnM} : callMO fn fo fa ρ = cmo1 fn fa (fo ρ) := by
  unfold callMO
  cases fo ρ with
  | ok s ρ1 =>
    cases s with
    | od k =>
      dsimp only [R.bind, cmo1]
      cases fa ρ1 with
      | ok ds ρ2 =>
        dsimp only [cmo2]
        cases fn k ds with
        | ok s k2 => cases s <;> rfl
        | _ => rfl
      | _ => rfl
    | _ => rfl
  | _ => rfl
theorem x_frzR : frzR fo ρ = un1 toD (fo ρ) := by
  unfold frzR
  cases fo ρ with
  | ok a ρ1 => dsimp only [R.bind, un1, Rof]; cases toD a <;> rfl
  | _ => rfl
theorem x_itF : itF f1 ρ = un1 itD (f1 ρ) := by
  unfold itF
  cases f1 ρ with
  | ok a ρ1 => dsimp only [R.bind, un1, Rof]; cases itD a <;> rfl
  | _ => rfl
theorem x_rngF {g : List Dt → Option (List Dt)} : rngF g fa ρ = un1 g (fa ρ) := by
  unfold rngF
  cases fa ρ with
  | ok a ρ1 => dsimp only [R.bind, un1, Rof]; cases g a <;> rfl
  | _ => rfl
def OLof (r : R (List Dt)) : R Sl := match r with
  | .ok ds ρ => .ok (.ol ds) ρ
  | _ => .bad
theorem x_OLof : OLof (.ok ds ρ) = .ok (.ol ds) ρ := rfl
def lc2 (b : Bool) (tg : Dt → Rho → Option Rho) (c : Rho → R Bool) (e : Rho → R Dt) (vs : List Nat) (xs : List Dt) (ρ : Rho) : R Sl := if b = true then OLof (lcL tg c e vs xs (wipeR ρ vs)) else .bad
def lc1 (tg : Dt → Rho → Option Rho) (c : Rho → R Bool) (e : Rho → R Dt) (vs : List Nat) (r : R (List Dt)) : R Sl := match r with
  | .ok xs ρ => lc2 (okW vs ρ && decide (xs.length ≤ 1000000)) tg c e vs xs ρ
  | .ex x ρ => .ex x ρ
  | .bad => .bad
theorem x_lc2 {tg : Dt → Rho → Option Rho} {vs : List Nat} : lc2 true tg c1 f1 vs ds ρ = OLof (lcL tg c1 f1 vs ds (wipeR ρ vs)) := rfl
theorem x_lc1 {tg : Dt → Rho → Option Rho} {vs : List Nat} : lc1 tg c1 f1 vs (.ok ds ρ) = lc2 (okW vs ρ && decide (ds.length ≤ 1000000)) tg c1 f1 vs ds ρ := rfl
theorem x_lcO {it : Rho → R (List Dt)} {tg : Dt → Rho → Option Rho} {vs : List Nat} : lcO it tg c1 f1 vs ρ = lc1 tg c1 f1 vs (it ρ) := by
  unfold lcO
  cases it ρ with
  | ok xs ρ1 =>
    simp only [R.bind, lc1, lc2, Bool.and_eq_true, decide_eq_true_eq]
    split
    · cases lcL tg c1 f1 vs xs (wipeR ρ1 vs) <;> rfl
    · rfl
  | _ => rfl
def cat1 (f2 : Rho → R Dt) (r : R Dt) : R Sl := match r with
  | .ok d ρ => un1 (catL d) (f2 ρ)
  | .ex x ρ => .ex x ρ
  | .bad => .bad
theorem x_cat1 : cat1 f2 (.ok d ρ) = un1 (catL d) (f2 ρ) := rfl
theorem x_catO : catO f1 f2 ρ = cat1 f2 (f1 ρ) := by
  unfold catO
  cases f1 ρ with
  | ok d ρ1 =>
    dsimp only [R.bind, cat1]
    cases f2 ρ1 with
    | ok e ρ2 => dsimp only [un1, Rof]; cases catL d e <;> rfl
    | _ => rfl
  | _ => rfl
def cp3 (o : Option Dt) (e : Dt) (ρ : Rho) : R Sl := match o with
  | some d => Rof (catL d e) ρ
  | none => .bad
def cp2 (i : Nat) (r : R Dt) : R Sl := match r with
  | .ok e ρ => cp3 (pk i ρ) e ρ
  | .ex x ρ => .ex x ρ
  | .bad => .bad
def cp1 (i : Nat) (o : Option Dt) (f2 : Rho → R Dt) (ρ : Rho) : R Sl := match o with
  | some _ => cp2 i (f2 ρ)
  | none => .bad
theorem x_cp1 : cp1 i (some d) f2 ρ = cp2 i (f2 ρ) := rfl
theorem x_cp2 : cp2 i (.ok e ρ) = cp3 (pk i ρ) e ρ := rfl
theorem x_cp3 : cp3 (some d) e ρ = Rof (catL d e) ρ := rfl
theorem x_catPO : catPO i f2 ρ = cp1 i (pk i ρ) f2 ρ := by
  unfold catPO
  cases pk i ρ with
  | none => rfl
  | some d =>
    dsimp only [cp1]
    cases f2 ρ with
    | ok e ρ2 =>
      dsimp only [R.bind, cp2]
      cases pk i ρ2 with
      | none => rfl
      | some d2 => dsimp only [cp3, Rof]; cases catL d2 e <;> rfl
    | _ => rfl
-- statements
def SB (r : SR) (k : Rho → SR) : SR := match r with
  | .nx ρ1 => k ρ1
  | .rt s ρ1 => .rt s ρ1
  | .bk ρ1 => .bk ρ1
  | .ct ρ1 => .ct ρ1
  | .ex e ρ1 => .ex e ρ1
  | .bad => .bad
theorem x_SBn {k : Rho → SR} : SB (.nx ρ) k = k ρ := rfl
theorem x_SBr {k : Rho → SR} : SB (.rt sl ρ) k = .rt sl ρ := rfl
theorem x_skipS : skipS ρ = .nx ρ := rfl
theorem x_badS : badS ρ = .bad := rfl
theorem x_seqS : seqS s t ρ = SB (s ρ) t := rfl
theorem x_nxO : nxO (some ρ) = .nx ρ := rfl
def set1 (i : Nat) (r : R Dt) : SR := match r with
  | .ok d ρ => nxO (putR i (.fr d) ρ)
  | .ex x ρ => .ex x ρ
  | .bad => .bad
theorem x_set1 : set1 i (.ok d ρ) = nxO (putR i (.fr d) ρ) := rfl
theorem x_setS : setS i f1 ρ = set1 i (f1 ρ) := by unfold setS; cases f1 ρ <;> rfl
def setO1 (i : Nat) (r : R Sl) : SR := match r with
  | .ok (.io _) _ => .bad
  | .ok s ρ => nxO (putR i s ρ)
  | .ex x ρ => .ex x ρ
  | .bad => .bad
theorem x_setO1f : setO1 i (.ok (.fr d) ρ) = nxO (putR i (.fr d) ρ) := rfl
theorem x_setO1l : setO1 i (.ok (.ol ds) ρ) = nxO (putR i (.ol ds) ρ) := rfl
theorem x_setO1d : setO1 i (.ok (.od kvs) ρ) = nxO (putR i (.od kvs) ρ) := rfl
theorem x_setOS : setOS i fo ρ = setO1 i (fo ρ) := by
  unfold setOS
  cases fo ρ with
  | ok s ρ1 => cases s <;> rfl
  | _ => rfl
def ret1 (r : R Dt) : SR := match r with
  | .ok d ρ => .rt (.fr d) ρ
  | .ex x ρ => .ex x ρ
  | .bad => .bad
def retO1 (r : R Sl) : SR := match r with
  | .ok s ρ => .rt s ρ
  | .ex x ρ => .ex x ρ
  | .bad => .bad
def exp1 (r : R Dt) : SR := match r with
  | .ok _ ρ => .nx ρ
  | .ex x ρ => .ex x ρ
  | .bad => .bad
theorem x_ret1 : ret1 (.ok d ρ) = .rt (.fr d) ρ := rfl
theorem x_retO1 : retO1 (.ok sl ρ) = .rt sl ρ := rfl
theorem x_exp1 : exp1 (.ok d ρ) = .nx ρ := rfl
theorem x_retS : retS f1 ρ = ret1 (f1 ρ) := by unfold retS; cases f1 ρ <;> rfl
theorem x_retOS : retOS fo ρ = retO1 (fo ρ) := by unfold retOS; cases fo ρ <;> rfl
theorem x_exprS : exprS f1 ρ = exp1 (f1 ρ) := by unfold exprS; cases f1 ρ <;> rfl
def if1 (r : R Bool) (s t : Rho → SR) : SR := match r with
  | .ok b ρ => if b = true then s ρ else t ρ
  | .ex x ρ => .ex x ρ
  | .bad => .bad
theorem x_ifS : ifS c1 s t ρ = if1 (c1 ρ) s t := by unfold ifS; cases c1 ρ <;> rfl
theorem x_if1t : if1 (.ok true ρ) s t = s ρ := rfl
theorem x_if1f : if1 (.ok false ρ) s t = t ρ := rfl
def asg1 (tg : Dt → Rho → Option Rho) (r : R Dt) : SR := match r with
  | .ok d ρ => nxO (tg d ρ)
  | .ex x ρ => .ex x ρ
  | .bad => .bad
theorem x_asg1 {tg : Dt → Rho → Option Rho} : asg1 tg (.ok d ρ) = nxO (tg d ρ) := rfl
theorem x_asgS {tg : Dt → Rho → Option Rho} : asgS tg f1 ρ = asg1 tg (f1 ρ) := by unfold asgS; cases f1 ρ <;> rfl
theorem x_argsP0 : argsP [] ρ = .ok [] ρ := rfl
def ap2 (s : Sl) (r : R (List Sl)) : R (List Sl) := match r with
  | .ok ss ρ => .ok (s :: ss) ρ
  | .ex x ρ => .ex x ρ
  | .bad => .bad
def ap1 (fs : List (Rho → R Sl)) (r : R Sl) : R (List Sl) := match r with
  | .ok (.io _) _ => .bad
  | .ok s ρ => ap2 s (argsP fs ρ)
  | .ex x ρ => .ex x ρ
  | .bad => .bad
theorem x_ap1f {fs : List (Rho → R Sl)} : ap1 fs (.ok (.fr d) ρ) = ap2 (.fr d) (argsP fs ρ) := rfl
theorem x_ap1l {fs : List (Rho → R Sl)} : ap1 fs (.ok (.ol ds) ρ) = ap2 (.ol ds) (argsP fs ρ) := rfl
theorem x_ap1d {fs : List (Rho → R Sl)} : ap1 fs (.ok (.od kvs) ρ) = ap2 (.od kvs) (argsP fs ρ) := rfl
theorem x_ap2 {ss : List Sl} : ap2 sl (.ok ss ρ) = .ok (sl :: ss) ρ := rfl
theorem x_argsP {fs : List (Rho → R Sl)} : argsP (fo :: fs) ρ = ap1 fs (fo ρ) := by
  simp only [argsP]
  cases fo ρ with
  | ok s ρ1 =>
    cases s with
    | io k => rfl
    | _ => dsimp only [R.bind, ap1, notIo]; cases argsP fs ρ1 <;> rfl
  | _ => rfl
def par1 (is : List Nat) (r : R (List Sl)) : SR := match r with
  | .ok ss ρ => nxO (putP is ss ρ)
  | .ex x ρ => .ex x ρ
  | .bad => .bad
theorem x_par1 {is : List Nat} {ss : List Sl} : par1 is (.ok ss ρ) = nxO (putP is ss ρ) := rfl
theorem x_parP {is : List Nat} {fs : List (Rho → R Sl)} : parP is fs ρ = par1 is (argsP fs ρ) := by unfold parP; cases argsP fs ρ <;> rfl
theorem x_putP0 : putP [] [] ρ = some ρ := rfl
def pp1 (is : List Nat) (ss : List Sl) (o : Option Rho) : Option Rho := match o with
  | some ρ => putP is ss ρ
  | none => none
theorem x_pp1 {is : List Nat} {ss : List Sl} : pp1 is ss (some ρ) = putP is ss ρ := rfl
theorem x_putP {is : List Nat} {ss : List Sl} : putP (i :: is) (sl :: ss) ρ = pp1 is ss (putR i sl ρ) := by
  rw [putP]
  cases putR i sl ρ <;> rfl
def app3 (i : Nat) (o : Option (List Dt)) (d : Dt) (ρ : Rho) : SR := match o with
  | some xs => if xs.length < 1000000 then .nx (ρ.set i (some (.ol (xs ++ [d])))) else .bad
  | none => .bad
def app2 (i : Nat) (r : R Dt) : SR := match r with
  | .ok d ρ => app3 i (lAt i ρ) d ρ
  | .ex x ρ => .ex x ρ
  | .bad => .bad
def app1 (i : Nat) (o : Option (List Dt)) (f : Rho → R Dt) (ρ : Rho) : SR := match o with
  | some _ => app2 i (f ρ)
  | none => .bad
theorem x_app1 : app1 i (some ds) f1 ρ = app2 i (f1 ρ) := rfl
theorem x_app2 : app2 i (.ok d ρ) = app3 i (lAt i ρ) d ρ := rfl
def nxB (b : Bool) (ρ : Rho) : SR := if b = true then .nx ρ else .bad
theorem x_nxB : nxB true ρ = .nx ρ := rfl
theorem x_app3 : app3 i (some ds) d ρ = nxB (decide (ds.length < 1000000)) (ρ.set i (some (.ol (ds ++ [d])))) := by
  simp only [app3, nxB, decide_eq_true_eq]
theorem x_appS : appS i f1 ρ = app1 i (lAt i ρ) f1 ρ := by
  unfold appS
  cases lAt i ρ with
  | none => rfl
  | some k =>
    dsimp only [app1]
    cases f1 ρ with
    | ok d ρ1 =>
      dsimp only [R.bindS, app2]
      cases lAt i ρ1 <;> rfl
    | _ => rfl
def dp4 (i : Nat) (o : Option (List (Key × Dt))) (k : Option Key) (d : Dt) (ρ : Rho) : SR := match k, o with
  | some k, some kvs => if kvs.length < 1000000 then .nx (dPut i (putKD kvs k d) ρ) else .bad
  | _, _ => .bad
def dp3 (i : Nat) (d : Dt) (r : R Dt) : SR := match r with
  | .ok k ρ => dp4 i (dAt i ρ) (keyD k) d ρ
  | .ex x ρ => .ex x ρ
  | .bad => .bad
def dp2 (i : Nat) (o : Option (List (Key × Dt))) (fk : Rho → R Dt) (d : Dt) (ρ : Rho) : SR := match o with
  | some _ => dp3 i d (fk ρ)
  | none => .bad
def dp1 (i : Nat) (fk : Rho → R Dt) (r : R Dt) : SR := match r with
  | .ok d ρ => dp2 i (dAt i ρ) fk d ρ
  | .ex x ρ => .ex x ρ
  | .bad => .bad
theorem x_dp1 {fk : Rho → R Dt} : dp1 i fk (.ok d ρ) = dp2 i (dAt i ρ) fk d ρ := rfl
theorem x_dp2 {fk : Rho → R Dt} : dp2 i (some kvs) fk d ρ = dp3 i d (fk ρ) := rfl
theorem x_dp3 : dp3 i d (.ok e ρ) = dp4 i (dAt i ρ) (keyD e) d ρ := rfl
theorem x_dp4 {k : Key} : dp4 i (some kvs) (some k) d ρ = nxB (decide (kvs.length < 1000000)) (dPut i (putKD kvs k d) ρ) := by
  simp only [dp4, nxB, decide_eq_true_eq]
theorem x_dputS {fk fv : Rho → R Dt} : dputS i fk fv ρ = dp1 i fk (fv ρ) := by
  unfold dputS
  cases fv ρ with
  | ok d ρ1 =>
    dsimp only [R.bindS, dp1]
    cases dAt i ρ1 with
    | none => rfl
    | some k0 =>
      dsimp only [dp2]
      cases fk ρ1 with
      | ok k ρ2 =>
        dsimp only [dp3]
        cases keyD k <;> cases dAt i ρ2 <;> rfl
      | _ => rfl
  | _ => rfl
theorem x_keyI {k : Int} : keyD (.int k) = some (.inl k) := rfl
theorem x_keyS {k : Str} : keyD (.str k) = some (.inr k) := rfl
def up3 (i : Nat) (o : Option (List (Key × Dt))) (d : Dt) (ρ : Rho) : SR := match d, o with
  | .dct more, some kvs => if kvs.length + more.length ≤ 1000000 then .nx (dPut i (mergeD kvs more) ρ) else .bad
  | _, _ => .bad
def up2 (i : Nat) (r : R Dt) : SR := match r with
  | .ok d ρ => up3 i (dAt i ρ) d ρ
  | .ex x ρ => .ex x ρ
  | .bad => .bad
def up1 (i : Nat) (o : Option (List (Key × Dt))) (f : Rho → R Dt) (ρ : Rho) : SR := match o with
  | some _ => up2 i (f ρ)
  | none => .bad
theorem x_up1 : up1 i (some kvs) f1 ρ = up2 i (f1 ρ) := rfl
theorem x_up2 : up2 i (.ok d ρ) = up3 i (dAt i ρ) d ρ := rfl
theorem x_up3 {more : List (Key × Dt)} : up3 i (some kvs) (.dct more) ρ = nxB (decide (kvs.length + more.length ≤ 1000000)) (dPut i (mergeD kvs more) ρ) := by
  simp only [up3, nxB, decide_eq_true_eq]
theorem x_updS : updS i f1 ρ = up1 i (dAt i ρ) f1 ρ := by
  unfold updS
  cases dAt i ρ with
  | none => rfl
  | some k0 =>
    dsimp only [up1]
    cases f1 ρ with
    | ok d ρ1 =>
      dsimp only [R.bindS, up2]
      cases d with
      | dct k => cases dAt i ρ1 <;> rfl
      | _ => rfl
    | _ => rfl
def for1 (tg : Dt → Rho → Option Rho) (s : Rho → SR) (r : R (List Dt)) : SR := match r with
  | .ok ds ρ => forL tg s ds ρ
  | .ex x ρ => .ex x ρ
  | .bad => .bad
theorem x_for1 {tg : Dt → Rho → Option Rho} : for1 tg s (.ok ds ρ) = forL tg s ds ρ := rfl
theorem x_forS {it : Rho → R (List Dt)} {tg : Dt → Rho → Option Rho} : forS it tg s ρ = for1 tg s (it ρ) := by unfold forS; cases it ρ <;> rfl
def wh2 (c : Rho → R Bool) (b : Rho → SR) (n : Nat) (r : SR) : SR := match r with
  | .nx ρ2 => whS c b n ρ2
  | .ct ρ2 => whS c b n ρ2
  | .bk ρ2 => .nx ρ2
  | .rt s ρ2 => .rt s ρ2
  | .ex e ρ2 => .ex e ρ2
  | .bad => .bad
def wh1 (c : Rho → R Bool) (b : Rho → SR) (n : Nat) (r : R Bool) : SR := match r with
  | .ok t ρ => if t = true then wh2 c b n (b ρ) else .nx ρ
  | .ex x ρ => .ex x ρ
  | .bad => .bad
theorem x_wh {n : Nat} : whS c1 s (n + 1) ρ = wh1 c1 s n (c1 ρ) := by
  simp only [whS]
  cases c1 ρ with
  | ok t ρ1 => cases t <;> rfl
  | _ => rfl
theorem x_wh1t {n : Nat} : wh1 c1 s n (.ok true ρ) = wh2 c1 s n (s ρ) := rfl
theorem x_wh1f {n : Nat} : wh1 c1 s n (.ok false ρ) = .nx ρ := rfl
theorem x_wh2n {n : Nat} : wh2 c1 s n (.nx ρ) = whS c1 s n ρ := rfl
theorem x_wh2r {n : Nat} : wh2 c1 s n (.rt sl ρ) = .rt sl ρ := rfl
def RTof (r : SR) : FR := match r with
  | .rt s _ => .ok s
  | .nx _ => .ok (.fr .non)
  | .ex e _ => .ex e
  | _ => .bad
theorem x_RTr : RTof (.rt sl ρ) = .ok sl := rfl
theorem x_RTn : RTof (.nx ρ) = .ok (.fr .non) := rfl
def rf1 (b : Bool) (s : Rho → SR) (ρ : Rho) : FR := if b = true then RTof (s ρ) else .bad
theorem x_rf1 : rf1 true s ρ = RTof (s ρ) := rfl
theorem x_runF {np nn : Nat} : runF np nn s ds = rf1 (decide (ds.length = np)) s (envOf nn ds) := by
  unfold runF rf1 RTof
  by_cases h : ds.length = np
  · refine (if_pos h).trans (Eq.trans ?_ (if_pos (decide_eq_true h)).symm)
    cases s (envOf nn ds) <;> rfl
  · exact (if_neg h).trans (if_neg (by rw [decide_eq_false h]; exact Bool.false_ne_true)).symm
def MIo (o : Option (List (Key × Dt))) (s : Sl) : FM := match o with
  | some kvs' => .ok s kvs'
  | none => .bad
def RMof (r : SR) : FM := match r with
  | .rt s ρ => MIo (ioOf ρ) s
  | .nx ρ => MIo (ioOf ρ) (.fr .non)
  | .ex e _ => .ex e
  | _ => .bad
theorem x_RMr : RMof (.rt sl ρ) = MIo (ioOf ρ) sl := rfl
theorem x_RMn : RMof (.nx ρ) = MIo (ioOf ρ) (.fr .non) := rfl
theorem x_MIo : MIo (some kvs) sl = .ok sl kvs := rfl
theorem x_ioOf : ioOf (some (.io kvs) :: ρ) = some kvs := rfl
def rm1 (b : Bool) (s : Rho → SR) (ρ : Rho) : FM := if b = true then RMof (s ρ) else .bad
theorem x_rm1 : rm1 true s ρ = RMof (s ρ) := rfl
theorem x_runM {np nn : Nat} : runM np nn s kvs ds = rm1 (decide (ds.length + 1 = np)) s (envM nn kvs ds) := by
  unfold runM rm1 RMof MIo
  by_cases h : ds.length + 1 = np
  · refine (if_pos h).trans (Eq.trans ?_ (if_pos (decide_eq_true h)).symm)
    cases s (envM nn kvs ds) with
    | rt sl ρ => first | rfl | (dsimp only; cases ioOf ρ <;> rfl)
    | nx ρ => first | rfl | (dsimp only; cases ioOf ρ <;> rfl)
    | _ => rfl
  · exact (if_neg h).trans (if_neg (by rw [decide_eq_false h]; exact Bool.false_ne_true)).symm
-- places
theorem x_putR : putR (i + 1) sl ρ = some (ρ.set (i + 1) (some sl)) := by
  unfold putR
  rw [if_neg (fun z => by have := z.1; omega)]
theorem x_putR0f : putR 0 sl (some (.fr d) :: ρ) = some (some sl :: ρ) := rfl
theorem x_putR0l {xs : List Dt} : putR 0 sl (some (.ol xs) :: ρ) = some (some sl :: ρ) := rfl
theorem x_putR0d {xs : List (Key × Dt)} : putR 0 sl (some (.od xs) :: ρ) = some (some sl :: ρ) := rfl
theorem x_putR0n : putR 0 sl (none :: ρ) = some (some sl :: ρ) := rfl
theorem x_noIof : noIo (some (.fr d) :: ρ) = true := rfl
theorem x_noIol {xs : List Dt} : noIo (some (.ol xs) :: ρ) = true := rfl
theorem x_noIod {xs : List (Key × Dt)} : noIo (some (.od xs) :: ρ) = true := rfl
theorem x_noIon : noIo (none :: ρ) = true := rfl
theorem x_tgN : tgN i d ρ = putR i (.fr d) ρ := rfl
theorem x_tgT {is : List Nat} {ds : List Dt} : tgT is (.tup ds) ρ = putAll is ds ρ := rfl
theorem x_putAll0 : putAll [] [] ρ = some ρ := rfl
def pa1 (is : List Nat) (ds : List Dt) (o : Option Rho) : Option Rho := match o with
  | some ρ => putAll is ds ρ
  | none => none
theorem x_pa1 {is : List Nat} : pa1 is ds (some ρ) = putAll is ds ρ := rfl
theorem x_putAll {is : List Nat} : putAll (i :: is) (d :: ds) ρ = pa1 is ds (putR i (.fr d) ρ) := by
  rw [putAll]
  cases putR i (.fr d) ρ <;> rfl
def dSl (s : Option (Option Sl)) : Option (List (Key × Dt)) := match s with
  | some (some (.od kvs)) => some kvs
  | some (some (.io kvs)) => some kvs
  | _ => none
theorem x_dAt : dAt i ρ = dSl ρ[i]? := rfl
theorem x_dSlo {k : List (Key × Dt)} : dSl (some (some (.od k))) = some k := rfl
theorem x_dSli {k : List (Key × Dt)} : dSl (some (some (.io k))) = some k := rfl
def dPu (s : Option (Option Sl)) (i : Nat) (k : List (Key × Dt)) (ρ : Rho) : Rho := match s with
  | some (some (.od _)) => ρ.set i (some (.od k))
  | some (some (.io _)) => ρ.set i (some (.io k))
  | _ => ρ
theorem x_dPut {k : List (Key × Dt)} : dPut i k ρ = dPu ρ[i]? i k ρ := rfl
theorem x_dPuo {k k' : List (Key × Dt)} : dPu (some (some (.od k'))) i k ρ = ρ.set i (some (.od k)) := rfl
theorem x_dPui {k k' : List (Key × Dt)} : dPu (some (some (.io k'))) i k ρ = ρ.set i (some (.io k)) := rfl
def lSl (s : Option (Option Sl)) : Option (List Dt) := match s with
  | some (some (.ol xs)) => some xs
  | _ => none
theorem x_lAt : lAt i ρ = lSl ρ[i]? := rfl
theorem x_lSl {k : List Dt} : lSl (some (some (.ol k))) = some k := rfl
theorem x_envOf {n : Nat} {ds : List Dt} : envOf n ds = ds.map (fun d => some (.fr d)) ++ List.replicate (n - ds.length) none := rfl
theorem x_envM {n : Nat} {ds : List Dt} {k : List (Key × Dt)} : envM n k ds = some (.io k) :: (ds.map (fun d => some (.fr d)) ++ List.replicate (n - (ds.length + 1)) none) := rfl
theorem x_toDl {xs : List Dt} : toD (.ol xs) = some (.lst xs) := rfl
theorem x_toDd {xs : List (Key × Dt)} : toD (.od xs) = some (.dct xs) := rfl
theorem x_toDf : toD (.fr d) = some d := rfl
theorem x_nof : notIo (.fr d) = true := rfl
theorem x_nol {xs : List Dt} : notIo (.ol xs) = true := rfl
theorem x_nod {xs : List (Key × Dt)} : notIo (.od xs) = true := rfl
theorem x_okW {vs : List Nat} : okW vs ρ = (noIo ρ || vs.all (fun v => decide (v ≠ 0))) := rfl
theorem x_wipe0 : wipeR ρ [] = ρ := rfl
theorem x_wipe {vs : List Nat} : wipeR ρ (i :: vs) = (wipeR ρ vs).set i none := rfl
theorem x_yesT : yesT ρ = .ok true ρ := rfl
end
/-! ### numbers -/
section
theorem n_add (a b : Nat) : (a : Int) + (b : Int) = ((a + b : Nat) : Int) := rfl
theorem n_mul (a b : Nat) : (a : Int) * (b : Int) = ((a * b : Nat) : Int) := rfl
theorem n_mod (a b : Nat) : (a : Int) % (b : Int) = ((a % b : Nat) : Int) := rfl
theorem n_div (a b : Nat) : (a : Int) / (b : Int) = ((a / b : Nat) : Int) := rfl
theorem n_sub {a b : Nat} (h : b ≤ a) : (a : Int) - (b : Int) = ((a - b : Nat) : Int) := by omega
theorem n_lt (a b : Nat) : decide ((a : Int) < (b : Int)) = decide (a < b) := by simp only [Int.ofNat_lt]
theorem n_le (a b : Nat) : decide ((a : Int) ≤ (b : Int)) = decide (a ≤ b) := by simp only [Int.ofNat_le]
theorem n_eq (a b : Nat) : decide ((a : Int) = (b : Int)) = decide (a = b) := by simp only [Int.ofNat_inj]
theorem d_t {p : Prop} [Decidable p] (h : p) : decide p = true := decide_eq_true h
theorem d_f {p : Prop} [Decidable p] (h : ¬ p) : decide p = false := decide_eq_false h
theorem y_add (a b : Int) : addD (.int a) (.int b) = some (.int (a + b)) := rfl
theorem y_sub (a b : Int) : subD (.int a) (.int b) = some (.int (a - b)) := rfl
theorem y_mod {b : Nat} (a : Int) (h : 0 < b) : modD (.int a) (.int (b : Nat)) = some (.int (a % (b : Nat))) := o_mod (by omega)
theorem y_div {b : Nat} (a : Int) (h : 0 < b ∧ b < 2 ^ 63) : fdivD (.int a) (.int (b : Nat)) = some (.int (a / (b : Nat))) := o_fdiv (by omega) (by omega)
theorem y_mulL {a : Nat} {b : Int} (h : a < 2 ^ 63) : mulD (.int (a : Nat)) (.int b) = some (.int ((a : Nat) * b)) := o_mulL (by omega) (by omega)
theorem y_mulR {a : Int} {b : Nat} (h : b < 2 ^ 63) : mulD (.int a) (.int (b : Nat)) = some (.int (a * (b : Nat))) := o_mulR (by omega) (by omega)
theorem y_lt (a b : Int) : ltD (.int a) (.int b) = some (.bl (decide (a < b))) := rfl
theorem y_le (a b : Int) : leD (.int a) (.int b) = some (.bl (decide (a ≤ b))) := rfl
theorem y_gt (a b : Int) : gtD (.int a) (.int b) = some (.bl (decide (b < a))) := rfl
theorem y_ge (a b : Int) : geD (.int a) (.int b) = some (.bl (decide (b ≤ a))) := rfl
theorem y_cmp (p : Int → Int → Bool) (a b : Int) : cmpD p (.int a) (.int b) = some (.bl (p a b)) := rfl
theorem y_eq (a b : Int) : eqD (.int a) (.int b) = some (.bl (decide (a = b))) := rfl
theorem y_ne (a b : Int) : neD (.int a) (.int b) = some (.bl (!decide (a = b))) := rfl
theorem y_int (a : Int) : intD (.int a) = some (.int a) := rfl
theorem y_notD (b : Bool) : notD (.bl b) = some (.bl (!b)) := rfl
theorem y_truB (b : Bool) : truD (.bl b) = some b := rfl
theorem y_neg (a : Int) : negD (.int a) = some (.int (-a)) := rfl
theorem y_isi_n (T : Ty) : isiD T .non = some (.bl (isiT T .none)) := rfl
theorem y_isi_b (T : Ty) (b : Bool) : isiD T (.bl b) = some (.bl (isiT T .bool)) := rfl
theorem y_isi_i (T : Ty) (i : Int) : isiD T (.int i) = some (.bl (isiT T .int)) := rfl
theorem y_isi_s (T : Ty) (i : Str) : isiD T (.str i) = some (.bl (isiT T .str)) := rfl
theorem y_isi_l (T : Ty) (i : List Dt) : isiD T (.lst i) = some (.bl (isiT T .list)) := rfl
theorem y_isi_t (T : Ty) (i : List Dt) : isiD T (.tup i) = some (.bl (isiT T .tuple)) := rfl
theorem y_isi_d (T : Ty) (i : List (L2.Key × Dt)) : isiD T (.dct i) = some (.bl (isiT T .dict)) := rfl
theorem y_isi_c (T : Ty) (i : List Int) : isiD T (.scr i) = some (.bl (isiT T .list)) := rfl
end
/-! ### lists of natural numbers -/
abbrev NI (n : Nat) : Dt := .int (n : Nat)
def nl (ns : List Nat) : List Dt := ns.map fun n => .int (n : Nat)
section
variable {ns ms : List Nat} {n m : Nat}
theorem nl_nil : nl [] = [] := rfl
theorem nl_cons : nl (n :: ns) = .int (n : Nat) :: nl ns := rfl
theorem nl_app : nl (ns ++ ms) = nl ns ++ nl ms := List.map_append
theorem nl_len : (nl ns).length = ns.length := List.length_map _
theorem nl_get (i : Nat) : (nl ns)[i]? = (ns[i]?).map fun n => Dt.int (n : Nat) := List.getElem?_map
theorem l_len (ds : List Dt) : lenD (.lst ds) = some (.int (ds.length : Nat)) := rfl
theorem l_lenT (ds : List Dt) : lenD (.tup ds) = some (.int (ds.length : Nat)) := rfl
theorem l_it (ds : List Dt) : itD (.lst ds) = some ds := rfl
theorem l_itT (ds : List Dt) : itD (.tup ds) = some ds := rfl
theorem l_tuple (ds : List Dt) : tupleD (.lst ds) = some (.tup ds) := rfl
theorem l_list (ds : List Dt) : listD (.tup ds) = some (.lst ds) := rfl
theorem l_listL (ds : List Dt) : listD (.lst ds) = some (.lst ds) := rfl
theorem l_ix (ds : List Dt) (i : Nat) : ixD (.lst ds) (.int (i : Nat)) = ds[i]? := by
  show L2.atI ds (i : Nat) = _
  unfold L2.atI L2.ixN
  rw [if_pos (by omega)]
  by_cases h : i < ds.length
  · rw [if_pos (by omega)]; rfl
  · rw [if_neg (by omega), List.getElem?_eq_none (by omega)]; rfl
theorem l_ixT (ds : List Dt) (i : Nat) : ixD (.tup ds) (.int (i : Nat)) = ds[i]? := l_ix ds i
theorem l_sum : sumD (.lst (nl ns)) = some (.int (ns.sum : Nat)) := by
  have e : nl ns = (ns.map fun n => ((n : Nat) : Int)).map Dt.int := by unfold nl; rw [List.map_map]; rfl
  unfold sumD
  dsimp only
  rw [e, intsOf_map]
  show some (Dt.int _) = _
  congr 2
  induction ns with
  | nil => rfl
  | cons n ns ih =>
    have ih' := ih (by unfold nl; rw [List.map_map]; rfl)
    rw [List.map_cons, List.sum_cons, List.sum_cons, ih']
    rfl
theorem eqv_nl : ∀ ns ms : List Nat, PyData.eqvAll (toPyAll (nl ns)) (toPyAll (nl ms)) = decide (ns = ms)
  | [], [] => rfl
  | [], m :: ms => rfl
  | n :: ns, [] => rfl
  | n :: ns, m :: ms => by
    simp only [nl_cons, toPyAll, toPy, PyData.eqvAll, PyData.eqv, eqv_nl ns ms]
    by_cases h : n = m
    · subst h
      simp
    · have : ¬ ((n : Int) = (m : Int)) := by omega
      simp [h, this]
theorem nl_shape : ∀ ns : List Nat, plainAll (nl ns) = true ∧ PyData.canLayAll0 (toPyAll (nl ns)) = true ∧ PyData.depthAll (toPyAll (nl ns)) = 0
  | [] => ⟨rfl, rfl, rfl⟩
  | n :: ns => by
    obtain ⟨h1, h2, h3⟩ := nl_shape ns
    refine ⟨?_, ?_, ?_⟩
    · simp only [nl_cons, plainAll, plainD, h1, Bool.and_self]
    · simp only [nl_cons, toPyAll, toPy, PyData.canLayAll0, PyData.canLay0, h2, Bool.and_self]
    · simp only [nl_cons, toPyAll, toPy, PyData.depthAll, PyData.depth, h3, Nat.max_self]
theorem nl_shp (ns : List Nat) : shp (.lst (nl ns)) = true := by
  obtain ⟨h1, h2, h3⟩ := nl_shape ns
  simp only [shp, plainD, h1, SeqAt.shaped, toPy, PyData.canLay0, h2, PyData.depth, h3, Bool.true_and]
  rfl
theorem nl_shpT (ns : List Nat) : shp (.tup (nl ns)) = true := by
  obtain ⟨h1, h2, h3⟩ := nl_shape ns
  simp only [shp, plainD, h1, SeqAt.shaped, toPy, PyData.canLay0, h2, PyData.depth, h3, Bool.true_and]
  rfl
theorem l_eq : eqD (.lst (nl ns)) (.lst (nl ms)) = some (.bl (decide (ns = ms))) := by
  unfold eqD
  dsimp only
  rw [if_pos ⟨nl_shp ns, nl_shp ms⟩]
  simp only [eqt, toPy, PyData.eqv, eqv_nl]
theorem l_ne : neD (.lst (nl ns)) (.lst (nl ms)) = some (.bl (!decide (ns = ms))) := by
  unfold neD
  dsimp only
  rw [if_pos ⟨nl_shp ns, nl_shp ms⟩]
  simp only [eqt, toPy, PyData.eqv, eqv_nl]
theorem l_eq0 : eqD (.lst (nl ns)) (.lst []) = some (.bl (decide (ns = []))) := l_eq (ms := [])
theorem l_ne0 : neD (.lst (nl ns)) (.lst []) = some (.bl (!decide (ns = []))) := l_ne (ms := [])
theorem l_eqT : eqD (.tup (nl ns)) (.tup (nl ms)) = some (.bl (decide (ns = ms))) := by
  unfold eqD
  dsimp only
  rw [if_pos ⟨nl_shpT ns, nl_shpT ms⟩]
  simp only [eqt, toPy, PyData.eqv, eqv_nl]
theorem nl_flat : ∀ ns : List Nat, (nl ns).all flatD = true
  | [] => rfl
  | n :: ns => by
    rw [nl_cons, List.all_cons, nl_flat ns]
    rfl
theorem nl_inV : ∀ ns : List Nat, L2.inV (.int (m : Nat)) ((nl ns).map toV) = decide (m ∈ ns)
  | [] => rfl
  | n :: ns => by
    have ih := nl_inV ns
    rw [nl_cons, List.map_cons]
    unfold L2.inV at ih ⊢
    rw [List.any_cons, ih]
    show (L2.eqV (.int (n : Nat)) (.int (m : Nat)) || decide (m ∈ ns)) = decide (m ∈ n :: ns)
    by_cases h : n = m
    · subst h
      simp [L2.eqV]
    · have h1 : ¬ ((n : Int) = (m : Int)) := by omega
      have h2 : m ≠ n := fun z => h z.symm
      simp [L2.eqV, h1, h2]
theorem l_in : inD (.int (m : Nat)) (.lst (nl ns)) = some (.bl (decide (m ∈ ns))) := by
  unfold inD inB
  dsimp only
  rw [if_pos ⟨rfl, nl_flat ns⟩]
  show some (Dt.bl (L2.inV (.int (m : Nat)) ((nl ns).map toV))) = _
  rw [nl_inV]
theorem l_nin : ninD (.int (m : Nat)) (.lst (nl ns)) = some (.bl (!decide (m ∈ ns))) := by
  unfold ninD inB
  dsimp only
  rw [if_pos ⟨rfl, nl_flat ns⟩]
  show some (Dt.bl (!L2.inV (.int (m : Nat)) ((nl ns).map toV))) = _
  rw [nl_inV]
theorem l_cat (xs ys : List Dt) (h : xs.length + ys.length ≤ 1000000) : addD (.lst xs) (.lst ys) = some (.lst (xs ++ ys)) := if_pos h
theorem l_catT (xs ys : List Dt) (h : xs.length + ys.length ≤ 1000000) : addD (.tup xs) (.tup ys) = some (.tup (xs ++ ys)) := if_pos h
theorem nl_stp (c : Int) : stp (nl ns) c = nl (stp ns c) := by
  unfold stp pickI
  rw [nl_len]
  generalize sliceRange 0 (ns.length : Nat) c = ix
  induction ix with
  | nil => rfl
  | cons i ix ih =>
    rw [List.filterMap_cons, List.filterMap_cons, nl_get, ih]
    cases ns[i]? <;> rfl
theorem l_stp {k : Nat} (h : 0 < k) : stpD (.lst (nl ns)) (some (k : Nat)) = some (.lst (nl (stp ns (k : Nat)))) := by
  unfold stpD
  dsimp only
  rw [if_pos (by omega), nl_stp]
/-- every k-th one of a row of k * c things -/
theorem stp_range {c k : Nat} (hk : 0 < k) (f : Nat → Nat) : stp ((List.range (k * c)).map f) (k : Nat) = (List.range c).map fun i => f (i * k) := by
  unfold stp pickI sliceRange
  rw [List.length_map, List.length_range]
  have e1 : (if ((k : Nat) : Int) > 0 then (if (0 : Int) < ((k * c : Nat) : Int) then (((k * c : Nat) : Int) - 0 + (k : Nat) - 1) / (k : Nat) else 0) else if (0 : Int) > ((k * c : Nat) : Int) then (0 - ((k * c : Nat) : Int) - (k : Nat) - 1) / -((k : Nat) : Int) else 0).toNat = c := by
    rw [if_pos (by omega)]
    by_cases hc : c = 0
    · subst hc
      rfl
    · have hp : 0 < k * c := Nat.mul_pos hk (by omega)
      rw [if_pos (by omega)]
      have e2 : ((k * c : Nat) : Int) - 0 + ((k : Nat) : Int) - 1 = ((k * c + k - 1 : Nat) : Int) := by omega
      rw [e2]
      show (((k * c + k - 1) / k : Nat) : Int).toNat = c
      rw [Int.toNat_natCast]
      rw [show k * c + k - 1 = (k - 1) + k * c by omega, Nat.add_mul_div_left _ _ hk, Nat.div_eq_of_lt (by omega), Nat.zero_add]
  simp only [e1]
  rw [List.filterMap_map]
  have e3 : ∀ i ∈ List.range c, ((fun x => ((List.range (k * c)).map f)[x]?) ∘ fun j : Nat => (0 + ((k : Nat) : Int) * (j : Int)).toNat) i = some (f (i * k)) := fun i hi => by
    rw [List.mem_range] at hi
    have e4 : (0 + ((k : Nat) : Int) * (i : Int)).toNat = i * k := by
      rw [Int.zero_add, n_mul, Int.toNat_natCast, Nat.mul_comm]
    show ((List.range (k * c)).map f)[(0 + ((k : Nat) : Int) * (i : Int)).toNat]? = _
    have e5 : i * k < k * c := by
      rw [Nat.mul_comm]
      exact Nat.mul_lt_mul_of_pos_left hi hk
    rw [e4, List.getElem?_map, List.getElem?_range e5]
    rfl
  generalize hg : ((fun x => ((List.range (k * c)).map f)[x]?) ∘ fun j : Nat => (0 + ((k : Nat) : Int) * (j : Int)).toNat) = g at e3
  clear hg e1
  generalize List.range c = l at e3
  induction l with
  | nil => rfl
  | cons a l ih =>
    rw [List.filterMap_cons, e3 a (List.mem_cons_self ..), List.map_cons, ih fun i hi => e3 i (List.mem_cons_of_mem _ hi)]
theorem l_rng1 {n : Nat} (h : n < 2 ^ 62) : rngD1 [.int (n : Nat)] = some (nl (List.range n)) := by
  have e : (n : Int).toNat = n := rfl
  unfold rngD1
  dsimp only
  rw [if_pos ⟨by omega, by omega⟩, e]
  rfl
theorem l_rng2 {a b : Nat} (h : b < 2 ^ 62 ∧ a < 2 ^ 62) : rngD2 [.int (a : Nat), .int (b : Nat)] = some (nl (List.range' a (b - a))) := by
  have e : ((b : Int) - (a : Int)).toNat = b - a := by omega
  unfold rngD2
  dsimp only
  rw [if_pos ⟨by omega, by omega, by omega, by omega⟩, e]
  unfold nl
  rw [List.range'_eq_map_range, List.map_map]
  rfl
theorem lc_nat {ρ : Rho} {tg : Dt → Rho → Option Rho} {ct : Rho → R Bool} {el : Rho → R Dt} {vs : List Nat} (p : Nat → Bool) (F : Nat → Dt) : ∀ (ns : List Nat), (∀ n ∈ ns, ∃ ρ1, tg (.int (n : Nat)) ρ = some ρ1 ∧ ct ρ1 = .ok (p n) ρ1 ∧ (p n = true → el ρ1 = .ok (F n) ρ1) ∧ wipeR ρ1 vs = ρ) → lcL tg ct el vs (nl ns) ρ = .ok ((ns.filter p).map F) ρ
  | [], _ => rfl
  | x :: xs, h => by
    obtain ⟨ρ1, h1, h2, h3, h4⟩ := h x (List.mem_cons_self ..)
    have ih := lc_nat p F xs fun y hy => h y (List.mem_cons_of_mem _ hy)
    rw [nl_cons]
    simp only [lcL, h1, h2, R.bind]
    cases e : p x with
    | true =>
      rw [if_pos rfl, List.filter_cons_of_pos e, h3 e]
      simp only [h4, ih, List.map_cons]
    | false =>
      rw [if_neg Bool.false_ne_true, List.filter_cons_of_neg (by rw [e]; exact Bool.false_ne_true)]
      simp only [h4, ih]
theorem lc_natN {ρ : Rho} {tg : Dt → Rho → Option Rho} {ct : Rho → R Bool} {el : Rho → R Dt} {vs : List Nat} (p : Nat → Bool) (F : Nat → Nat) (ns : List Nat) (h : ∀ n ∈ ns, ∃ ρ1, tg (.int (n : Nat)) ρ = some ρ1 ∧ ct ρ1 = .ok (p n) ρ1 ∧ (p n = true → el ρ1 = .ok (.int (F n : Nat)) ρ1) ∧ wipeR ρ1 vs = ρ) : lcL tg ct el vs (nl ns) ρ = .ok (nl ((ns.filter p).map F)) ρ := by
  rw [lc_nat p (fun n => .int (F n : Nat)) ns h]
  unfold nl
  rw [List.map_map]
  rfl
theorem lc_natF {ρ : Rho} {tg : Dt → Rho → Option Rho} {ct : Rho → R Bool} {el : Rho → R Dt} {vs : List Nat} (p : Nat → Bool) (ns : List Nat) (h : ∀ n ∈ ns, ∃ ρ1, tg (.int (n : Nat)) ρ = some ρ1 ∧ ct ρ1 = .ok (p n) ρ1 ∧ (p n = true → el ρ1 = .ok (.int (n : Nat)) ρ1) ∧ wipeR ρ1 vs = ρ) : lcL tg ct el vs (nl ns) ρ = .ok (nl (ns.filter p)) ρ := by
  rw [lc_natN p (fun n => n) ns h, List.map_id']
theorem lc_natM {ρ : Rho} {tg : Dt → Rho → Option Rho} {el : Rho → R Dt} {vs : List Nat} (F : Nat → Nat) (ns : List Nat) (h : ∀ n ∈ ns, ∃ ρ1, tg (.int (n : Nat)) ρ = some ρ1 ∧ el ρ1 = .ok (.int (F n : Nat)) ρ1 ∧ wipeR ρ1 vs = ρ) : lcL tg yesT el vs (nl ns) ρ = .ok (nl (ns.map F)) ρ := by
  rw [lc_natN (fun _ => true) F ns fun n hn => by
    obtain ⟨ρ1, h1, h2, h3⟩ := h n hn
    exact ⟨ρ1, h1, rfl, fun _ => h2, h3⟩, List.filter_eq_self.mpr fun _ _ => rfl]
end
end PL
namespace PL
open PySem DW
open L2 (Key)
/-! ### loops -/
section
variable {α : Type} {tg : Dt → Rho → Option Rho} {bd : Rho → SR} {ρ ρ1 : Rho} {d : Dt}
def fb1 (bd : Rho → SR) (o : Option Rho) : SR := match o with
  | some ρ => bd ρ
  | none => .bad
def fb (tg : Dt → Rho → Option Rho) (bd : Rho → SR) (d : Dt) (ρ : Rho) : SR := fb1 bd (tg d ρ)
theorem x_fb : fb tg bd d ρ = fb1 bd (tg d ρ) := rfl
theorem x_fb1 : fb1 bd (some ρ) = bd ρ := rfl
theorem forL_cons {ds : List Dt} {ρ' : Rho} (h : fb tg bd d ρ = .nx ρ') : forL tg bd (d :: ds) ρ = forL tg bd ds ρ' := by
  unfold fb fb1 at h
  simp only [forL]
  cases e : tg d ρ with
  | none => rw [e] at h; cases h
  | some ρ1 =>
    rw [e] at h
    dsimp only at h ⊢
    rw [h]
theorem for_ind (F : α → Dt) (P : Nat → Rho → Prop) : ∀ (xs : List α) (j : Nat) (ρ : Rho), (∀ i x ρ, xs[i]? = some x → P (j + i) ρ → ∃ ρ', fb tg bd (F x) ρ = .nx ρ' ∧ P (j + i + 1) ρ') → P j ρ → ∃ ρ', forL tg bd (xs.map F) ρ = .nx ρ' ∧ P (j + xs.length) ρ'
  | [], j, ρ, _, h => ⟨ρ, rfl, h⟩
  | x :: xs, j, ρ, hs, h => by
    obtain ⟨ρ2, h2, h3⟩ := hs 0 x ρ rfl h
    obtain ⟨ρ', q1, q2⟩ := for_ind F P xs (j + 1) ρ2 (fun i d ρ hd hI => by
      have := hs (i + 1) d ρ (by simpa using hd) (by rw [show j + (i + 1) = j + 1 + i by omega]; exact hI)
      rwa [show j + (i + 1) + 1 = j + 1 + i + 1 by omega] at this) h3
    refine ⟨ρ', ?_, ?_⟩
    · rw [List.map_cons, forL_cons h2]; exact q1
    · rw [List.length_cons, show j + (xs.length + 1) = j + 1 + xs.length by omega]
      exact q2
/-- a for whose turns keep P, none of which returns -/
theorem for_P {F : α → Dt} (P : Nat → Rho → Prop) {xs : List α} {ρ : Rho} (h0 : P 0 ρ) (hs : ∀ i x ρ, xs[i]? = some x → P i ρ → ∃ ρ', fb tg bd (F x) ρ = .nx ρ' ∧ P (i + 1) ρ') : ∃ ρ', forL tg bd (xs.map F) ρ = .nx ρ' ∧ P xs.length ρ' := by
  have := for_ind (tg := tg) (bd := bd) F P xs 0 ρ (fun i x ρ hx hI => by rw [Nat.zero_add] at hI ⊢; exact hs i x ρ hx hI) h0
  rwa [Nat.zero_add] at this
theorem for_nl (P : Nat → Rho → Prop) {ns : List Nat} {ρ : Rho} (h0 : P 0 ρ) (hs : ∀ i x ρ, ns[i]? = some x → P i ρ → ∃ ρ', fb tg bd (.int (x : Nat)) ρ = .nx ρ' ∧ P (i + 1) ρ') : ∃ ρ', forL tg bd (nl ns) ρ = .nx ρ' ∧ P ns.length ρ' := for_P (F := fun n : Nat => Dt.int (n : Nat)) P h0 hs
/-- a for as a fold over a state -/
theorem for_fold {σ : Type} {F : α → Dt} (enc : σ → Rho) (step : σ → α → σ) (Inv : σ → Prop) : ∀ {xs : List α} {s : σ}, Inv s → (∀ s x, x ∈ xs → Inv s → fb tg bd (F x) (enc s) = .nx (enc (step s x)) ∧ Inv (step s x)) → forL tg bd (xs.map F) (enc s) = .nx (enc (xs.foldl step s)) ∧ Inv (xs.foldl step s)
  | [], s, hi, _ => ⟨rfl, hi⟩
  | x :: xs, s, hi, hs => by
    obtain ⟨h1, h2⟩ := hs s x (List.mem_cons_self ..) hi
    rw [List.map_cons, forL_cons h1]
    exact for_fold enc step Inv h2 fun s y hy hi => hs s y (List.mem_cons_of_mem _ hy) hi
end
/-! ### comprehensions over any things -/
section
variable {α : Type} {ρ : Rho} {tg : Dt → Rho → Option Rho} {ct : Rho → R Bool} {el : Rho → R Dt} {vs : List Nat}
theorem lc_any {F : α → Dt} (p : α → Bool) (G : α → Dt) : ∀ (xs : List α), (∀ x ∈ xs, ∃ ρ1, tg (F x) ρ = some ρ1 ∧ ct ρ1 = .ok (p x) ρ1 ∧ (p x = true → el ρ1 = .ok (G x) ρ1) ∧ wipeR ρ1 vs = ρ) → lcL tg ct el vs (xs.map F) ρ = .ok ((xs.filter p).map G) ρ
  | [], _ => rfl
  | x :: xs, h => by
    obtain ⟨ρ1, h1, h2, h3, h4⟩ := h x (List.mem_cons_self ..)
    have ih := lc_any p G xs fun y hy => h y (List.mem_cons_of_mem _ hy)
    rw [List.map_cons]
    simp only [lcL, h1, h2, R.bind]
    cases e : p x with
    | true =>
      rw [if_pos rfl, List.filter_cons_of_pos e, h3 e]
      simp only [h4, ih, List.map_cons]
    | false =>
      rw [if_neg Bool.false_ne_true, List.filter_cons_of_neg (by rw [e]; exact Bool.false_ne_true)]
      simp only [h4, ih]
end
end PL
namespace PL
open PySem DW
theorem nl_last {ns : List Nat} {n : Nat} : ixD (.lst (nl (ns ++ [n]))) (.int (-((1 : Nat) : Int))) = some (.int (n : Nat)) := by
  show L2.atI (nl (ns ++ [n])) _ = _
  unfold L2.atI L2.ixN
  rw [if_neg (by omega), nl_len, List.length_append, List.length_singleton, if_pos (by omega)]
  show (nl (ns ++ [n]))[((-((1 : Nat) : Int)) + ((ns.length + 1 : Nat) : Int)).toNat]? = _
  rw [show ((-((1 : Nat) : Int)) + ((ns.length + 1 : Nat) : Int)).toNat = ns.length by omega, nl_get, List.getElem?_append_right (Nat.le_refl _), Nat.sub_self]
  rfl
end PL
namespace PL
open PySem DW
theorem l_eq00 : eqD (.lst []) (.lst []) = some (.bl true) := rfl
theorem l_ne00 : neD (.lst []) (.lst []) = some (.bl false) := rfl
theorem l_eq01 {ns : List Nat} : eqD (.lst []) (.lst (nl ns)) = some (.bl (decide ([] = ns))) := l_eq (ns := [])
theorem l_ne01 {ns : List Nat} : neD (.lst []) (.lst (nl ns)) = some (.bl (!decide ([] = ns))) := l_ne (ns := [])
end PL
namespace PL
open PySem DW
theorem l_lenS (ns : List Int) : lenD (.scr ns) = some (.int (ns.length : Nat)) := rfl
end PL
namespace PL
open PySem DW
open L2 (Key)
/-! ### dicts whose keys are natural numbers, all with True -/
section
variable {ρ : Rho} {it : Rho → R (List Dt)} {tg : Dt → Rho → Option Rho} {c1 : Rho → R Bool} {f1 f2 : Rho → R Dt} {vs : List Nat} {ds : List Dt} {kvs : List (Key × Dt)}
def ODof (r : R (List (Key × Dt))) : R Sl := match r with
  | .ok ds ρ => .ok (.od ds) ρ
  | _ => .bad
theorem x_ODof : ODof (.ok kvs ρ) = .ok (.od kvs) ρ := rfl
def dc2 (b : Bool) (tg : Dt → Rho → Option Rho) (c : Rho → R Bool) (e e' : Rho → R Dt) (vs : List Nat) (xs : List Dt) (ρ : Rho) : R Sl := if b = true then ODof (dcL tg c e e' vs xs (wipeR ρ vs) []) else .bad
def dc1 (tg : Dt → Rho → Option Rho) (c : Rho → R Bool) (e e' : Rho → R Dt) (vs : List Nat) (r : R (List Dt)) : R Sl := match r with
  | .ok xs ρ => dc2 (okW vs ρ && decide (xs.length ≤ 1000000)) tg c e e' vs xs ρ
  | .ex x ρ => .ex x ρ
  | .bad => .bad
theorem x_dc2 : dc2 true tg c1 f1 f2 vs ds ρ = ODof (dcL tg c1 f1 f2 vs ds (wipeR ρ vs) []) := rfl
theorem x_dc1 : dc1 tg c1 f1 f2 vs (.ok ds ρ) = dc2 (okW vs ρ && decide (ds.length ≤ 1000000)) tg c1 f1 f2 vs ds ρ := rfl
theorem x_dcO : dcO it tg c1 f1 f2 vs ρ = dc1 tg c1 f1 f2 vs (it ρ) := by
  unfold dcO
  cases it ρ with
  | ok xs ρ1 =>
    simp only [R.bind, dc1, dc2, Bool.and_eq_true, decide_eq_true_eq]
    split
    · cases dcL tg c1 f1 f2 vs xs (wipeR ρ1 vs) [] <;> rfl
    · rfl
  | _ => rfl
def tk (ks : List Nat) : List (Key × Dt) := ks.map fun x => (.inl ((x : Nat) : Int), .bl true)
def insN (ks : List Nat) (x : Nat) : List Nat := if x ∈ ks then ks else ks ++ [x]
def mrg (ks ms : List Nat) : List Nat := ms.foldl insN ks
theorem tk_len (ks : List Nat) : (tk ks).length = ks.length := List.length_map _
theorem tk_nil : tk [] = [] := rfl
theorem tk_any (ks : List Nat) (x : Nat) : ((tk ks).any fun kv => decide (kv.1 = (.inl ((x : Nat) : Int) : Key))) = decide (x ∈ ks) := by
  induction ks with
  | nil => rfl
  | cons k ks ih =>
    show (decide ((.inl ((k : Nat) : Int) : Key) = .inl ((x : Nat) : Int)) || (tk ks).any _) = _
    rw [ih]
    by_cases h : x = k
    · subst h; simp
    · have : ¬ ((.inl ((k : Nat) : Int) : Key) = .inl ((x : Nat) : Int)) := fun z => h (by have := Sum.inl.inj z; omega)
      simp [this, h]
theorem tk_get (ks : List Nat) (x : Nat) : (getK (tk ks) (.inl ((x : Nat) : Int))).isSome = decide (x ∈ ks) := by
  rw [← tk_any]
  unfold getK
  generalize tk ks = l
  induction l with
  | nil => rfl
  | cons a l ih =>
    rw [List.find?_cons, List.any_cons]
    cases decide (a.1 = (.inl ((x : Nat) : Int) : Key)) with
    | true => rfl
    | false => rw [Bool.false_or]; exact ih
theorem tk_put (ks : List Nat) (x : Nat) : putKD (tk ks) (.inl ((x : Nat) : Int)) (.bl true) = tk (insN ks x) := by
  unfold putKD insN
  rw [tk_any]
  by_cases h : x ∈ ks
  · rw [if_pos (decide_eq_true h), if_pos h]
    unfold tk
    rw [List.map_map]
    refine List.map_congr_left fun k _ => ?_
    show (if (.inl ((k : Nat) : Int) : Key) = .inl ((x : Nat) : Int) then ((.inl ((k : Nat) : Int) : Key), Dt.bl true) else (.inl ((k : Nat) : Int), .bl true)) = _
    split <;> rfl
  · rw [if_neg (by rw [decide_eq_false h]; exact Bool.false_ne_true), if_neg h]
    unfold tk
    rw [List.map_append]
    rfl
theorem tk_merge (ms : List Nat) : ∀ ks : List Nat, mergeD (tk ks) (tk ms) = tk (mrg ks ms) := by
  induction ms with
  | nil => intro ks; rfl
  | cons m ms ih =>
    intro ks
    show mergeD (putKD (tk ks) (.inl ((m : Nat) : Int)) (.bl true)) (tk ms) = tk (mrg (insN ks m) ms)
    rw [tk_put, ih]
theorem l_nin_tk {x : Nat} {ks : List Nat} : ninD (.int (x : Nat)) (.dct (tk ks)) = some (.bl (!decide (x ∈ ks))) := by
  show some (Dt.bl (!(getK (tk ks) (.inl ((x : Nat) : Int))).isSome)) = _
  rw [tk_get]
theorem l_in_tk {x : Nat} {ks : List Nat} : inD (.int (x : Nat)) (.dct (tk ks)) = some (.bl (decide (x ∈ ks))) := by
  show some (Dt.bl (getK (tk ks) (.inl ((x : Nat) : Int))).isSome) = _
  rw [tk_get]
theorem dc_tk {ek ev : Rho → R Dt} {vs : List Nat} : ∀ (ns acc : List Nat), (∀ n ∈ ns, ∃ ρ1, tg (.int (n : Nat)) ρ = some ρ1 ∧ ek ρ1 = .ok (.int (n : Nat)) ρ1 ∧ ev ρ1 = .ok (.bl true) ρ1 ∧ wipeR ρ1 vs = ρ) → dcL tg yesT ek ev vs (nl ns) ρ (tk acc) = .ok (tk (mrg acc ns)) ρ
  | [], acc, _ => rfl
  | n :: ns, acc, h => by
    obtain ⟨ρ1, h1, h2, h3, h4⟩ := h n (List.mem_cons_self ..)
    rw [nl_cons]
    simp only [dcL, h1, yesT, R.bind, h2, h3, if_true, keyD, h4]
    rw [tk_put, dc_tk ns _ fun m hm => h m (List.mem_cons_of_mem _ hm)]
    rfl
theorem mem_insN {ks : List Nat} {x y : Nat} : y ∈ insN ks x ↔ y ∈ ks ∨ y = x := by
  unfold insN
  split
  · rename_i h
    constructor
    · exact fun z => .inl z
    · rintro (z | rfl)
      · exact z
      · exact h
  · rw [List.mem_append, List.mem_singleton]
theorem mem_mrg {ms : List Nat} : ∀ {ks : List Nat} {y : Nat}, y ∈ mrg ks ms ↔ y ∈ ks ∨ y ∈ ms := by
  induction ms with
  | nil => intro ks y; simp [mrg]
  | cons m ms ih =>
    intro ks y
    show y ∈ mrg (insN ks m) ms ↔ _
    rw [ih, mem_insN, List.mem_cons]
    constructor
    · rintro ((h | h) | h)
      · exact .inl h
      · exact .inr (.inl h)
      · exact .inr (.inr h)
    · rintro (h | h | h)
      · exact .inl (.inl h)
      · exact .inl (.inr h)
      · exact .inr h
theorem insN_nodup {ks : List Nat} {x : Nat} (h : ks.Nodup) : (insN ks x).Nodup := by
  unfold insN
  split
  · exact h
  · rename_i hx
    rw [List.nodup_append]
    refine ⟨h, by simp, fun a ha c hc => ?_⟩
    rw [List.mem_singleton] at hc
    subst hc
    exact fun z => hx (z ▸ ha)
theorem mrg_nodup {ms : List Nat} : ∀ {ks : List Nat}, ks.Nodup → (mrg ks ms).Nodup := by
  induction ms with
  | nil => exact fun h => h
  | cons m ms ih => exact fun h => ih (insN_nodup h)
theorem pairs_tk (ns : List Nat) : dictD (.lst (ns.map fun n => Dt.tup [.int (n : Nat), .bl true])) = some (.dct (tk (mrg [] ns))) := by
  unfold dictD
  dsimp only
  have : pairsD (ns.map fun n => Dt.tup [.int (n : Nat), .bl true]) = some (tk ns) := by
    induction ns with
    | nil => rfl
    | cons n ns ih =>
      rw [List.map_cons]
      unfold pairsD
      rw [ih]
      rfl
  rw [this, ← tk_merge]
  rfl
theorem l_min {ns : List Nat} {x : Nat} (h1 : x ∈ ns) (h2 : ∀ y ∈ ns, x ≤ y) : minD (.lst (nl ns)) = some (.int (x : Nat)) := by
  have key : ∀ (l : List Nat) (m : Nat), (x = m ∨ x ∈ l) → x ≤ m → (∀ y ∈ l, x ≤ y) → minL (m : Nat) (l.map fun n => ((n : Nat) : Int)) = (x : Nat) := by
    intro l
    induction l with
    | nil =>
      intro m h _ _
      rcases h with h | h
      · subst h; rfl
      · cases h
    | cons a l ih =>
      intro m h hm hl
      show minL (if ((a : Nat) : Int) < (m : Nat) then ((a : Nat) : Int) else (m : Nat)) (l.map _) = _
      have ha := hl a (List.mem_cons_self ..)
      have hl' := fun y hy => hl y (List.mem_cons_of_mem _ hy)
      split
      · refine ih a ?_ ha hl'
        rcases h with h | h
        · omega
        · exact List.mem_cons.mp h
      · refine ih m ?_ hm hl'
        rcases h with h | h
        · exact .inl h
        · rcases List.mem_cons.mp h with h | h
          · exact .inl (by omega)
          · exact .inr h
  cases ns with
  | nil => cases h1
  | cons n ns =>
    unfold minD
    dsimp only
    have e : nl (n :: ns) = ((n :: ns).map fun n => ((n : Nat) : Int)).map Dt.int := by unfold nl; rw [List.map_map]; rfl
    rw [e, intsOf_map]
    show some (Dt.int (minL (n : Nat) (ns.map fun n => ((n : Nat) : Int)))) = _
    rw [key ns n (List.mem_cons.mp h1) (h2 n (List.mem_cons_self ..)) fun y hy => h2 y (List.mem_cons_of_mem _ hy)]
end
end PL

set_option Elab.async false
set_option linter.all false
set_option autoImplicit false
set_option maxRecDepth 100000
set_option maxHeartbeats 4000000
/-! P4: loops met in a goal; more comprehensions -/
namespace PL
open PySem DW
open L2 (Key)
section
variable {α : Type} {tg : Dt → Rho → Option Rho} {bd k : Rho → SR} {c : Rho → R Bool} {ρ : Rho} {ns : List Nat} {F : α → Dt} {xs : List α}
theorem rt_for {X : FR} (P : Nat → Rho → Prop) (h0 : P 0 ρ) (hs : ∀ i x ρ, ns[i]? = some x → P i ρ → ∃ ρ', fb tg bd (.int (x : Nat)) ρ = .nx ρ' ∧ P (i + 1) ρ') (hk : ∀ ρ', P ns.length ρ' → RTof (k ρ') = X) : RTof (SB (forL tg bd (nl ns) ρ) k) = X := by
  obtain ⟨ρ', h1, h2⟩ := for_nl P h0 hs
  rw [h1]
  exact hk ρ' h2
theorem rm_for {X : FM} (P : Nat → Rho → Prop) (h0 : P 0 ρ) (hs : ∀ i x ρ, ns[i]? = some x → P i ρ → ∃ ρ', fb tg bd (.int (x : Nat)) ρ = .nx ρ' ∧ P (i + 1) ρ') (hk : ∀ ρ', P ns.length ρ' → RMof (k ρ') = X) : RMof (SB (forL tg bd (nl ns) ρ) k) = X := by
  obtain ⟨ρ', h1, h2⟩ := for_nl P h0 hs
  rw [h1]
  exact hk ρ' h2
theorem sb_for {X : SR} (P : Nat → Rho → Prop) (h0 : P 0 ρ) (hs : ∀ i x ρ, ns[i]? = some x → P i ρ → ∃ ρ', fb tg bd (.int (x : Nat)) ρ = .nx ρ' ∧ P (i + 1) ρ') (hk : ∀ ρ', P ns.length ρ' → k ρ' = X) : SB (forL tg bd (nl ns) ρ) k = X := by
  obtain ⟨ρ', h1, h2⟩ := for_nl P h0 hs
  rw [h1]
  exact hk ρ' h2
theorem rt_forA {X : FR} (P : Nat → Rho → Prop) (h0 : P 0 ρ) (hs : ∀ i x ρ, xs[i]? = some x → P i ρ → ∃ ρ', fb tg bd (F x) ρ = .nx ρ' ∧ P (i + 1) ρ') (hk : ∀ ρ', P xs.length ρ' → RTof (k ρ') = X) : RTof (SB (forL tg bd (xs.map F) ρ) k) = X := by
  obtain ⟨ρ', h1, h2⟩ := for_P (F := F) P h0 hs
  rw [h1]
  exact hk ρ' h2
theorem rm_forA {X : FM} (P : Nat → Rho → Prop) (h0 : P 0 ρ) (hs : ∀ i x ρ, xs[i]? = some x → P i ρ → ∃ ρ', fb tg bd (F x) ρ = .nx ρ' ∧ P (i + 1) ρ') (hk : ∀ ρ', P xs.length ρ' → RMof (k ρ') = X) : RMof (SB (forL tg bd (xs.map F) ρ) k) = X := by
  obtain ⟨ρ', h1, h2⟩ := for_P (F := F) P h0 hs
  rw [h1]
  exact hk ρ' h2
theorem sb_forA {X : SR} (P : Nat → Rho → Prop) (h0 : P 0 ρ) (hs : ∀ i x ρ, xs[i]? = some x → P i ρ → ∃ ρ', fb tg bd (F x) ρ = .nx ρ' ∧ P (i + 1) ρ') (hk : ∀ ρ', P xs.length ρ' → k ρ' = X) : SB (forL tg bd (xs.map F) ρ) k = X := by
  obtain ⟨ρ', h1, h2⟩ := for_P (F := F) P h0 hs
  rw [h1]
  exact hk ρ' h2
theorem wh_P (P : Nat → Rho → Prop) (Q : Rho → Prop) (hs : ∀ q ρ, P q ρ → (∃ ρ1, c ρ = .ok false ρ1 ∧ Q ρ1) ∨ ∃ q' ρ1 ρ2, c ρ = .ok true ρ1 ∧ bd ρ1 = .nx ρ2 ∧ P q' ρ2 ∧ q' < q) : ∀ (fuel q : Nat) (ρ : Rho), P q ρ → q < fuel → ∃ ρ', whS c bd fuel ρ = .nx ρ' ∧ Q ρ'
  | 0, q, ρ, _, h => absurd h (Nat.not_lt_zero _)
  | n + 1, q, ρ, hp, hq => by
    rcases hs q ρ hp with ⟨ρ1, h1, h2⟩ | ⟨q', ρ1, ρ2, h1, h2, h3, h4⟩
    · exact ⟨ρ1, by rw [x_wh, h1, x_wh1f], h2⟩
    · obtain ⟨ρ', h5, h6⟩ := wh_P P Q hs n q' ρ2 h3 (by omega)
      exact ⟨ρ', by rw [x_wh, h1, x_wh1t, h2, x_wh2n, h5], h6⟩
theorem rt_wh {X : FR} {fuel : Nat} (P : Nat → Rho → Prop) (Q : Rho → Prop) (q : Nat) (h0 : P q ρ) (hq : q < fuel) (hs : ∀ q ρ, P q ρ → (∃ ρ1, c ρ = .ok false ρ1 ∧ Q ρ1) ∨ ∃ q' ρ1 ρ2, c ρ = .ok true ρ1 ∧ bd ρ1 = .nx ρ2 ∧ P q' ρ2 ∧ q' < q) (hk : ∀ ρ', Q ρ' → RTof (k ρ') = X) : RTof (SB (whS c bd fuel ρ) k) = X := by
  obtain ⟨ρ', h1, h2⟩ := wh_P P Q hs fuel q ρ h0 hq
  rw [h1]
  exact hk ρ' h2
theorem rm_wh {X : FM} {fuel : Nat} (P : Nat → Rho → Prop) (Q : Rho → Prop) (q : Nat) (h0 : P q ρ) (hq : q < fuel) (hs : ∀ q ρ, P q ρ → (∃ ρ1, c ρ = .ok false ρ1 ∧ Q ρ1) ∨ ∃ q' ρ1 ρ2, c ρ = .ok true ρ1 ∧ bd ρ1 = .nx ρ2 ∧ P q' ρ2 ∧ q' < q) (hk : ∀ ρ', Q ρ' → RMof (k ρ') = X) : RMof (SB (whS c bd fuel ρ) k) = X := by
  obtain ⟨ρ', h1, h2⟩ := wh_P P Q hs fuel q ρ h0 hq
  rw [h1]
  exact hk ρ' h2
theorem sb_wh {X : SR} {fuel : Nat} (P : Nat → Rho → Prop) (Q : Rho → Prop) (q : Nat) (h0 : P q ρ) (hq : q < fuel) (hs : ∀ q ρ, P q ρ → (∃ ρ1, c ρ = .ok false ρ1 ∧ Q ρ1) ∨ ∃ q' ρ1 ρ2, c ρ = .ok true ρ1 ∧ bd ρ1 = .nx ρ2 ∧ P q' ρ2 ∧ q' < q) (hk : ∀ ρ', Q ρ' → k ρ' = X) : SB (whS c bd fuel ρ) k = X := by
  obtain ⟨ρ', h1, h2⟩ := wh_P P Q hs fuel q ρ h0 hq
  rw [h1]
  exact hk ρ' h2
end
section
variable {ρ : Rho} {tg : Dt → Rho → Option Rho} {el ek ev : Rho → R Dt} {vs : List Nat}
theorem lc_natD (F : Nat → Dt) (ns : List Nat) (h : ∀ n ∈ ns, ∃ ρ1, tg (.int (n : Nat)) ρ = some ρ1 ∧ el ρ1 = .ok (F n) ρ1 ∧ wipeR ρ1 vs = ρ) : lcL tg yesT el vs (nl ns) ρ = .ok (ns.map F) ρ := by
  rw [lc_nat (fun _ => true) F ns fun n hn => by
    obtain ⟨ρ1, h1, h2, h3⟩ := h n hn
    exact ⟨ρ1, h1, rfl, fun _ => h2, h3⟩, List.filter_eq_self.mpr fun _ _ => rfl]
theorem dc_tk0 (ns : List Nat) (h : ∀ n ∈ ns, ∃ ρ1, tg (.int (n : Nat)) ρ = some ρ1 ∧ ek ρ1 = .ok (.int (n : Nat)) ρ1 ∧ ev ρ1 = .ok (.bl true) ρ1 ∧ wipeR ρ1 vs = ρ) : dcL tg yesT ek ev vs (nl ns) ρ [] = .ok (tk (mrg [] ns)) ρ := dc_tk ns [] h
theorem take_filter_range (p : Nat → Bool) : ∀ (n i x : Nat), ((List.range n).filter p)[i]? = some x → x < n ∧ p x = true ∧ ((List.range n).filter p).take i = (List.range x).filter p
  | 0, i, x, h => by simp at h
  | n + 1, i, x, h => by
    rw [List.range_succ, List.filter_append] at h ⊢
    by_cases hi : i < ((List.range n).filter p).length
    · rw [List.getElem?_append_left hi] at h
      obtain ⟨h1, h2, h3⟩ := take_filter_range p n i x h
      refine ⟨by omega, h2, ?_⟩
      rw [List.take_append_of_le_length (by omega), h3]
    · rw [List.getElem?_append_right (by omega)] at h
      by_cases hp : p n = true
      · rw [List.filter_cons_of_pos hp, List.filter_nil] at h ⊢
        have h1 : i - ((List.range n).filter p).length = 0 := by
          have := (List.getElem?_eq_some_iff.mp h).1
          simp at this
          omega
        rw [h1] at h
        have h2 : n = x := Option.some.inj h
        subst h2
        refine ⟨by omega, hp, ?_⟩
        rw [show i = ((List.range n).filter p).length by omega, List.take_left']
        rfl
      · rw [List.filter_cons_of_neg hp] at h
        simp at h
end
section
variable {α : Type} {xs : List α} {ns : List Nat}
theorem cut_nn (xs : List α) (i j : Nat) : cutD xs (some (i : Int)) (some (j : Int)) = (xs.drop i).take (j - i) := by
  unfold cutD
  rw [HT.sIx_nat, HT.sIx_nat]
  by_cases hi : i ≤ xs.length
  · rw [Nat.min_eq_left hi]
    by_cases hj : j ≤ xs.length
    · rw [Nat.min_eq_left hj]
    · rw [Nat.min_eq_right (by omega), List.take_of_length_le (by rw [List.length_drop]; omega), List.take_of_length_le (by rw [List.length_drop]; omega)]
  · have hi' : xs.length ≤ i := by omega
    rw [Nat.min_eq_right hi', List.drop_of_length_le (Nat.le_refl _), List.drop_of_length_le hi', List.take_nil, List.take_nil]
theorem cut_n0 (xs : List α) (i : Nat) : cutD xs (some (i : Int)) none = xs.drop i := by
  unfold cutD
  rw [HT.sIx_nat, HT.sIx_none]
  by_cases hi : i ≤ xs.length
  · rw [Nat.min_eq_left hi, List.take_of_length_le (by rw [List.length_drop]; omega)]
  · rw [Nat.min_eq_right (by omega), List.drop_of_length_le (Nat.le_refl _), List.drop_of_length_le (by omega), List.take_nil]
theorem cut_0n (xs : List α) (j : Nat) : cutD xs none (some (j : Int)) = xs.take j := by
  unfold cutD
  rw [HT.sIx_nat, HT.sIx_none, List.drop_zero, Nat.sub_zero]
  by_cases hj : j ≤ xs.length
  · rw [Nat.min_eq_left hj]
  · rw [Nat.min_eq_right (by omega), List.take_of_length_le (Nat.le_refl _), List.take_of_length_le (by omega)]
theorem l_slT (ds : List Dt) (lo hi : Option Int) : slD (.tup ds) lo hi = some (.tup (cutD ds lo hi)) := rfl
theorem l_slL (ds : List Dt) (lo hi : Option Int) : slD (.lst ds) lo hi = some (.lst (cutD ds lo hi)) := rfl
theorem nl_drop (i : Nat) : (nl ns).drop i = nl (ns.drop i) := by unfold nl; rw [List.map_drop]
theorem nl_take (i : Nat) : (nl ns).take i = nl (ns.take i) := by unfold nl; rw [List.map_take]
theorem l_rng3 {c K : Nat} (hK : 0 < K) (hc : c * K < 2 ^ 29) (hc1 : 0 < c) : rngD3 [.int (0 : Nat), .int (c * K : Nat), .int (K : Nat)] = some (nl ((List.range c).map fun i => i * K)) := by
  have h0 : 0 < c * K := Nat.mul_pos hc1 hK
  have h1 : K ≤ c * K := Nat.le_mul_of_pos_left _ hc1
  unfold rngD3
  dsimp only
  rw [if_pos ⟨by omega, by omega, by omega, by omega, by omega, by omega⟩, if_pos (by omega)]
  have e : ((((c * K : Nat) : Int) - ((0 : Nat) : Int) - 1) / (K : Int) + 1).toNat = c := by
    have e1 : ((c * K : Nat) : Int) - ((0 : Nat) : Int) - 1 = ((c * K - 1 : Nat) : Int) := by omega
    rw [e1]
    show ((((c * K - 1) / K : Nat) : Int) + 1).toNat = c
    have e2 : (c * K - 1) / K = c - 1 := by
      obtain ⟨d, rfl⟩ : ∃ d, c = d + 1 := ⟨c - 1, by omega⟩
      rw [Nat.succ_mul, show d * K + K - 1 = (K - 1) + K * d by rw [Nat.mul_comm d K]; omega, Nat.add_mul_div_left _ _ hK, Nat.div_eq_of_lt (by omega)]
      omega
    rw [e2]
    omega
  rw [e]
  unfold nl
  rw [List.map_map]
  congr 1
  refine List.map_congr_left fun i _ => ?_
  show Dt.int (((0 : Nat) : Int) + (i : Int) * (K : Int)) = Dt.int ((i * K : Nat) : Int)
  congr 1
  rw [n_mul]
  omega
end
section
variable {ρ : Rho} {fa : Rho → R (List Dt)} {gd : List Dt → Option (List Dt)} {k : List Dt → Dt} {ds : List Dt}
def rgl2 (k : List Dt → Dt) (o : Option (List Dt)) (ρ : Rho) : R Dt := match o with
  | some xs => few (decide (xs.length ≤ 1000000)) (k xs) ρ
  | none => .bad
def rgl1 (gd : List Dt → Option (List Dt)) (k : List Dt → Dt) (r : R (List Dt)) : R Dt := match r with
  | .ok ds ρ => rgl2 k (gd ds) ρ
  | .ex x ρ => .ex x ρ
  | .bad => .bad
theorem x_rgl2 : rgl2 k (some ds) ρ = few (decide (ds.length ≤ 1000000)) (k ds) ρ := rfl
theorem x_rgl1 : rgl1 gd k (.ok ds ρ) = rgl2 k (gd ds) ρ := rfl
theorem x_rgList : rgList gd fa ρ = rgl1 gd Dt.lst (fa ρ) := by
  unfold rgList
  cases fa ρ with
  | ok ds ρ1 =>
    dsimp only [R.bind, rgl1]
    cases gd ds with
    | none => rfl
    | some xs => simp only [rgl2, few, decide_eq_true_eq]
  | _ => rfl
theorem x_rgTup : rgTup gd fa ρ = rgl1 gd Dt.tup (fa ρ) := by
  unfold rgTup
  cases fa ρ with
  | ok ds ρ1 =>
    dsimp only [R.bind, rgl1]
    cases gd ds with
    | none => rfl
    | some xs => simp only [rgl2, few, decide_eq_true_eq]
  | _ => rfl
end
section
variable {α : Type} {tg : Dt → Rho → Option Rho} {bd k : Rho → SR} {ρ : Rho} {F : α → Dt} {xs : List α}
theorem forL_ret {d : Dt} {ds : List Dt} {s : Sl} {ρ' : Rho} (h : fb tg bd d ρ = .rt s ρ') : forL tg bd (d :: ds) ρ = .rt s ρ' := by
  unfold fb fb1 at h
  simp only [forL]
  cases e : tg d ρ with
  | none => rw [e] at h; cases h
  | some ρ1 =>
    rw [e] at h
    dsimp only at h ⊢
    rw [h]
/-- a for that returns at the first thing that fails -/
theorem for_all (P : Rho → Prop) (p : α → Bool) (s : Sl) : ∀ (xs : List α) (ρ : Rho), (∀ x ∈ xs, ∀ ρ, P ρ → (p x = true → ∃ ρ', fb tg bd (F x) ρ = .nx ρ' ∧ P ρ') ∧ (p x = false → ∃ ρ', fb tg bd (F x) ρ = .rt s ρ')) → P ρ →
    (xs.all p = true → ∃ ρ', forL tg bd (xs.map F) ρ = .nx ρ' ∧ P ρ') ∧ (xs.all p = false → ∃ ρ', forL tg bd (xs.map F) ρ = .rt s ρ')
  | [], ρ, _, h => ⟨fun _ => ⟨ρ, rfl, h⟩, fun z => Bool.noConfusion z⟩
  | x :: xs, ρ, hs, h => by
    obtain ⟨h1, h2⟩ := hs x (List.mem_cons_self ..) ρ h
    rw [List.all_cons, List.map_cons]
    cases e : p x with
    | false =>
      rw [Bool.false_and]
      refine ⟨fun z => Bool.noConfusion z, fun _ => ?_⟩
      obtain ⟨ρ', h3⟩ := h2 e
      exact ⟨ρ', forL_ret h3⟩
    | true =>
      rw [Bool.true_and]
      obtain ⟨ρ', h3, h4⟩ := h1 e
      rw [forL_cons h3]
      exact for_all P p s xs ρ' (fun y hy => hs y (List.mem_cons_of_mem _ hy)) h4
theorem rt_all {X : FR} {s : Sl} (P : Rho → Prop) (p : α → Bool) (h0 : P ρ) (hs : ∀ x ∈ xs, ∀ ρ, P ρ → (p x = true → ∃ ρ', fb tg bd (F x) ρ = .nx ρ' ∧ P ρ') ∧ (p x = false → ∃ ρ', fb tg bd (F x) ρ = .rt s ρ')) (hk : xs.all p = true → ∀ ρ', P ρ' → RTof (k ρ') = X) (hf : xs.all p = false → X = .ok s) : RTof (SB (forL tg bd (xs.map F) ρ) k) = X := by
  obtain ⟨h1, h2⟩ := for_all (tg := tg) (bd := bd) P p s xs ρ hs h0
  cases e : xs.all p with
  | true =>
    obtain ⟨ρ', h3, h4⟩ := h1 e
    rw [h3]
    exact hk e ρ' h4
  | false =>
    obtain ⟨ρ', h3⟩ := h2 e
    rw [h3, hf e]
    rfl
/-- a dict of numbers by numbers -/
def skv (S : Nat → Nat) (xs : List Nat) : List (Key × Dt) := xs.map fun x => (.inl ((x : Nat) : Int), .int (S x : Nat))
theorem skv_len (S : Nat → Nat) (xs : List Nat) : (skv S xs).length = xs.length := List.length_map _
theorem skv_put {S : Nat → Nat} {xs : List Nat} {x : Nat} (h : x ∉ xs) : putKD (skv S xs) (.inl ((x : Nat) : Int)) (.int (S x : Nat)) = skv S (xs ++ [x]) := by
  unfold putKD
  have : ((skv S xs).any fun kv => decide (kv.1 = (.inl ((x : Nat) : Int) : Key))) = false := by
    rw [List.any_eq_false]
    intro kv hk
    obtain ⟨y, hy, rfl⟩ := List.mem_map.mp hk
    rw [decide_eq_true_eq]
    intro z
    have := Sum.inl.inj z
    exact h ((show y = x by omega) ▸ hy)
  rw [this]
  show skv S xs ++ _ = _
  unfold skv
  rw [List.map_append]
  rfl
theorem skv_get {S : Nat → Nat} : ∀ {xs : List Nat} {x : Nat}, x ∈ xs → getK (skv S xs) (.inl ((x : Nat) : Int)) = some (.int (S x : Nat))
  | [], _, h => (List.not_mem_nil h).elim
  | y :: ys, x, h => by
    unfold getK skv
    rw [List.map_cons, List.find?_cons]
    by_cases e : y = x
    · subst e
      rw [decide_eq_true rfl]
      rfl
    · have : ¬ ((.inl ((y : Nat) : Int) : Key) = .inl ((x : Nat) : Int)) := fun z => e (by have := Sum.inl.inj z; omega)
      rw [decide_eq_false this]
      rcases List.mem_cons.mp h with h | h
      · exact absurd h.symm e
      · exact skv_get h
theorem ix_skv {S : Nat → Nat} {xs : List Nat} {x : Nat} (h : x ∈ xs) : ixD (.dct (skv S xs)) (.int (x : Nat)) = some (.int (S x : Nat)) := skv_get h
end
theorem forL_nil {tg : Dt → Rho → Option Rho} {bd : Rho → SR} {ρ : Rho} : forL tg bd [] ρ = .nx ρ := rfl
section
variable {ρ : Rho} {f1 f2 : Rho → R Dt} {d e : Dt} {kvs : List (Key × Dt)} {c : Int} {i : Nat} {g : Dt → Dt → Option Dt} {ok : Dt → Bool}
def gp3 (c : Int) (o : Option Dt) (e : Dt) (ρ : Rho) : R Dt := match o with
  | some d => Rof (getOr c d e) ρ
  | none => .bad
def gp2 (c : Int) (i : Nat) (r : R Dt) : R Dt := match r with
  | .ok e ρ => gp3 c (pk i ρ) e ρ
  | .ex x ρ => .ex x ρ
  | .bad => .bad
def gp1 (c : Int) (i : Nat) (o : Option Dt) (f2 : Rho → R Dt) (ρ : Rho) : R Dt := match o with
  | some (.dct _) => gp2 c i (f2 ρ)
  | _ => .bad
theorem x_gp3 : gp3 c (some d) e ρ = Rof (getOr c d e) ρ := rfl
theorem x_gp2 : gp2 c i (.ok e ρ) = gp3 c (pk i ρ) e ρ := rfl
theorem x_gp1 : gp1 c i (some (.dct kvs)) f2 ρ = gp2 c i (f2 ρ) := rfl
theorem x_getP : getP c i f2 ρ = gp1 c i (pk i ρ) f2 ρ := by
  unfold getP
  cases pk i ρ with
  | none => rfl
  | some d =>
    cases d with
    | dct k =>
      dsimp only [gp1]
      cases f2 ρ with
      | ok e ρ2 =>
        dsimp only [R.bind, gp2]
        cases pk i ρ2 with
        | none => rfl
        | some d2 => dsimp only [gp3, Rof]; cases getOr c d2 e <;> rfl
      | _ => rfl
    | _ => rfl
def mt2 (b : Bool) (g : Dt → Dt → Option Dt) (d : Dt) (f2 : Rho → R Dt) (ρ : Rho) : R Dt := if b = true then un1 (g d) (f2 ρ) else .bad
def mt1 (g : Dt → Dt → Option Dt) (ok : Dt → Bool) (f2 : Rho → R Dt) (r : R Dt) : R Dt := match r with
  | .ok d ρ => mt2 (ok d) g d f2 ρ
  | .ex x ρ => .ex x ρ
  | .bad => .bad
theorem x_mt2 : mt2 true g d f2 ρ = un1 (g d) (f2 ρ) := rfl
theorem x_mt1 : mt1 g ok f2 (.ok d ρ) = mt2 (ok d) g d f2 ρ := rfl
theorem x_meth1 : meth1 g ok f1 f2 ρ = mt1 g ok f2 (f1 ρ) := by
  unfold meth1
  cases f1 ρ with
  | ok d ρ1 =>
    dsimp only [R.bind, mt1, mt2]
    split
    · cases f2 ρ1 with
      | ok e ρ2 => dsimp only [un1, Rof]; cases g d e <;> rfl
      | _ => rfl
    · rfl
  | _ => rfl
theorem l_isL {xs : List Dt} : isLst (.lst xs) = true := rfl
end
section
variable {tg : Dt → Rho → Option Rho} {bd k : Rho → SR} {ρ : Rho} {ns : List Nat}
theorem rm_forE (G : FM → Prop) (P : Nat → Rho → Prop) (h0 : P 0 ρ) (hs : ∀ i x ρ, ns[i]? = some x → P i ρ → ∃ ρ', fb tg bd (.int (x : Nat)) ρ = .nx ρ' ∧ P (i + 1) ρ') (hk : ∀ ρ', P ns.length ρ' → G (RMof (k ρ'))) : G (RMof (SB (forL tg bd (nl ns) ρ) k)) := by
  obtain ⟨ρ', h1, h2⟩ := for_nl P h0 hs
  rw [h1]
  exact hk ρ' h2
theorem sb_forE (G : SR → Prop) (P : Nat → Rho → Prop) (h0 : P 0 ρ) (hs : ∀ i x ρ, ns[i]? = some x → P i ρ → ∃ ρ', fb tg bd (.int (x : Nat)) ρ = .nx ρ' ∧ P (i + 1) ρ') (hk : ∀ ρ', P ns.length ρ' → G (k ρ')) : G (SB (forL tg bd (nl ns) ρ) k) := by
  obtain ⟨ρ', h1, h2⟩ := for_nl P h0 hs
  rw [h1]
  exact hk ρ' h2
theorem sb_whE {c : Rho → R Bool} (G : SR → Prop) {fuel : Nat} (P : Nat → Rho → Prop) (Q : Rho → Prop) (q : Nat) (h0 : P q ρ) (hq : q < fuel) (hs : ∀ q ρ, P q ρ → (∃ ρ1, c ρ = .ok false ρ1 ∧ Q ρ1) ∨ ∃ q' ρ1 ρ2, c ρ = .ok true ρ1 ∧ bd ρ1 = .nx ρ2 ∧ P q' ρ2 ∧ q' < q) (hk : ∀ ρ', Q ρ' → G (k ρ')) : G (SB (whS c bd fuel ρ) k) := by
  obtain ⟨ρ', h1, h2⟩ := wh_P P Q hs fuel q ρ h0 hq
  rw [h1]
  exact hk ρ' h2
end
end PL

set_option Elab.async false
set_option linter.all false
set_option maxRecDepth 100000
set_option maxHeartbeats 4000000
/-! P5: reckoning with errors -/
namespace PL
open PySem DW
open L2 (Key)
section
variable {α β : Type} {ρ : Rho} {d : Dt} {ds : List Dt} {sl : Sl} {e : Xc} {f1 f2 : Rho → R Dt} {fa : Rho → R (List Dt)} {fb k s t : Rho → SR} {i : Nat} {mt : Str → Option Bool} {su : Xc → Option Dt} {c f : Str}
def XRof (r : FR) (ρ : Rho) : R Dt := match r with
  | .ok (.fr d) => .ok d ρ
  | .ex e => .ex e ρ
  | _ => .bad
theorem x_XRo : XRof (.ok (.fr d)) ρ = .ok d ρ := rfl
theorem x_XRe : XRof (.ex e) ρ = .ex e ρ := rfl
def calX (fn : Fn) (r : R (List Dt)) : R Dt := match r with
  | .ok ds ρ => XRof (fn ds) ρ
  | .ex x ρ => .ex x ρ
  | .bad => .bad
theorem x_calX {fn : Fn} : calX fn (.ok ds ρ) = XRof (fn ds) ρ := rfl
theorem x_calXe {fn : Fn} : calX fn (.ex e ρ) = .ex e ρ := rfl
theorem x_callX {fn : Fn} : callX fn fa ρ = calX fn (fa ρ) := by
  unfold callX
  cases fa ρ with
  | ok ds ρ1 =>
    dsimp only [R.bind, calX]
    cases fn ds with
    | ok s => cases s <;> rfl
    | _ => rfl
  | _ => rfl
def rai1 (c f : Str) (r : R Dt) : SR := match r with
  | .ok d ρ => .ex ⟨c, f, d⟩ ρ
  | .ex x ρ => .ex x ρ
  | .bad => .bad
theorem x_rai1 : rai1 c f (.ok d ρ) = .ex ⟨c, f, d⟩ ρ := rfl
theorem x_rai : raiseS c f f1 ρ = rai1 c f (f1 ρ) := by unfold raiseS; cases f1 ρ <;> rfl
def try3 (b : Bool) (d : Dt) (ρ : Rho) : SR := if b = true then .rt (.fr d) ρ else .bad
theorem x_try3 : try3 true d ρ = .rt (.fr d) ρ := rfl
def try2 (i : Nat) (m : Option Bool) (o : Option Dt) (e : Xc) (ρ : Rho) : SR := match m with
  | some true => (match o with
    | some d => try3 (decide (i < ρ.length)) d ρ
    | none => .bad)
  | some false => .ex e ρ
  | none => .bad
theorem x_try2 : try2 i (some true) (some d) e ρ = try3 (decide (i < ρ.length)) d ρ := rfl
theorem x_try2f {o : Option Dt} : try2 i (some false) o e ρ = .ex e ρ := rfl
def try1 (i : Nat) (mt : Str → Option Bool) (su : Xc → Option Dt) (r : SR) : SR := match r with
  | .ex e ρ => try2 i (mt e.cls) (su e) e ρ
  | r => r
theorem x_try1 : try1 i mt su (.ex e ρ) = try2 i (mt e.cls) (su e) e ρ := rfl
theorem x_try1r : try1 i mt su (.rt sl ρ) = .rt sl ρ := rfl
theorem x_try1n : try1 i mt su (.nx ρ) = .nx ρ := rfl
theorem x_tryR : tryR i fb mt su ρ = try1 i mt su (fb ρ) := by
  unfold tryR
  cases fb ρ with
  | ex e ρ1 =>
    show _ = try2 i (mt e.cls) (su e) e ρ1
    unfold try2
    dsimp only
    cases mt e.cls with
    | none => rfl
    | some b =>
      cases b with
      | false => rfl
      | true =>
        cases su e with
        | none => rfl
        | some d =>
          unfold try3
          by_cases h : i < ρ1.length
          · simp [h]
          · simp [h]
  | _ => rfl
theorem x_exu1 {g : α → Option β} : un1 g (.ex e ρ) = .ex e ρ := rfl
theorem x_exb1 {g : Dt → Dt → Option Dt} : bin1 g f2 (.ex e ρ) = .ex e ρ := rfl
theorem x_exc1 : cons1 fa (.ex e ρ) = .ex e ρ := rfl
theorem x_exc2 : cons2 d (.ex e ρ) = .ex e ρ := rfl
theorem x_exm1 {k : List Dt → α} : mk1 k (.ex e ρ) = .ex e ρ := rfl
theorem x_exSB : SB (.ex e ρ) k = .ex e ρ := rfl
theorem x_exr1 : ret1 (.ex e ρ) = .ex e ρ := rfl
theorem x_exe1 : exp1 (.ex e ρ) = .ex e ρ := rfl
theorem x_exi1 : if1 (.ex e ρ) s t = .ex e ρ := rfl
theorem x_exRT : RTof (.ex e ρ) = .ex e := rfl
end
end PL

set_option Elab.async false
set_option linter.all false
set_option autoImplicit false
set_option maxRecDepth 100000
set_option maxHeartbeats 4000000
/-! PA: reckoning with two fors -/
namespace PL
open PySem DW
open L2 (Key)
section
variable {ρ : Rho} {it it1 : Rho → R (List Dt)} {tg tg1 : Dt → Rho → Option Rho} {c c1 : Rho → R Bool} {el : Rho → R Dt} {vs vs1 : List Nat} {ds : List Dt}
def OL2of (r : R (List Dt)) : R Sl := match r with
  | .ok ds ρ => few (decide (ds.length ≤ 1000000)) (.ol ds) ρ
  | _ => .bad
theorem x_OL2 : OL2of (.ok ds ρ) = few (decide (ds.length ≤ 1000000)) (.ol ds) ρ := rfl
def l2b (b : Bool) (tg : Dt → Rho → Option Rho) (c : Rho → R Bool) (it1 : Rho → R (List Dt)) (tg1 : Dt → Rho → Option Rho) (c1 : Rho → R Bool) (el : Rho → R Dt) (vs vs1 : List Nat) (xs : List Dt) (ρ : Rho) : R Sl := if b = true then OL2of (lc2L tg c it1 tg1 c1 el vs vs1 xs (wipeR ρ vs)) else .bad
theorem x_l2b : l2b true tg c it1 tg1 c1 el vs vs1 ds ρ = OL2of (lc2L tg c it1 tg1 c1 el vs vs1 ds (wipeR ρ vs)) := rfl
def l2a (tg : Dt → Rho → Option Rho) (c : Rho → R Bool) (it1 : Rho → R (List Dt)) (tg1 : Dt → Rho → Option Rho) (c1 : Rho → R Bool) (el : Rho → R Dt) (vs vs1 : List Nat) (r : R (List Dt)) : R Sl := match r with
  | .ok xs ρ => l2b (okW vs ρ) tg c it1 tg1 c1 el vs vs1 xs ρ
  | .ex x ρ => .ex x ρ
  | .bad => .bad
theorem x_l2a : l2a tg c it1 tg1 c1 el vs vs1 (.ok ds ρ) = l2b (okW vs ρ) tg c it1 tg1 c1 el vs vs1 ds ρ := rfl
theorem x_lc2O : lc2O it tg c it1 tg1 c1 el vs vs1 ρ = l2a tg c it1 tg1 c1 el vs vs1 (it ρ) := by
  unfold lc2O
  cases it ρ with
  | ok xs ρ1 =>
    dsimp only [R.bind, l2a]
    unfold l2b OL2of
    by_cases h : okW vs ρ1 = true
    · rw [if_pos h, if_pos h]
      cases lc2L tg c it1 tg1 c1 el vs vs1 xs (wipeR ρ1 vs) with
      | ok ds ρ2 =>
        dsimp only
        unfold few
        by_cases hl : ds.length ≤ 1000000
        · rw [if_pos hl, if_pos (decide_eq_true hl)]
        · rw [if_neg hl, if_neg (by rw [decide_eq_false hl]; exact Bool.false_ne_true)]
      | ex _ _ => rfl
      | bad => rfl
    · rw [if_neg h, if_neg h]
  | ex x ρ1 => rfl
  | bad => rfl
theorem lc2_nat {ys : List Nat} (G : Nat → Nat → Nat) : ∀ (xs : List Nat), (∀ x ∈ xs, ∃ ρ1 ρ2, tg (.int (x : Nat)) ρ = some ρ1 ∧ c ρ1 = .ok true ρ1 ∧ it1 ρ1 = .ok (nl ys) ρ1 ∧ lcL tg1 c1 el vs1 (nl ys) (wipeR ρ1 vs1) = .ok (nl (ys.map (G x))) ρ2 ∧ wipeR ρ2 vs = ρ) →
    lc2L tg c it1 tg1 c1 el vs vs1 (nl xs) ρ = .ok (nl (xs.flatMap fun x => ys.map (G x))) ρ
  | [], _ => rfl
  | x :: xs, h => by
    obtain ⟨ρ1, ρ2, h1, h2, h3, h4, h5⟩ := h x (List.mem_cons_self ..)
    have ih := lc2_nat G xs fun y hy => h y (List.mem_cons_of_mem _ hy)
    rw [nl_cons]
    unfold lc2L
    rw [h1]
    dsimp only
    rw [h2]
    dsimp only [R.bind]
    rw [if_pos rfl, h3]
    dsimp only [R.bind]
    rw [h4]
    dsimp only [R.bind]
    rw [h5, ih]
    dsimp only [R.bind]
    rw [List.flatMap_cons, nl_app]
end
end PL

set_option Elab.async false
set_option linter.all false
set_option autoImplicit false
set_option maxRecDepth 100000
set_option maxHeartbeats 4000000
/-! PB: reckoning with enumerate -/
namespace PL
open PySem DW
open L2 (Key)
theorem l_enumT (xs : List Dt) : enumD [.tup xs] = some (numD xs) := rfl
theorem l_enumL (xs : List Dt) : enumD [.lst xs] = some (numD xs) := rfl
def numP (xs : List Dt) : List (Nat × Dt) := xs.mapIdx fun i d => (i, d)
abbrev numF (p : Nat × Dt) : Dt := .tup [.int (p.1 : Nat), p.2]
theorem numD_eq (xs : List Dt) : numD xs = (numP xs).map numF := by
  unfold numD numP
  refine List.ext_getElem? fun i => ?_
  rw [List.getElem?_mapIdx, List.getElem?_map, List.getElem?_mapIdx]
  cases xs[i]? <;> rfl
theorem numP_mem {xs : List Dt} {p : Nat × Dt} (h : p ∈ numP xs) : p.2 ∈ xs := by
  unfold numP at h
  obtain ⟨i, hi, e⟩ := List.mem_mapIdx.mp h
  rw [← e]
  exact List.getElem_mem _
theorem numP_len (xs : List Dt) : (numP xs).length = xs.length := by unfold numP; rw [List.length_mapIdx]
end PL

set_option Elab.async false
set_option linter.all false
set_option maxRecDepth 100000
set_option maxHeartbeats 4000000
namespace LAW
open PySem PySem.Spec PyProof.Rows L2 DW
def top (i : Nat) : Stmt := PySem.Challenge.pw_wheelnines_k49_second_half_by_names.main.body.getD i (.Pass ⟨0, 0, 0, 0⟩)
section
variable {P : Program} {w : World} {K : PySem.W.Frag} {mg : Str → Option Value} {base : Heap}
def tb_RANGES : List Row2 := [(("period" : Str), 1, 5000), (("head" : Str), 0, 20), (("wheels" : Str), 1, 5000)]
def no_RANGES : List Str := ["law_wheelnines_k49_second_half_by_names", "exponent", "never", "form", "power", "pairs", "balanced"]
/-! ### is_integer -/
abbrev st_is_integer : Stmt := top 14
def b_is_integer : Rho → SR := retS (andV (un (isiD .int) (pkF 0)) (un notD (un (isiD .bool) (pkF 0))))
def m_is_integer : Fn := runF 1 1 b_is_integer
theorem sc_is_integer : FnScope ["value"] ["value"] (defScope st_is_integer) := ⟨rfl, rfl, rfl, by decide +kernel, rfl, by decide +kernel, by decide +kernel⟩
theorem p_is_integer (D : IsDef K mg "is_integer" st_is_integer) (n_isinstance : mg "isinstance" = none) (n_bool : mg "bool" = none) (n_int : mg "int" = none) : Has P w K mg base "is_integer" ["value"] m_is_integer 1 := by
  have nd := sc_is_integer.nd
  refine has0 (N := ["value"]) (ps := ["value"]) (k := 0) (body := b_is_integer) D sc_is_integer (by decide) (fun _ _ _ _ _ _ us hl => match us, hl with | [_], _ => rfl) ?_
  intro f cdv A outer s H E hr hq hc
  exact ds_one (ds_ret (de_and (de_isi .int (by decide) rfl n_isinstance rfl n_int (by decide +kernel) (dk_var 0)) (de_one (de_not (dk_of (de_isi .bool (by decide) rfl n_isinstance rfl n_bool (by decide +kernel) (dk_var 0)))))))
/-! ### is_whole -/
abbrev st_is_whole : Stmt := top 15
def b_is_whole : Rho → SR := retS (andV (callF m_is_integer (consA (var 0) (nilA))) (chainD leD leD (var 1) (var 0) (var 2)))
def m_is_whole : Fn := runF 3 3 b_is_whole
theorem sc_is_whole : FnScope ["value", "least", "most"] ["value", "least", "most"] (defScope st_is_whole) := ⟨rfl, rfl, rfl, by decide +kernel, rfl, by decide +kernel, by decide +kernel⟩
theorem p_is_whole (D : IsDef K mg "is_whole" st_is_whole) (h_is_integer : Has P w K mg base "is_integer" ["value"] m_is_integer 1) : Has P w K mg base "is_whole" ["value", "least", "most"] m_is_whole 2 := by
  have nd := sc_is_whole.nd
  refine has0 (N := ["value", "least", "most"]) (ps := ["value", "least", "most"]) (k := 1) (body := b_is_whole) D sc_is_whole (by decide) (fun _ _ _ _ _ _ us hl => match us, hl with | [_, _, _], _ => rfl) ?_
  intro f cdv A outer s H E hr hq hc
  exact ds_one (ds_ret (de_and (de_h h_is_integer hr hq (by decide) rfl (da_cons (de_var 0) (da_nil))) (de_one (de_chain (op_le) (opd_cmp _ _) (op_le) (opd_cmp _ _) (de_var 1) (de_var 0) (de_var 2)))))
/-! ### need_base -/
abbrev st_need_base : Stmt := top 16
def b_need_base : Rho → SR := seqS (ifS (notT (truF (callF m_is_whole (consA (var 0) (consA (cst (.int (2 : Nat))) (consA (cst (.int (1000 : Nat))) (nilA))))))) (badS) (skipS)) (retS (var 0))
def m_need_base : Fn := runF 1 1 b_need_base
theorem sc_need_base : FnScope ["value"] ["value"] (defScope st_need_base) := ⟨rfl, rfl, rfl, by decide +kernel, rfl, by decide +kernel, by decide +kernel⟩
theorem p_need_base (D : IsDef K mg "need_base" st_need_base) (h_is_whole : Has P w K mg base "is_whole" ["value", "least", "most"] m_is_whole 2) (g_MOST_BASE : ∃ t, mg "MOST_BASE" = some (.int 1000 t)) : Has P w K mg base "need_base" ["value"] m_need_base 3 := by
  obtain ⟨_, g_MOST_BASE⟩ := g_MOST_BASE
  have nd := sc_need_base.nd
  refine has0 (N := ["value"]) (ps := ["value"]) (k := 2) (body := b_need_base) D sc_need_base (by decide) (fun _ _ _ _ _ _ us hl => match us, hl with | [_], _ => rfl) ?_
  intro f cdv A outer s H E hr hq hc
  exact ds_cons (ds_if (dt_not (dt_tru (dk_of (de_h h_is_whole hr hq (by decide) rfl (da_cons (de_var 0) (da_cons (de_int) (da_cons (de_gi rfl g_MOST_BASE) (da_nil)))))))) (ds_one (ds_never)) (ds_nil)) (ds_one (ds_ret (de_var 0)))
/-! ### prime_powers -/
abbrev st_prime_powers : Stmt := top 35
def b_prime_powers : Rho → SR := seqS (parP [1, 2, 3] [lstO (nilA), frO (var 0), frO (cst (.int (2 : Nat)))]) (seqS (whS (tstF (bin gtD (var 2) (cst (.int (1 : Nat))))) (seqS (ifS (tstF (bin gtD (bin mulD (var 3) (pkF 3)) (pkF 2))) (setS 3 (var 2)) (skipS)) (seqS (asgS (tgT [4, 5]) (tupD (consA (cst (.int (0 : Nat))) (consA (cst (.int (1 : Nat))) (nilA))))) (seqS (whS (tstF (bin eqD (bin modD (var 2) (pkF 3)) (cst (.int (0 : Nat))))) (seqS (setS 2 (bin fdivD (var 2) (pkF 3))) (seqS (setS 4 (bin addD (var 4) (cst (.int (1 : Nat))))) (setS 5 (bin mulD (var 5) (pkF 3))))) 1000000) (seqS (ifS (tstF (bin gtD (var 4) (cst (.int (0 : Nat))))) (appS 1 (tupD (consA (var 3) (consA (var 4) (consA (var 5) (nilA)))))) (skipS)) (setS 3 (bin addD (var 3) (cst (.int (1 : Nat))))))))) 1000000) (retS (var 1)))
def m_prime_powers : Fn := runF 1 6 b_prime_powers
theorem sc_prime_powers : FnScope ["number", "found", "left", "prime", "exponent", "part"] ["number"] (defScope st_prime_powers) := ⟨rfl, rfl, rfl, by decide +kernel, rfl, by decide +kernel, by decide +kernel⟩
theorem p_prime_powers (D : IsDef K mg "prime_powers" st_prime_powers) : Has P w K mg base "prime_powers" ["number"] m_prime_powers 1 := by
  have nd := sc_prime_powers.nd
  refine has0 (N := ["number", "found", "left", "prime", "exponent", "part"]) (ps := ["number"]) (k := 0) (body := b_prime_powers) D sc_prime_powers (by decide) (fun _ _ _ _ _ _ us hl => match us, hl with | [_], _ => rfl) ?_
  intro f cdv A outer s H E hr hq hc
  exact ds_cons (ds_par3 (i := 1) (j := 2) (l := 3) rfl nd (by decide) (by decide) (by decide) (dps_cons (do_lst (da_nil)) (dps_cons (do_fr (de_var 0)) (dps_cons (do_fr (de_int)) (dps_nil)))) (by rfl)) (ds_cons (ds_while 1000000 PassesOwn.never (dt_cmp (op_gt) (opd_cmp _ _) (nomark _) (de_var 2) (dk_of (de_int))) (ds_cons (ds_if (dt_cmp (op_gt) (opd_cmp _ _) (nomark _) (de_mul (de_var 3) (dk_var 3)) (dk_var 2)) (ds_one (ds_set 3 nd (de_var 2))) (ds_nil)) (ds_cons (ds_asg (de_tup (da_cons (de_int) (da_cons (de_int) (da_nil)))) (dg_tup rfl (dgs_cons 4 nd (dgs_cons 5 nd (dgs_nil))))) (ds_cons (ds_while 1000000 PassesOwn.never (dt_cmp (opr_eq (u64 hr)) (opd_eq _) (nomark _) (de_mod (de_var 2) (dk_var 3)) (dk_of (de_int))) (ds_cons (ds_set 2 nd (de_fdiv (de_var 2) (dk_var 3))) (ds_cons (ds_set 4 nd (de_add (de_var 4) (dk_of (de_int)))) (ds_one (ds_set 5 nd (de_mul (de_var 5) (dk_var 3))))))) (ds_cons (ds_if (dt_cmp (op_gt) (opd_cmp _ _) (nomark _) (de_var 4) (dk_of (de_int))) (ds_one (ds_app 1 (pv 1) (de_tup (da_cons (de_var 3) (da_cons (de_var 4) (da_cons (de_var 5) (da_nil))))))) (ds_nil)) (ds_one (ds_set 3 nd (de_add (de_var 3) (dk_of (de_int)))))))))) (ds_one (ds_ret (de_var 1))))
/-! ### primes_of -/
abbrev st_primes_of : Stmt := top 40
def b_primes_of : Rho → SR := retS (frzR (lcO (itF (callF m_prime_powers (consA (var 0) (nilA)))) (tgT [1, 2, 3]) (yesT) (var 1) [1, 2, 3]))
def m_primes_of : Fn := runF 1 4 b_primes_of
theorem sc_primes_of : FnScope ["number", "prime", "exponent", "part"] ["number"] (defScope st_primes_of) := ⟨rfl, rfl, rfl, by decide +kernel, rfl, by decide +kernel, by decide +kernel⟩
theorem p_primes_of (D : IsDef K mg "primes_of" st_primes_of) (h_prime_powers : Has P w K mg base "prime_powers" ["number"] m_prime_powers 1) : Has P w K mg base "primes_of" ["number"] m_primes_of 2 := by
  have nd := sc_primes_of.nd
  refine has0 (N := ["number", "prime", "exponent", "part"]) (ps := ["number"]) (k := 1) (body := b_primes_of) D sc_primes_of (by decide) (fun _ _ _ _ _ _ us hl => match us, hl with | [_], _ => rfl) ?_
  intro f cdv A outer s H E hr hq hc
  exact ds_one (ds_ret (de_do (do_lc rfl nd (own := [("prime", 1), ("exponent", 2), ("part", 3)]) (di_all (de_h h_prime_powers hr hq (by decide) rfl (da_cons (de_var 0) (da_nil)))) (blkOk_by (by kernel_rfl)) (fun _ _ _ _ _ => dg_tup rfl (dgs_cons 1 nd (dgs_cons 2 nd (dgs_cons 3 nd (dgs_nil))))) (fun _ _ _ _ _ => dts_nil) (fun _ _ _ _ _ => de_var 1) (by decide))))
/-! ### need_length -/
abbrev st_need_length : Stmt := top 37
def b_need_length : Rho → SR := seqS (ifS (notT (truF (callF m_is_whole (consA (var 0) (consA (cst (.int (1 : Nat))) (consA (cst (.int (5000 : Nat))) (nilA))))))) (badS) (skipS)) (retS (var 0))
def m_need_length : Fn := runF 1 1 b_need_length
theorem sc_need_length : FnScope ["value"] ["value"] (defScope st_need_length) := ⟨rfl, rfl, rfl, by decide +kernel, rfl, by decide +kernel, by decide +kernel⟩
theorem p_need_length (D : IsDef K mg "need_length" st_need_length) (h_is_whole : Has P w K mg base "is_whole" ["value", "least", "most"] m_is_whole 2) (g_MOST_DENOMINATOR : ∃ t, mg "MOST_DENOMINATOR" = some (.int 5000 t)) : Has P w K mg base "need_length" ["value"] m_need_length 3 := by
  obtain ⟨_, g_MOST_DENOMINATOR⟩ := g_MOST_DENOMINATOR
  have nd := sc_need_length.nd
  refine has0 (N := ["value"]) (ps := ["value"]) (k := 2) (body := b_need_length) D sc_need_length (by decide) (fun _ _ _ _ _ _ us hl => match us, hl with | [_], _ => rfl) ?_
  intro f cdv A outer s H E hr hq hc
  exact ds_cons (ds_if (dt_not (dt_tru (dk_of (de_h h_is_whole hr hq (by decide) rfl (da_cons (de_var 0) (da_cons (de_int) (da_cons (de_gi rfl g_MOST_DENOMINATOR) (da_nil)))))))) (ds_one (ds_never)) (ds_nil)) (ds_one (ds_ret (de_var 0)))
/-! ### common_divisor -/
abbrev st_common_divisor : Stmt := top 18
def b_common_divisor : Rho → SR := seqS (whS (tstF (bin gtD (var 1) (cst (.int (0 : Nat))))) (parP [0, 1] [frO (var 1), frO (bin modD (var 0) (pkF 1))]) 1000000) (retS (var 0))
def m_common_divisor : Fn := runF 2 2 b_common_divisor
theorem sc_common_divisor : FnScope ["one", "other"] ["one", "other"] (defScope st_common_divisor) := ⟨rfl, rfl, rfl, by decide +kernel, rfl, by decide +kernel, by decide +kernel⟩
theorem p_common_divisor (D : IsDef K mg "common_divisor" st_common_divisor) : Has P w K mg base "common_divisor" ["one", "other"] m_common_divisor 1 := by
  have nd := sc_common_divisor.nd
  refine has0 (N := ["one", "other"]) (ps := ["one", "other"]) (k := 0) (body := b_common_divisor) D sc_common_divisor (by decide) (fun _ _ _ _ _ _ us hl => match us, hl with | [_, _], _ => rfl) ?_
  intro f cdv A outer s H E hr hq hc
  exact ds_cons (ds_while 1000000 PassesOwn.never (dt_cmp (op_gt) (opd_cmp _ _) (nomark _) (de_var 1) (dk_of (de_int))) (ds_one (ds_par2 (i := 0) (j := 1) rfl nd (by decide) (dps_cons (do_fr (de_var 1)) (dps_cons (do_fr (de_mod (de_var 0) (dk_var 1))) (dps_nil))) (by rfl)))) (ds_one (ds_ret (de_var 0)))
/-! ### is_pure -/
abbrev st_is_pure : Stmt := top 23
def b_is_pure : Rho → SR := retS (bin eqD (callF m_common_divisor (consA (var 1) (consA (var 0) (nilA)))) (cst (.int (1 : Nat))))
def m_is_pure : Fn := runF 2 2 b_is_pure
theorem sc_is_pure : FnScope ["base", "denominator"] ["base", "denominator"] (defScope st_is_pure) := ⟨rfl, rfl, rfl, by decide +kernel, rfl, by decide +kernel, by decide +kernel⟩
theorem p_is_pure (D : IsDef K mg "is_pure" st_is_pure) (h_common_divisor : Has P w K mg base "common_divisor" ["one", "other"] m_common_divisor 1) : Has P w K mg base "is_pure" ["base", "denominator"] m_is_pure 2 := by
  have nd := sc_is_pure.nd
  refine has0 (N := ["base", "denominator"]) (ps := ["base", "denominator"]) (k := 1) (body := b_is_pure) D sc_is_pure (by decide) (fun _ _ _ _ _ _ us hl => match us, hl with | [_, _], _ => rfl) ?_
  intro f cdv A outer s H E hr hq hc
  exact ds_one (ds_ret (de_cmp (opr_eq (u64 hr)) (opd_eq _) (nomark _) (de_h h_common_divisor hr hq (by decide) rfl (da_cons (de_var 1) (da_cons (de_var 0) (da_nil)))) (dk_of (de_int))))
/-! ### power_rest -/
abbrev st_power_rest : Stmt := top 27
def b_power_rest : Rho → SR := seqS (parP [3, 4, 5] [frO (bin modD (cst (.int (1 : Nat))) (pkF 2)), frO (bin modD (var 0) (pkF 2)), frO (var 1)]) (seqS (whS (tstF (bin gtD (var 5) (cst (.int (0 : Nat))))) (seqS (ifS (tstF (bin eqD (bin modD (var 5) (cst (.int (2 : Nat)))) (cst (.int (1 : Nat))))) (setS 3 (bin modD (bin mulD (var 3) (pkF 4)) (pkF 2))) (skipS)) (seqS (setS 4 (bin modD (bin mulD (var 4) (pkF 4)) (pkF 2))) (setS 5 (bin fdivD (var 5) (cst (.int (2 : Nat))))))) 1000000) (retS (var 3)))
def m_power_rest : Fn := runF 3 6 b_power_rest
theorem sc_power_rest : FnScope ["base", "exponent", "divisor", "found", "square", "left"] ["base", "exponent", "divisor"] (defScope st_power_rest) := ⟨rfl, rfl, rfl, by decide +kernel, rfl, by decide +kernel, by decide +kernel⟩
theorem p_power_rest (D : IsDef K mg "power_rest" st_power_rest) : Has P w K mg base "power_rest" ["base", "exponent", "divisor"] m_power_rest 1 := by
  have nd := sc_power_rest.nd
  refine has0 (N := ["base", "exponent", "divisor", "found", "square", "left"]) (ps := ["base", "exponent", "divisor"]) (k := 0) (body := b_power_rest) D sc_power_rest (by decide) (fun _ _ _ _ _ _ us hl => match us, hl with | [_, _, _], _ => rfl) ?_
  intro f cdv A outer s H E hr hq hc
  exact ds_cons (ds_par3 (i := 3) (j := 4) (l := 5) rfl nd (by decide) (by decide) (by decide) (dps_cons (do_fr (de_mod (de_int) (dk_var 2))) (dps_cons (do_fr (de_mod (de_var 0) (dk_var 2))) (dps_cons (do_fr (de_var 1)) (dps_nil)))) (by rfl)) (ds_cons (ds_while 1000000 PassesOwn.never (dt_cmp (op_gt) (opd_cmp _ _) (nomark _) (de_var 5) (dk_of (de_int))) (ds_cons (ds_if (dt_cmp (opr_eq (u64 hr)) (opd_eq _) (nomark _) (de_mod (de_var 5) (dk_of (de_int))) (dk_of (de_int))) (ds_one (ds_set 3 nd (de_mod (de_mul (de_var 3) (dk_var 4)) (dk_var 2)))) (ds_nil)) (ds_cons (ds_set 4 nd (de_mod (de_mul (de_var 4) (dk_var 4)) (dk_var 2))) (ds_one (ds_set 5 nd (de_fdiv (de_var 5) (dk_of (de_int)))))))) (ds_one (ds_ret (de_var 3))))
/-! ### has_length -/
abbrev st_has_length : Stmt := top 86
def b_has_length : Rho → SR := seqS (ifS (tstF (bin neD (callF m_power_rest (consA (var 0) (consA (var 2) (consA (var 1) (nilA))))) (bin modD (cst (.int (1 : Nat))) (pkF 1)))) (retS (cst (.bl false))) (skipS)) (retS (un allD (frzR (lcO (itF (var 3)) (tgN 4) (yesT) (bin neD (callF m_power_rest (consA (var 0) (consA (bin fdivD (var 2) (pkF 4)) (consA (var 1) (nilA))))) (bin modD (cst (.int (1 : Nat))) (pkF 1))) [4]))))
def m_has_length : Fn := runF 4 5 b_has_length
theorem sc_has_length : FnScope ["base", "denominator", "length", "primes", "prime"] ["base", "denominator", "length", "primes"] (defScope st_has_length) := ⟨rfl, rfl, rfl, by decide +kernel, rfl, by decide +kernel, by decide +kernel⟩
theorem p_has_length (D : IsDef K mg "has_length" st_has_length) (h_power_rest : Has P w K mg base "power_rest" ["base", "exponent", "divisor"] m_power_rest 1) (n_all : mg "all" = none) : Has P w K mg base "has_length" ["base", "denominator", "length", "primes"] m_has_length 2 := by
  have nd := sc_has_length.nd
  refine has0 (N := ["base", "denominator", "length", "primes", "prime"]) (ps := ["base", "denominator", "length", "primes"]) (k := 1) (body := b_has_length) D sc_has_length (by decide) (fun _ _ _ _ _ _ us hl => match us, hl with | [_, _, _, _], _ => rfl) ?_
  intro f cdv A outer s H E hr hq hc
  exact ds_cons (ds_if (dt_cmp (opr_ne (u64 hr)) (opd_ne _) (nomark _) (de_h h_power_rest hr hq (by decide) rfl (da_cons (de_var 0) (da_cons (de_var 2) (da_cons (de_var 1) (da_nil))))) (dk_of (de_mod (de_int) (dk_var 1)))) (ds_one (ds_ret (de_bl))) (ds_nil)) (ds_one (ds_ret (de_all rfl rfl n_all (dk_of (de_do (do_lc rfl nd (own := [("prime", 4)]) (di_all (de_var 3)) (blkOk_by (by kernel_rfl)) (fun _ _ _ _ _ => dg_name 4 nd) (fun _ _ _ _ _ => dts_nil) (fun _ _ _ _ _ => de_cmp (opr_ne (u64 hr)) (opd_ne _) (nomark _) (de_h h_power_rest hr hq (by decide) rfl (da_cons (de_var 0) (da_cons (de_fdiv (de_var 2) (dk_var 4)) (da_cons (de_var 1) (da_nil))))) (dk_of (de_mod (de_int) (dk_var 1)))) (by decide)))))))
/-! ### need_most -/
abbrev st_need_most : Stmt := top 85
def b_need_most : Rho → SR := seqS (ifS (notT (truF (callF m_is_whole (consA (var 0) (consA (var 1) (consA (var 2) (nilA))))))) (badS) (skipS)) (retS (var 0))
def m_need_most : Fn := runF 3 3 b_need_most
theorem sc_need_most : FnScope ["value", "least", "most"] ["value", "least", "most"] (defScope st_need_most) := ⟨rfl, rfl, rfl, by decide +kernel, rfl, by decide +kernel, by decide +kernel⟩
theorem p_need_most (D : IsDef K mg "need_most" st_need_most) (h_is_whole : Has P w K mg base "is_whole" ["value", "least", "most"] m_is_whole 2) : Has P w K mg base "need_most" ["value", "least", "most"] m_need_most 3 := by
  have nd := sc_need_most.nd
  refine has0 (N := ["value", "least", "most"]) (ps := ["value", "least", "most"]) (k := 2) (body := b_need_most) D sc_need_most (by decide) (fun _ _ _ _ _ _ us hl => match us, hl with | [_, _, _], _ => rfl) ?_
  intro f cdv A outer s H E hr hq hc
  exact ds_cons (ds_if (dt_not (dt_tru (dk_of (de_h h_is_whole hr hq (by decide) rfl (da_cons (de_var 0) (da_cons (de_var 1) (da_cons (de_var 2) (da_nil)))))))) (ds_one (ds_never)) (ds_nil)) (ds_one (ds_ret (de_var 0)))
/-! ### denominators_with -/
abbrev st_denominators_with : Stmt := top 87
def b_denominators_with : Rho → SR := seqS (exprS (callF m_need_base (consA (var 0) (nilA)))) (seqS (setS 3 (callF m_primes_of (consA (callF m_need_length (consA (var 1) (nilA))) (nilA)))) (seqS (setS 4 (frzR (lcO (rngF rngD2 (consA (cst (.int (1 : Nat))) (consA (bin addD (callF m_need_most (consA (var 2) (consA (cst (.int (1 : Nat))) (consA (cst (.int (5000 : Nat))) (nilA))))) (cst (.int (1 : Nat)))) (nilA)))) (tgN 5) (truF (callF m_is_pure (consA (var 0) (consA (var 5) (nilA))))) (var 5) [5]))) (retS (un tupleD (frzR (lcO (itF (var 4)) (tgN 5) (truF (callF m_has_length (consA (var 0) (consA (var 5) (consA (var 1) (consA (var 3) (nilA))))))) (var 5) [5]))))))
def m_denominators_with : Fn := runF 3 6 b_denominators_with
theorem sc_denominators_with : FnScope ["base", "length", "most", "primes", "some", "number"] ["base", "length", "most"] (defScope st_denominators_with) := ⟨rfl, rfl, rfl, by decide +kernel, rfl, by decide +kernel, by decide +kernel⟩
theorem p_denominators_with (D : IsDef K mg "denominators_with" st_denominators_with) (h_has_length : Has P w K mg base "has_length" ["base", "denominator", "length", "primes"] m_has_length 2) (h_need_most : Has P w K mg base "need_most" ["value", "least", "most"] m_need_most 3) (h_is_pure : Has P w K mg base "is_pure" ["base", "denominator"] m_is_pure 2) (h_need_length : Has P w K mg base "need_length" ["value"] m_need_length 3) (h_primes_of : Has P w K mg base "primes_of" ["number"] m_primes_of 2) (h_need_base : Has P w K mg base "need_base" ["value"] m_need_base 3) (n_tuple : mg "tuple" = none) (n_range : mg "range" = none) (g_MOST_DENOMINATOR : ∃ t, mg "MOST_DENOMINATOR" = some (.int 5000 t)) : HasL P w K mg base "denominators_with" st_denominators_with ["base", "length", "most"] m_denominators_with 4 := by
  obtain ⟨_, g_MOST_DENOMINATOR⟩ := g_MOST_DENOMINATOR
  have nd := sc_denominators_with.nd
  refine hasL0 (N := ["base", "length", "most", "primes", "some", "number"]) (ps := ["base", "length", "most"]) (k := 3) (body := b_denominators_with) D sc_denominators_with (by decide) (fun _ _ _ _ _ _ us hl => match us, hl with | [_, _, _], _ => rfl) ?_
  intro f cdv A outer s H E hr hq hc
  exact ds_cons (ds_expr (de_h h_need_base hr hq (by decide) rfl (da_cons (de_var 0) (da_nil)))) (ds_cons (ds_set 3 nd (de_h h_primes_of hr hq (by decide) rfl (da_cons (de_h h_need_length hr hq (by decide) rfl (da_cons (de_var 1) (da_nil))) (da_nil)))) (ds_cons (ds_setLc 4 rfl nd (sw_true rfl rfl rfl (by decide +kernel)) (own := [("number", 5)]) (di_range2 rfl n_range (da_cons (de_int) (da_cons (de_add (de_h h_need_most hr hq (by decide) rfl (da_cons (de_var 2) (da_cons (de_int) (da_cons (de_gi rfl g_MOST_DENOMINATOR) (da_nil))))) (dk_of (de_int))) (da_nil)))) (blkOk_by (by kernel_rfl)) (fun _ _ _ _ _ => dg_name 5 nd) (fun _ _ _ _ _ => dts_one (dt_tru (dk_of (de_h h_is_pure hr hq (by decide) rfl (da_cons (de_var 0) (da_cons (de_var 5) (da_nil))))))) (fun _ _ _ _ _ => de_var 5) (by decide)) (ds_one (ds_ret (de_tuple rfl n_tuple (dk_of (de_do (do_lc rfl nd (own := [("number", 5)]) (di_all (de_var 4)) (blkOk_by (by kernel_rfl)) (fun _ _ _ _ _ => dg_name 5 nd) (fun _ _ _ _ _ => dts_one (dt_tru (dk_of (de_h h_has_length hr hq (by decide) rfl (da_cons (de_var 0) (da_cons (de_var 5) (da_cons (de_var 1) (da_cons (de_var 3) (da_nil))))))))) (fun _ _ _ _ _ => de_var 5) (by decide)))))))))
/-! ### power -/
abbrev st_power : Stmt := top 26
def b_power : Rho → SR := seqS (parP [2, 3, 4] [frO (cst (.int (1 : Nat))), frO (var 0), frO (var 1)]) (seqS (whS (tstF (bin gtD (var 4) (cst (.int (0 : Nat))))) (seqS (ifS (tstF (bin eqD (bin modD (var 4) (cst (.int (2 : Nat)))) (cst (.int (1 : Nat))))) (setS 2 (bin mulD (var 2) (pkF 3))) (skipS)) (seqS (setS 3 (bin mulD (var 3) (pkF 3))) (setS 4 (bin fdivD (var 4) (cst (.int (2 : Nat))))))) 1000000) (retS (var 2)))
def m_power : Fn := runF 2 5 b_power
theorem sc_power : FnScope ["base", "exponent", "found", "square", "left"] ["base", "exponent"] (defScope st_power) := ⟨rfl, rfl, rfl, by decide +kernel, rfl, by decide +kernel, by decide +kernel⟩
theorem p_power (D : IsDef K mg "power" st_power) : Has P w K mg base "power" ["base", "exponent"] m_power 1 := by
  have nd := sc_power.nd
  refine has0 (N := ["base", "exponent", "found", "square", "left"]) (ps := ["base", "exponent"]) (k := 0) (body := b_power) D sc_power (by decide) (fun _ _ _ _ _ _ us hl => match us, hl with | [_, _], _ => rfl) ?_
  intro f cdv A outer s H E hr hq hc
  exact ds_cons (ds_par3 (i := 2) (j := 3) (l := 4) rfl nd (by decide) (by decide) (by decide) (dps_cons (do_fr (de_int)) (dps_cons (do_fr (de_var 0)) (dps_cons (do_fr (de_var 1)) (dps_nil)))) (by rfl)) (ds_cons (ds_while 1000000 PassesOwn.never (dt_cmp (op_gt) (opd_cmp _ _) (nomark _) (de_var 4) (dk_of (de_int))) (ds_cons (ds_if (dt_cmp (opr_eq (u64 hr)) (opd_eq _) (nomark _) (de_mod (de_var 4) (dk_of (de_int))) (dk_of (de_int))) (ds_one (ds_set 2 nd (de_mul (de_var 2) (dk_var 3)))) (ds_nil)) (ds_cons (ds_set 3 nd (de_mul (de_var 3) (dk_var 3))) (ds_one (ds_set 4 nd (de_fdiv (de_var 4) (dk_of (de_int)))))))) (ds_one (ds_ret (de_var 2))))
/-! ### need_between -/
abbrev st_need_between : Stmt := top 64
def b_need_between : Rho → SR := seqS (ifS (notT (truF (callF m_is_whole (consA (var 0) (consA (var 1) (consA (var 2) (nilA))))))) (badS) (skipS)) (retS (var 0))
def m_need_between : Fn := runF 3 3 b_need_between
theorem sc_need_between : FnScope ["value", "least", "most"] ["value", "least", "most"] (defScope st_need_between) := ⟨rfl, rfl, rfl, by decide +kernel, rfl, by decide +kernel, by decide +kernel⟩
theorem p_need_between (D : IsDef K mg "need_between" st_need_between) (h_is_whole : Has P w K mg base "is_whole" ["value", "least", "most"] m_is_whole 2) : Has P w K mg base "need_between" ["value", "least", "most"] m_need_between 3 := by
  have nd := sc_need_between.nd
  refine has0 (N := ["value", "least", "most"]) (ps := ["value", "least", "most"]) (k := 2) (body := b_need_between) D sc_need_between (by decide) (fun _ _ _ _ _ _ us hl => match us, hl with | [_, _, _], _ => rfl) ?_
  intro f cdv A outer s H E hr hq hc
  exact ds_cons (ds_if (dt_not (dt_tru (dk_of (de_h h_is_whole hr hq (by decide) rfl (da_cons (de_var 0) (da_cons (de_var 1) (da_cons (de_var 2) (da_nil)))))))) (ds_one (ds_never)) (ds_nil)) (ds_one (ds_ret (de_var 0)))
/-! ### need_weight -/
abbrev st_need_weight : Stmt := top 65
def b_need_weight : Rho → SR := retS (callF m_need_between (consA (var 0) (consA (bin subD (cst (.int (0 : Nat))) (cst (.int (1000 : Nat)))) (consA (cst (.int (1000 : Nat))) (nilA)))))
def m_need_weight : Fn := runF 1 1 b_need_weight
theorem sc_need_weight : FnScope ["value"] ["value"] (defScope st_need_weight) := ⟨rfl, rfl, rfl, by decide +kernel, rfl, by decide +kernel, by decide +kernel⟩
theorem p_need_weight (D : IsDef K mg "need_weight" st_need_weight) (h_need_between : Has P w K mg base "need_between" ["value", "least", "most"] m_need_between 3) (g_MOST_WEIGHT : ∃ t, mg "MOST_WEIGHT" = some (.int 1000 t)) : Has P w K mg base "need_weight" ["value"] m_need_weight 4 := by
  obtain ⟨_, g_MOST_WEIGHT⟩ := g_MOST_WEIGHT
  have nd := sc_need_weight.nd
  refine has0 (N := ["value"]) (ps := ["value"]) (k := 3) (body := b_need_weight) D sc_need_weight (by decide) (fun _ _ _ _ _ _ us hl => match us, hl with | [_], _ => rfl) ?_
  intro f cdv A outer s H E hr hq hc
  exact ds_one (ds_ret (de_h h_need_between hr hq (by decide) rfl (da_cons (de_var 0) (da_cons (de_sub (de_int) (dk_of (de_gi rfl g_MOST_WEIGHT))) (da_cons (de_gi rfl g_MOST_WEIGHT) (da_nil))))))
/-! ### block_sum -/
abbrev st_block_sum : Stmt := top 66
def b_block_sum : Rho → SR := seqS (setS 4 (callF m_power (consA (callF m_need_base (consA (var 0) (nilA))) (consA (callF m_need_between (consA (var 1) (consA (cst (.int (1 : Nat))) (consA (cst (.int (400 : Nat))) (nilA))))) (nilA))))) (seqS (exprS (callF m_need_weight (consA (var 2) (nilA)))) (seqS (parP [5, 6, 7] [frO (callF m_need_between (consA (var 3) (consA (cst (.int (0 : Nat))) (consA (cst (.int (1000000000000000000000000000000000000000000000000000000000000 : Nat))) (nilA))))), frO (cst (.int (1 : Nat))), frO (cst (.int (0 : Nat)))]) (seqS (whS (tstF (bin gtD (var 5) (cst (.int (0 : Nat))))) (seqS (setS 7 (bin addD (var 7) (bin mulD (var 6) (bin modD (var 5) (pkF 4))))) (seqS (setS 5 (bin fdivD (var 5) (pkF 4))) (setS 6 (bin mulD (var 6) (pkF 2))))) 1000000) (retS (var 7)))))
def m_block_sum : Fn := runF 4 8 b_block_sum
theorem sc_block_sum : FnScope ["base", "size", "weight", "number", "step", "left", "factor", "found"] ["base", "size", "weight", "number"] (defScope st_block_sum) := ⟨rfl, rfl, rfl, by decide +kernel, rfl, by decide +kernel, by decide +kernel⟩
theorem p_block_sum (D : IsDef K mg "block_sum" st_block_sum) (h_need_between : Has P w K mg base "need_between" ["value", "least", "most"] m_need_between 3) (h_need_weight : Has P w K mg base "need_weight" ["value"] m_need_weight 4) (h_need_base : Has P w K mg base "need_base" ["value"] m_need_base 3) (h_power : Has P w K mg base "power" ["base", "exponent"] m_power 1) (g_MOST_NUMBER : ∃ t, mg "MOST_NUMBER" = some (.int 1000000000000000000000000000000000000000000000000000000000000 t)) (g_MOST_SIZE : ∃ t, mg "MOST_SIZE" = some (.int 400 t)) : HasL P w K mg base "block_sum" st_block_sum ["base", "size", "weight", "number"] m_block_sum 5 := by
  obtain ⟨_, g_MOST_NUMBER⟩ := g_MOST_NUMBER
  obtain ⟨_, g_MOST_SIZE⟩ := g_MOST_SIZE
  have nd := sc_block_sum.nd
  refine hasL0 (N := ["base", "size", "weight", "number", "step", "left", "factor", "found"]) (ps := ["base", "size", "weight", "number"]) (k := 4) (body := b_block_sum) D sc_block_sum (by decide) (fun _ _ _ _ _ _ us hl => match us, hl with | [_, _, _, _], _ => rfl) ?_
  intro f cdv A outer s H E hr hq hc
  exact ds_cons (ds_set 4 nd (de_h h_power hr hq (by decide) rfl (da_cons (de_h h_need_base hr hq (by decide) rfl (da_cons (de_var 0) (da_nil))) (da_cons (de_h h_need_between hr hq (by decide) rfl (da_cons (de_var 1) (da_cons (de_int) (da_cons (de_gi rfl g_MOST_SIZE) (da_nil))))) (da_nil))))) (ds_cons (ds_expr (de_h h_need_weight hr hq (by decide) rfl (da_cons (de_var 2) (da_nil)))) (ds_cons (ds_par3 (i := 5) (j := 6) (l := 7) rfl nd (by decide) (by decide) (by decide) (dps_cons (do_fr (de_h h_need_between hr hq (by decide) rfl (da_cons (de_var 3) (da_cons (de_int) (da_cons (de_gi rfl g_MOST_NUMBER) (da_nil)))))) (dps_cons (do_fr (de_int)) (dps_cons (do_fr (de_int)) (dps_nil)))) (by rfl)) (ds_cons (ds_while 1000000 PassesOwn.never (dt_cmp (op_gt) (opd_cmp _ _) (nomark _) (de_var 5) (dk_of (de_int))) (ds_cons (ds_set 7 nd (de_add (de_var 7) (dk_of (de_mul (de_var 6) (dk_of (de_mod (de_var 5) (dk_var 4))))))) (ds_cons (ds_set 5 nd (de_fdiv (de_var 5) (dk_var 4))) (ds_one (ds_set 6 nd (de_mul (de_var 6) (dk_var 2))))))) (ds_one (ds_ret (de_var 7))))))
/-! ### need_denominator -/
abbrev st_need_denominator : Stmt := top 17
def b_need_denominator : Rho → SR := seqS (ifS (notT (truF (callF m_is_whole (consA (var 0) (consA (cst (.int (1 : Nat))) (consA (cst (.int (5000 : Nat))) (nilA))))))) (badS) (skipS)) (retS (var 0))
def m_need_denominator : Fn := runF 1 1 b_need_denominator
theorem sc_need_denominator : FnScope ["value"] ["value"] (defScope st_need_denominator) := ⟨rfl, rfl, rfl, by decide +kernel, rfl, by decide +kernel, by decide +kernel⟩
theorem p_need_denominator (D : IsDef K mg "need_denominator" st_need_denominator) (h_is_whole : Has P w K mg base "is_whole" ["value", "least", "most"] m_is_whole 2) (g_MOST_DENOMINATOR : ∃ t, mg "MOST_DENOMINATOR" = some (.int 5000 t)) : Has P w K mg base "need_denominator" ["value"] m_need_denominator 3 := by
  obtain ⟨_, g_MOST_DENOMINATOR⟩ := g_MOST_DENOMINATOR
  have nd := sc_need_denominator.nd
  refine has0 (N := ["value"]) (ps := ["value"]) (k := 2) (body := b_need_denominator) D sc_need_denominator (by decide) (fun _ _ _ _ _ _ us hl => match us, hl with | [_], _ => rfl) ?_
  intro f cdv A outer s H E hr hq hc
  exact ds_cons (ds_if (dt_not (dt_tru (dk_of (de_h h_is_whole hr hq (by decide) rfl (da_cons (de_var 0) (da_cons (de_int) (da_cons (de_gi rfl g_MOST_DENOMINATOR) (da_nil)))))))) (ds_one (ds_never)) (ds_nil)) (ds_one (ds_ret (de_var 0)))
/-! ### head_size -/
abbrev st_head_size : Stmt := top 25
def b_head_size : Rho → SR := seqS (exprS (callF m_need_base (consA (var 0) (nilA)))) (seqS (parP [3, 4] [frO (callF m_need_denominator (consA (var 1) (nilA))), frO (cst (.int (0 : Nat)))]) (seqS (setS 2 (callF m_common_divisor (consA (var 3) (consA (var 0) (nilA))))) (seqS (whS (tstF (bin gtD (var 2) (cst (.int (1 : Nat))))) (seqS (setS 3 (bin fdivD (var 3) (pkF 2))) (seqS (setS 4 (bin addD (var 4) (cst (.int (1 : Nat))))) (setS 2 (callF m_common_divisor (consA (var 3) (consA (var 0) (nilA))))))) 1000000) (retS (var 4)))))
def m_head_size : Fn := runF 2 5 b_head_size
theorem sc_head_size : FnScope ["base", "denominator", "divisor", "left", "size"] ["base", "denominator"] (defScope st_head_size) := ⟨rfl, rfl, rfl, by decide +kernel, rfl, by decide +kernel, by decide +kernel⟩
theorem p_head_size (D : IsDef K mg "head_size" st_head_size) (h_common_divisor : Has P w K mg base "common_divisor" ["one", "other"] m_common_divisor 1) (h_need_denominator : Has P w K mg base "need_denominator" ["value"] m_need_denominator 3) (h_need_base : Has P w K mg base "need_base" ["value"] m_need_base 3) : Has P w K mg base "head_size" ["base", "denominator"] m_head_size 4 := by
  have nd := sc_head_size.nd
  refine has0 (N := ["base", "denominator", "divisor", "left", "size"]) (ps := ["base", "denominator"]) (k := 3) (body := b_head_size) D sc_head_size (by decide) (fun _ _ _ _ _ _ us hl => match us, hl with | [_, _], _ => rfl) ?_
  intro f cdv A outer s H E hr hq hc
  exact ds_cons (ds_expr (de_h h_need_base hr hq (by decide) rfl (da_cons (de_var 0) (da_nil)))) (ds_cons (ds_par2 (i := 3) (j := 4) rfl nd (by decide) (dps_cons (do_fr (de_h h_need_denominator hr hq (by decide) rfl (da_cons (de_var 1) (da_nil)))) (dps_cons (do_fr (de_int)) (dps_nil))) (by rfl)) (ds_cons (ds_set 2 nd (de_h h_common_divisor hr hq (by decide) rfl (da_cons (de_var 3) (da_cons (de_var 0) (da_nil))))) (ds_cons (ds_while 1000000 PassesOwn.never (dt_cmp (op_gt) (opd_cmp _ _) (nomark _) (de_var 2) (dk_of (de_int))) (ds_cons (ds_set 3 nd (de_fdiv (de_var 3) (dk_var 2))) (ds_cons (ds_set 4 nd (de_add (de_var 4) (dk_of (de_int)))) (ds_one (ds_set 2 nd (de_h h_common_divisor hr hq (by decide) rfl (da_cons (de_var 3) (da_cons (de_var 0) (da_nil))))))))) (ds_one (ds_ret (de_var 4))))))
/-! ### pure_part_of -/
abbrev st_pure_part_of : Stmt := top 22
def b_pure_part_of : Rho → SR := seqS (setS 2 (var 1)) (seqS (setS 3 (callF m_common_divisor (consA (var 2) (consA (var 0) (nilA))))) (seqS (whS (tstF (bin gtD (var 3) (cst (.int (1 : Nat))))) (seqS (setS 2 (bin fdivD (var 2) (pkF 3))) (setS 3 (callF m_common_divisor (consA (var 2) (consA (var 0) (nilA)))))) 1000000) (retS (var 2))))
def m_pure_part_of : Fn := runF 2 4 b_pure_part_of
theorem sc_pure_part_of : FnScope ["base", "denominator", "left", "divisor"] ["base", "denominator"] (defScope st_pure_part_of) := ⟨rfl, rfl, rfl, by decide +kernel, rfl, by decide +kernel, by decide +kernel⟩
theorem p_pure_part_of (D : IsDef K mg "pure_part_of" st_pure_part_of) (h_common_divisor : Has P w K mg base "common_divisor" ["one", "other"] m_common_divisor 1) : Has P w K mg base "pure_part_of" ["base", "denominator"] m_pure_part_of 2 := by
  have nd := sc_pure_part_of.nd
  refine has0 (N := ["base", "denominator", "left", "divisor"]) (ps := ["base", "denominator"]) (k := 1) (body := b_pure_part_of) D sc_pure_part_of (by decide) (fun _ _ _ _ _ _ us hl => match us, hl with | [_, _], _ => rfl) ?_
  intro f cdv A outer s H E hr hq hc
  exact ds_cons (ds_set 2 nd (de_var 1)) (ds_cons (ds_set 3 nd (de_h h_common_divisor hr hq (by decide) rfl (da_cons (de_var 2) (da_cons (de_var 0) (da_nil))))) (ds_cons (ds_while 1000000 PassesOwn.never (dt_cmp (op_gt) (opd_cmp _ _) (nomark _) (de_var 3) (dk_of (de_int))) (ds_cons (ds_set 2 nd (de_fdiv (de_var 2) (dk_var 3))) (ds_one (ds_set 3 nd (de_h h_common_divisor hr hq (by decide) rfl (da_cons (de_var 2) (da_cons (de_var 0) (da_nil)))))))) (ds_one (ds_ret (de_var 2)))))
/-! ### period_of -/
abbrev st_period_of : Stmt := top 24
def b_period_of : Rho → SR := seqS (parP [3, 4] [frO (callF m_pure_part_of (consA (var 0) (consA (var 1) (nilA)))), frO (cst (.int (1 : Nat)))]) (seqS (setS 2 (bin modD (var 0) (pkF 3))) (seqS (whS (tstF (bin neD (var 2) (bin modD (cst (.int (1 : Nat))) (pkF 3)))) (seqS (setS 2 (bin modD (bin mulD (var 2) (pkF 0)) (pkF 3))) (setS 4 (bin addD (var 4) (cst (.int (1 : Nat)))))) 1000000) (retS (var 4))))
def m_period_of : Fn := runF 2 5 b_period_of
theorem sc_period_of : FnScope ["base", "denominator", "rest", "pure", "size"] ["base", "denominator"] (defScope st_period_of) := ⟨rfl, rfl, rfl, by decide +kernel, rfl, by decide +kernel, by decide +kernel⟩
theorem p_period_of (D : IsDef K mg "period_of" st_period_of) (h_pure_part_of : Has P w K mg base "pure_part_of" ["base", "denominator"] m_pure_part_of 2) : Has P w K mg base "period_of" ["base", "denominator"] m_period_of 3 := by
  have nd := sc_period_of.nd
  refine has0 (N := ["base", "denominator", "rest", "pure", "size"]) (ps := ["base", "denominator"]) (k := 2) (body := b_period_of) D sc_period_of (by decide) (fun _ _ _ _ _ _ us hl => match us, hl with | [_, _], _ => rfl) ?_
  intro f cdv A outer s H E hr hq hc
  exact ds_cons (ds_par2 (i := 3) (j := 4) rfl nd (by decide) (dps_cons (do_fr (de_h h_pure_part_of hr hq (by decide) rfl (da_cons (de_var 0) (da_cons (de_var 1) (da_nil))))) (dps_cons (do_fr (de_int)) (dps_nil))) (by rfl)) (ds_cons (ds_set 2 nd (de_mod (de_var 0) (dk_var 3))) (ds_cons (ds_while 1000000 PassesOwn.never (dt_cmp (opr_ne (u64 hr)) (opd_ne _) (nomark _) (de_var 2) (dk_of (de_mod (de_int) (dk_var 3)))) (ds_cons (ds_set 2 nd (de_mod (de_mul (de_var 2) (dk_var 0)) (dk_var 3))) (ds_one (ds_set 4 nd (de_add (de_var 4) (dk_of (de_int))))))) (ds_one (ds_ret (de_var 4)))))
/-! ### remainders_of -/
abbrev st_remainders_of : Stmt := top 68
def b_remainders_of : Rho → SR := seqS (setS 2 (bin addD (callF m_head_size (consA (var 0) (consA (var 1) (nilA)))) (callF m_period_of (consA (var 0) (consA (var 1) (nilA)))))) (seqS (parP [3, 4] [lstO (nilA), frO (bin modD (cst (.int (1 : Nat))) (pkF 1))]) (seqS (whS (tstF (bin ltD (un lenD (pkF 3)) (pkF 2))) (seqS (setS 4 (bin modD (bin mulD (var 4) (pkF 0)) (pkF 1))) (appS 3 (var 4))) 1000000) (retS (var 3))))
def m_remainders_of : Fn := runF 2 5 b_remainders_of
theorem sc_remainders_of : FnScope ["base", "denominator", "count", "found", "rest"] ["base", "denominator"] (defScope st_remainders_of) := ⟨rfl, rfl, rfl, by decide +kernel, rfl, by decide +kernel, by decide +kernel⟩
theorem p_remainders_of (D : IsDef K mg "remainders_of" st_remainders_of) (h_period_of : Has P w K mg base "period_of" ["base", "denominator"] m_period_of 3) (h_head_size : Has P w K mg base "head_size" ["base", "denominator"] m_head_size 4) (n_len : mg "len" = none) : Has P w K mg base "remainders_of" ["base", "denominator"] m_remainders_of 5 := by
  have nd := sc_remainders_of.nd
  refine has0 (N := ["base", "denominator", "count", "found", "rest"]) (ps := ["base", "denominator"]) (k := 4) (body := b_remainders_of) D sc_remainders_of (by decide) (fun _ _ _ _ _ _ us hl => match us, hl with | [_, _], _ => rfl) ?_
  intro f cdv A outer s H E hr hq hc
  exact ds_cons (ds_set 2 nd (de_add (de_h h_head_size hr hq (by decide) rfl (da_cons (de_var 0) (da_cons (de_var 1) (da_nil)))) (dk_of (de_h h_period_of hr hq (by decide) rfl (da_cons (de_var 0) (da_cons (de_var 1) (da_nil))))))) (ds_cons (ds_par2 (i := 3) (j := 4) rfl nd (by decide) (dps_cons (do_lst (da_nil)) (dps_cons (do_fr (de_mod (de_int) (dk_var 1))) (dps_nil))) (by rfl)) (ds_cons (ds_while 1000000 PassesOwn.never (dt_cmp (op_lt) (opd_cmp _ _) (nomark _) (de_len rfl n_len (dk_var 3)) (dk_var 2)) (ds_cons (ds_set 4 nd (de_mod (de_mul (de_var 4) (dk_var 0)) (dk_var 1))) (ds_one (ds_app 3 (pv 3) (de_var 4))))) (ds_one (ds_ret (de_var 3)))))
/-! ### exponents_in -/
abbrev st_exponents_in : Stmt := top 69
def b_exponents_in : Rho → SR := seqS (setS 3 (callF m_remainders_of (consA (var 0) (consA (var 1) (nilA))))) (seqS (ifS (tstF (bin ninD (bin modD (var 2) (pkF 1)) (pkF 3))) (retS (cst .non)) (skipS)) (seqS (setS 4 (bin addD (meth1 idxD isLst (var 3) (bin modD (var 2) (pkF 1))) (cst (.int (1 : Nat))))) (retS (tupD (consA (var 4) (consA (ifE (tstF (bin geD (var 4) (callF m_head_size (consA (var 0) (consA (var 1) (nilA)))))) (callF m_period_of (consA (var 0) (consA (var 1) (nilA)))) (cst (.int (0 : Nat)))) (nilA)))))))
def m_exponents_in : Fn := runF 3 5 b_exponents_in
theorem sc_exponents_in : FnScope ["base", "denominator", "weight", "some", "first"] ["base", "denominator", "weight"] (defScope st_exponents_in) := ⟨rfl, rfl, rfl, by decide +kernel, rfl, by decide +kernel, by decide +kernel⟩
theorem p_exponents_in (D : IsDef K mg "exponents_in" st_exponents_in) (h_head_size : Has P w K mg base "head_size" ["base", "denominator"] m_head_size 4) (h_period_of : Has P w K mg base "period_of" ["base", "denominator"] m_period_of 3) (h_remainders_of : Has P w K mg base "remainders_of" ["base", "denominator"] m_remainders_of 5) : Has P w K mg base "exponents_in" ["base", "denominator", "weight"] m_exponents_in 6 := by
  have nd := sc_exponents_in.nd
  refine has0 (N := ["base", "denominator", "weight", "some", "first"]) (ps := ["base", "denominator", "weight"]) (k := 5) (body := b_exponents_in) D sc_exponents_in (by decide) (fun _ _ _ _ _ _ us hl => match us, hl with | [_, _, _], _ => rfl) ?_
  intro f cdv A outer s H E hr hq hc
  exact ds_cons (ds_set 3 nd (de_h h_remainders_of hr hq (by decide) rfl (da_cons (de_var 0) (da_cons (de_var 1) (da_nil))))) (ds_cons (ds_if (dt_cmp (opr_nin (u1 hr)) (opd_nin _) (by rfl) (de_mod (de_var 2) (dk_var 1)) (dk_var 3)) (ds_one (ds_ret (de_non))) (ds_nil)) (ds_cons (ds_set 4 nd (de_add (de_index (de_var 3) (de_mod (de_var 2) (dk_var 1))) (dk_of (de_int)))) (ds_one (ds_ret (de_tup (da_cons (de_var 4) (da_cons (de_if (dt_cmp (op_ge) (opd_cmp _ _) (nomark _) (de_var 4) (dk_of (de_h h_head_size hr hq (by decide) rfl (da_cons (de_var 0) (da_cons (de_var 1) (da_nil)))))) (de_h h_period_of hr hq (by decide) rfl (da_cons (de_var 0) (da_cons (de_var 1) (da_nil)))) (de_int)) (da_nil))))))))
/-! ### exponents -/
abbrev st_exponents : Stmt := top 70
def b_exponents : Rho → SR := seqS (exprS (callF m_need_base (consA (var 0) (nilA)))) (seqS (exprS (callF m_need_denominator (consA (var 1) (nilA)))) (retS (callF m_exponents_in (consA (var 0) (consA (var 1) (consA (callF m_need_weight (consA (var 2) (nilA))) (nilA)))))))
def m_exponents : Fn := runF 3 3 b_exponents
theorem sc_exponents : FnScope ["base", "denominator", "weight"] ["base", "denominator", "weight"] (defScope st_exponents) := ⟨rfl, rfl, rfl, by decide +kernel, rfl, by decide +kernel, by decide +kernel⟩
theorem p_exponents (D : IsDef K mg "exponents" st_exponents) (h_need_weight : Has P w K mg base "need_weight" ["value"] m_need_weight 4) (h_exponents_in : Has P w K mg base "exponents_in" ["base", "denominator", "weight"] m_exponents_in 6) (h_need_denominator : Has P w K mg base "need_denominator" ["value"] m_need_denominator 3) (h_need_base : Has P w K mg base "need_base" ["value"] m_need_base 3) : HasL P w K mg base "exponents" st_exponents ["base", "denominator", "weight"] m_exponents 7 := by
  have nd := sc_exponents.nd
  refine hasL0 (N := ["base", "denominator", "weight"]) (ps := ["base", "denominator", "weight"]) (k := 6) (body := b_exponents) D sc_exponents (by decide) (fun _ _ _ _ _ _ us hl => match us, hl with | [_, _, _], _ => rfl) ?_
  intro f cdv A outer s H E hr hq hc
  exact ds_cons (ds_expr (de_h h_need_base hr hq (by decide) rfl (da_cons (de_var 0) (da_nil)))) (ds_cons (ds_expr (de_h h_need_denominator hr hq (by decide) rfl (da_cons (de_var 1) (da_nil)))) (ds_one (ds_ret (de_h h_exponents_in hr hq (by decide) rfl (da_cons (de_var 0) (da_cons (de_var 1) (da_cons (de_h h_need_weight hr hq (by decide) rfl (da_cons (de_var 2) (da_nil))) (da_nil))))))))
/-! ### keeps_remainders -/
abbrev st_keeps_remainders : Stmt := top 67
def b_keeps_remainders : Rho → SR := seqS (exprS (callF m_need_base (consA (var 0) (nilA)))) (seqS (exprS (callF m_need_denominator (consA (var 1) (nilA)))) (seqS (exprS (callF m_need_between (consA (var 2) (consA (cst (.int (1 : Nat))) (consA (cst (.int (400 : Nat))) (nilA)))))) (retS (bin eqD (bin modD (bin subD (callF m_power_rest (consA (var 0) (consA (var 2) (consA (var 1) (nilA))))) (callF m_need_weight (consA (var 3) (nilA)))) (pkF 1)) (cst (.int (0 : Nat)))))))
def m_keeps_remainders : Fn := runF 4 4 b_keeps_remainders
theorem sc_keeps_remainders : FnScope ["base", "denominator", "size", "weight"] ["base", "denominator", "size", "weight"] (defScope st_keeps_remainders) := ⟨rfl, rfl, rfl, by decide +kernel, rfl, by decide +kernel, by decide +kernel⟩
theorem p_keeps_remainders (D : IsDef K mg "keeps_remainders" st_keeps_remainders) (h_need_weight : Has P w K mg base "need_weight" ["value"] m_need_weight 4) (h_power_rest : Has P w K mg base "power_rest" ["base", "exponent", "divisor"] m_power_rest 1) (h_need_between : Has P w K mg base "need_between" ["value", "least", "most"] m_need_between 3) (h_need_denominator : Has P w K mg base "need_denominator" ["value"] m_need_denominator 3) (h_need_base : Has P w K mg base "need_base" ["value"] m_need_base 3) (g_MOST_SIZE : ∃ t, mg "MOST_SIZE" = some (.int 400 t)) : HasL P w K mg base "keeps_remainders" st_keeps_remainders ["base", "denominator", "size", "weight"] m_keeps_remainders 5 := by
  obtain ⟨_, g_MOST_SIZE⟩ := g_MOST_SIZE
  have nd := sc_keeps_remainders.nd
  refine hasL0 (N := ["base", "denominator", "size", "weight"]) (ps := ["base", "denominator", "size", "weight"]) (k := 4) (body := b_keeps_remainders) D sc_keeps_remainders (by decide) (fun _ _ _ _ _ _ us hl => match us, hl with | [_, _, _, _], _ => rfl) ?_
  intro f cdv A outer s H E hr hq hc
  exact ds_cons (ds_expr (de_h h_need_base hr hq (by decide) rfl (da_cons (de_var 0) (da_nil)))) (ds_cons (ds_expr (de_h h_need_denominator hr hq (by decide) rfl (da_cons (de_var 1) (da_nil)))) (ds_cons (ds_expr (de_h h_need_between hr hq (by decide) rfl (da_cons (de_var 2) (da_cons (de_int) (da_cons (de_gi rfl g_MOST_SIZE) (da_nil)))))) (ds_one (ds_ret (de_cmp (opr_eq (u64 hr)) (opd_eq _) (nomark _) (de_mod (de_sub (de_h h_power_rest hr hq (by decide) rfl (da_cons (de_var 0) (da_cons (de_var 2) (da_cons (de_var 1) (da_nil))))) (dk_of (de_h h_need_weight hr hq (by decide) rfl (da_cons (de_var 3) (da_nil))))) (dk_var 1)) (dk_of (de_int)))))))
/-! ### common_multiple -/
abbrev st_common_multiple : Stmt := top 38
def b_common_multiple : Rho → SR := retS (bin mulD (bin fdivD (var 0) (callF m_common_divisor (consA (var 0) (consA (var 1) (nilA))))) (pkF 1))
def m_common_multiple : Fn := runF 2 2 b_common_multiple
theorem sc_common_multiple : FnScope ["one", "other"] ["one", "other"] (defScope st_common_multiple) := ⟨rfl, rfl, rfl, by decide +kernel, rfl, by decide +kernel, by decide +kernel⟩
theorem p_common_multiple (D : IsDef K mg "common_multiple" st_common_multiple) (h_common_divisor : Has P w K mg base "common_divisor" ["one", "other"] m_common_divisor 1) : Has P w K mg base "common_multiple" ["one", "other"] m_common_multiple 2 := by
  have nd := sc_common_multiple.nd
  refine has0 (N := ["one", "other"]) (ps := ["one", "other"]) (k := 1) (body := b_common_multiple) D sc_common_multiple (by decide) (fun _ _ _ _ _ _ us hl => match us, hl with | [_, _], _ => rfl) ?_
  intro f cdv A outer s H E hr hq hc
  exact ds_one (ds_ret (de_mul (de_fdiv (de_var 0) (dk_of (de_h h_common_divisor hr hq (by decide) rfl (da_cons (de_var 0) (da_cons (de_var 1) (da_nil)))))) (dk_var 1)))
/-! ### greatest_of -/
abbrev st_greatest_of : Stmt := top 39
def b_greatest_of : Rho → SR := seqS (setS 1 (cst (.int (1 : Nat)))) (seqS (forS (itF (callF m_prime_powers (consA (var 0) (nilA)))) (tgT [2, 3, 4]) (seqS (setS 5 (bin mulD (bin fdivD (var 4) (pkF 2)) (bin subD (var 2) (cst (.int (1 : Nat)))))) (setS 1 (callF m_common_multiple (consA (var 1) (consA (ifE (andT (tstF (bin eqD (var 2) (cst (.int (2 : Nat))))) (tstF (bin gtD (var 3) (cst (.int (2 : Nat)))))) (bin fdivD (var 5) (cst (.int (2 : Nat)))) (var 5)) (nilA))))))) (retS (var 1)))
def m_greatest_of : Fn := runF 1 6 b_greatest_of
theorem sc_greatest_of : FnScope ["denominator", "found", "prime", "exponent", "part", "own"] ["denominator"] (defScope st_greatest_of) := ⟨rfl, rfl, rfl, by decide +kernel, rfl, by decide +kernel, by decide +kernel⟩
theorem p_greatest_of (D : IsDef K mg "greatest_of" st_greatest_of) (h_prime_powers : Has P w K mg base "prime_powers" ["number"] m_prime_powers 1) (h_common_multiple : Has P w K mg base "common_multiple" ["one", "other"] m_common_multiple 2) : Has P w K mg base "greatest_of" ["denominator"] m_greatest_of 3 := by
  have nd := sc_greatest_of.nd
  refine has0 (N := ["denominator", "found", "prime", "exponent", "part", "own"]) (ps := ["denominator"]) (k := 2) (body := b_greatest_of) D sc_greatest_of (by decide) (fun _ _ _ _ _ _ us hl => match us, hl with | [_], _ => rfl) ?_
  intro f cdv A outer s H E hr hq hc
  exact ds_cons (ds_set 1 nd (de_int)) (ds_cons (ds_for PassesOwn.never rfl (di_all (de_h h_prime_powers hr hq (by decide) rfl (da_cons (de_var 0) (da_nil)))) (dg_tup rfl (dgs_cons 2 nd (dgs_cons 3 nd (dgs_cons 4 nd (dgs_nil))))) (ds_cons (ds_set 5 nd (de_mul (de_fdiv (de_var 4) (dk_var 2)) (dk_of (de_sub (de_var 2) (dk_of (de_int)))))) (ds_one (ds_set 1 nd (de_h h_common_multiple hr hq (by decide) rfl (da_cons (de_var 1) (da_cons (de_if (dt_w (dw_and (dt_cmp (opr_eq (u64 hr)) (opd_eq _) (nomark _) (de_var 2) (dk_of (de_int))) (dw_and1 (dt_cmp (op_gt) (opd_cmp _ _) (nomark _) (de_var 3) (dk_of (de_int)))))) (de_fdiv (de_var 5) (dk_of (de_int))) (de_var 5)) (da_nil)))))))) (ds_one (ds_ret (de_var 1))))
/-! ### length_of -/
abbrev st_length_of : Stmt := top 41
def b_length_of : Rho → SR := seqS (setS 4 (var 2)) (seqS (forS (itF (var 3)) (tgN 5) (whS (andT (tstF (bin eqD (bin modD (var 4) (pkF 5)) (cst (.int (0 : Nat))))) (tstF (bin eqD (callF m_power_rest (consA (var 0) (consA (bin fdivD (var 4) (pkF 5)) (consA (var 1) (nilA))))) (bin modD (cst (.int (1 : Nat))) (pkF 1))))) (setS 4 (bin fdivD (var 4) (pkF 5))) 1000000)) (retS (var 4)))
def m_length_of : Fn := runF 4 6 b_length_of
theorem sc_length_of : FnScope ["residue", "denominator", "greatest", "primes", "found", "prime"] ["residue", "denominator", "greatest", "primes"] (defScope st_length_of) := ⟨rfl, rfl, rfl, by decide +kernel, rfl, by decide +kernel, by decide +kernel⟩
theorem p_length_of (D : IsDef K mg "length_of" st_length_of) (h_power_rest : Has P w K mg base "power_rest" ["base", "exponent", "divisor"] m_power_rest 1) : Has P w K mg base "length_of" ["residue", "denominator", "greatest", "primes"] m_length_of 2 := by
  have nd := sc_length_of.nd
  refine has0 (N := ["residue", "denominator", "greatest", "primes", "found", "prime"]) (ps := ["residue", "denominator", "greatest", "primes"]) (k := 1) (body := b_length_of) D sc_length_of (by decide) (fun _ _ _ _ _ _ us hl => match us, hl with | [_, _, _, _], _ => rfl) ?_
  intro f cdv A outer s H E hr hq hc
  exact ds_cons (ds_set 4 nd (de_var 2)) (ds_cons (ds_for PassesOwn.never rfl (di_all (de_var 3)) (dg_name 5 nd) (ds_one (ds_while 1000000 PassesOwn.never (dt_w (dw_and (dt_cmp (opr_eq (u64 hr)) (opd_eq _) (nomark _) (de_mod (de_var 4) (dk_var 5)) (dk_of (de_int))) (dw_and1 (dt_cmp (opr_eq (u64 hr)) (opd_eq _) (nomark _) (de_h h_power_rest hr hq (by decide) rfl (da_cons (de_var 0) (da_cons (de_fdiv (de_var 4) (dk_var 5)) (da_cons (de_var 1) (da_nil))))) (dk_of (de_mod (de_int) (dk_var 1))))))) (ds_one (ds_set 4 nd (de_fdiv (de_var 4) (dk_var 5))))))) (ds_one (ds_ret (de_var 4))))
/-! ### lengths_of -/
abbrev st_lengths_of : Stmt := top 42
def b_lengths_of : Rho → SR := seqS (setS 1 (callF m_greatest_of (consA (var 0) (nilA)))) (seqS (setS 2 (callF m_primes_of (consA (var 1) (nilA)))) (seqS (setS 3 (frzR (lcO (rngF rngD1 (consA (var 0) (nilA))) (tgN 4) (tstF (bin eqD (callF m_common_divisor (consA (var 4) (consA (var 0) (nilA)))) (cst (.int (1 : Nat))))) (var 4) [4]))) (retS (frzR (lcO (itF (var 3)) (tgN 4) (yesT) (tupD (consA (var 4) (consA (callF m_length_of (consA (var 4) (consA (var 0) (consA (var 1) (consA (var 2) (nilA)))))) (nilA)))) [4])))))
def m_lengths_of : Fn := runF 1 5 b_lengths_of
theorem sc_lengths_of : FnScope ["denominator", "greatest", "primes", "some", "residue"] ["denominator"] (defScope st_lengths_of) := ⟨rfl, rfl, rfl, by decide +kernel, rfl, by decide +kernel, by decide +kernel⟩
theorem p_lengths_of (D : IsDef K mg "lengths_of" st_lengths_of) (h_length_of : Has P w K mg base "length_of" ["residue", "denominator", "greatest", "primes"] m_length_of 2) (h_common_divisor : Has P w K mg base "common_divisor" ["one", "other"] m_common_divisor 1) (h_primes_of : Has P w K mg base "primes_of" ["number"] m_primes_of 2) (h_greatest_of : Has P w K mg base "greatest_of" ["denominator"] m_greatest_of 3) (n_range : mg "range" = none) : Has P w K mg base "lengths_of" ["denominator"] m_lengths_of 4 := by
  have nd := sc_lengths_of.nd
  refine has0 (N := ["denominator", "greatest", "primes", "some", "residue"]) (ps := ["denominator"]) (k := 3) (body := b_lengths_of) D sc_lengths_of (by decide) (fun _ _ _ _ _ _ us hl => match us, hl with | [_], _ => rfl) ?_
  intro f cdv A outer s H E hr hq hc
  exact ds_cons (ds_set 1 nd (de_h h_greatest_of hr hq (by decide) rfl (da_cons (de_var 0) (da_nil)))) (ds_cons (ds_set 2 nd (de_h h_primes_of hr hq (by decide) rfl (da_cons (de_var 1) (da_nil)))) (ds_cons (ds_setLc 3 rfl nd (sw_true rfl rfl rfl (by decide +kernel)) (own := [("residue", 4)]) (di_range1 rfl n_range (da_cons (de_var 0) (da_nil))) (blkOk_by (by kernel_rfl)) (fun _ _ _ _ _ => dg_name 4 nd) (fun _ _ _ _ _ => dts_one (dt_cmp (opr_eq (u64 hr)) (opd_eq _) (nomark _) (de_h h_common_divisor hr hq (by decide) rfl (da_cons (de_var 4) (da_cons (de_var 0) (da_nil)))) (dk_of (de_int)))) (fun _ _ _ _ _ => de_var 4) (by decide)) (ds_one (ds_ret (de_do (do_lc rfl nd (own := [("residue", 4)]) (di_all (de_var 3)) (blkOk_by (by kernel_rfl)) (fun _ _ _ _ _ => dg_name 4 nd) (fun _ _ _ _ _ => dts_nil) (fun _ _ _ _ _ => de_tup (da_cons (de_var 4) (da_cons (de_h h_length_of hr hq (by decide) rfl (da_cons (de_var 4) (da_cons (de_var 0) (da_cons (de_var 1) (da_cons (de_var 2) (da_nil)))))) (da_nil)))) (by decide)))))))
/-! ### residues_with -/
abbrev st_residues_with : Stmt := top 43
def b_residues_with : Rho → SR := seqS (exprS (callF m_need_denominator (consA (var 0) (nilA)))) (seqS (exprS (callF m_need_length (consA (var 1) (nilA)))) (retS (un tupleD (frzR (lcO (itF (callF m_lengths_of (consA (var 0) (nilA)))) (tgT [2, 3]) (tstF (bin eqD (var 3) (pkF 1))) (var 2) [2, 3])))))
def m_residues_with : Fn := runF 2 4 b_residues_with
theorem sc_residues_with : FnScope ["denominator", "length", "residue", "own"] ["denominator", "length"] (defScope st_residues_with) := ⟨rfl, rfl, rfl, by decide +kernel, rfl, by decide +kernel, by decide +kernel⟩
theorem p_residues_with (D : IsDef K mg "residues_with" st_residues_with) (h_lengths_of : Has P w K mg base "lengths_of" ["denominator"] m_lengths_of 4) (h_need_length : Has P w K mg base "need_length" ["value"] m_need_length 3) (h_need_denominator : Has P w K mg base "need_denominator" ["value"] m_need_denominator 3) (n_tuple : mg "tuple" = none) : HasL P w K mg base "residues_with" st_residues_with ["denominator", "length"] m_residues_with 5 := by
  have nd := sc_residues_with.nd
  refine hasL0 (N := ["denominator", "length", "residue", "own"]) (ps := ["denominator", "length"]) (k := 4) (body := b_residues_with) D sc_residues_with (by decide) (fun _ _ _ _ _ _ us hl => match us, hl with | [_, _], _ => rfl) ?_
  intro f cdv A outer s H E hr hq hc
  exact ds_cons (ds_expr (de_h h_need_denominator hr hq (by decide) rfl (da_cons (de_var 0) (da_nil)))) (ds_cons (ds_expr (de_h h_need_length hr hq (by decide) rfl (da_cons (de_var 1) (da_nil)))) (ds_one (ds_ret (de_tuple rfl n_tuple (dk_of (de_do (do_lc rfl nd (own := [("residue", 2), ("own", 3)]) (di_all (de_h h_lengths_of hr hq (by decide) rfl (da_cons (de_var 0) (da_nil)))) (blkOk_by (by kernel_rfl)) (fun _ _ _ _ _ => dg_tup rfl (dgs_cons 2 nd (dgs_cons 3 nd (dgs_nil)))) (fun _ _ _ _ _ => dts_one (dt_cmp (opr_eq (u64 hr)) (opd_eq _) (nomark _) (de_var 3) (dk_var 1))) (fun _ _ _ _ _ => de_var 2) (by decide))))))))
/-! ### bases_with -/
abbrev st_bases_with : Stmt := top 46
def b_bases_with : Rho → SR := seqS (setS 2 (frzR (dcO (itF (callF m_residues_with (consA (var 0) (consA (var 1) (nilA))))) (tgN 3) (yesT) (var 3) (cst (.bl true)) [3]))) (retS (un tupleD (frzR (lcO (rngF rngD2 (consA (cst (.int (2 : Nat))) (consA (bin addD (cst (.int (1000 : Nat))) (cst (.int (1 : Nat)))) (nilA)))) (tgN 4) (tstF (bin inD (bin modD (var 4) (pkF 0)) (pkF 2))) (var 4) [4]))))
def m_bases_with : Fn := runF 2 5 b_bases_with
theorem sc_bases_with : FnScope ["denominator", "length", "known", "residue", "base"] ["denominator", "length"] (defScope st_bases_with) := ⟨rfl, rfl, rfl, by decide +kernel, rfl, by decide +kernel, by decide +kernel⟩
theorem p_bases_with (D : IsDef K mg "bases_with" st_bases_with) (h_residues_with : Has P w K mg base "residues_with" ["denominator", "length"] m_residues_with 5) (n_range : mg "range" = none) (n_tuple : mg "tuple" = none) (g_MOST_BASE : ∃ t, mg "MOST_BASE" = some (.int 1000 t)) : HasL P w K mg base "bases_with" st_bases_with ["denominator", "length"] m_bases_with 6 := by
  obtain ⟨_, g_MOST_BASE⟩ := g_MOST_BASE
  have nd := sc_bases_with.nd
  refine hasL0 (N := ["denominator", "length", "known", "residue", "base"]) (ps := ["denominator", "length"]) (k := 5) (body := b_bases_with) D sc_bases_with (by decide) (fun _ _ _ _ _ _ us hl => match us, hl with | [_, _], _ => rfl) ?_
  intro f cdv A outer s H E hr hq hc
  exact ds_cons (ds_set 2 nd (de_do (do_dc rfl nd (own := [("residue", 3)]) (di_all (de_h h_residues_with hr hq (by decide) rfl (da_cons (de_var 0) (da_cons (de_var 1) (da_nil))))) (blkOk_by (by kernel_rfl)) (fun _ _ _ _ _ => dg_name 3 nd) (fun _ _ _ _ _ => dts_nil) (fun _ _ _ _ _ => de_var 3) (fun _ _ _ _ _ => de_bl) (by decide)))) (ds_one (ds_ret (de_tuple rfl n_tuple (dk_of (de_do (do_lc rfl nd (own := [("base", 4)]) (di_range2 rfl n_range (da_cons (de_int) (da_cons (de_add (de_gi rfl g_MOST_BASE) (dk_of (de_int))) (da_nil)))) (blkOk_by (by kernel_rfl)) (fun _ _ _ _ _ => dg_name 4 nd) (fun _ _ _ _ _ => dts_one (dt_cmp (opr_in (u1 hr)) (opd_in _) (by rfl) (de_mod (de_var 4) (dk_var 0)) (dk_var 2))) (fun _ _ _ _ _ => de_var 4) (by decide)))))))
/-! ### lowest -/
abbrev st_lowest : Stmt := top 21
def b_lowest : Rho → SR := seqS (setS 2 (bin modD (var 0) (pkF 1))) (seqS (setS 3 (callF m_common_divisor (consA (var 2) (consA (var 1) (nilA))))) (retS (tupD (consA (bin fdivD (var 2) (pkF 3)) (consA (bin fdivD (var 1) (pkF 3)) (nilA))))))
def m_lowest : Fn := runF 2 4 b_lowest
theorem sc_lowest : FnScope ["numerator", "denominator", "rest", "divisor"] ["numerator", "denominator"] (defScope st_lowest) := ⟨rfl, rfl, rfl, by decide +kernel, rfl, by decide +kernel, by decide +kernel⟩
theorem p_lowest (D : IsDef K mg "lowest" st_lowest) (h_common_divisor : Has P w K mg base "common_divisor" ["one", "other"] m_common_divisor 1) : Has P w K mg base "lowest" ["numerator", "denominator"] m_lowest 2 := by
  have nd := sc_lowest.nd
  refine has0 (N := ["numerator", "denominator", "rest", "divisor"]) (ps := ["numerator", "denominator"]) (k := 1) (body := b_lowest) D sc_lowest (by decide) (fun _ _ _ _ _ _ us hl => match us, hl with | [_, _], _ => rfl) ?_
  intro f cdv A outer s H E hr hq hc
  exact ds_cons (ds_set 2 nd (de_mod (de_var 0) (dk_var 1))) (ds_cons (ds_set 3 nd (de_h h_common_divisor hr hq (by decide) rfl (da_cons (de_var 2) (da_cons (de_var 1) (da_nil))))) (ds_one (ds_ret (de_tup (da_cons (de_fdiv (de_var 2) (dk_var 3)) (da_cons (de_fdiv (de_var 1) (dk_var 3)) (da_nil)))))))
/-! ### sum_in -/
abbrev st_sum_in : Stmt := top 49
def b_sum_in : Rho → SR := retS (callF m_lowest (consA (bin addD (bin mulD (bin ixD (var 0) (cst (.int (0 : Nat)))) (bin ixD (var 1) (cst (.int (1 : Nat))))) (bin mulD (bin ixD (var 1) (cst (.int (0 : Nat)))) (bin ixD (var 0) (cst (.int (1 : Nat)))))) (consA (bin mulD (bin ixD (var 0) (cst (.int (1 : Nat)))) (bin ixD (var 1) (cst (.int (1 : Nat))))) (nilA))))
def m_sum_in : Fn := runF 2 2 b_sum_in
theorem sc_sum_in : FnScope ["fraction", "other"] ["fraction", "other"] (defScope st_sum_in) := ⟨rfl, rfl, rfl, by decide +kernel, rfl, by decide +kernel, by decide +kernel⟩
theorem p_sum_in (D : IsDef K mg "sum_in" st_sum_in) (h_lowest : Has P w K mg base "lowest" ["numerator", "denominator"] m_lowest 2) : Has P w K mg base "sum_in" ["fraction", "other"] m_sum_in 3 := by
  have nd := sc_sum_in.nd
  refine has0 (N := ["fraction", "other"]) (ps := ["fraction", "other"]) (k := 2) (body := b_sum_in) D sc_sum_in (by decide) (fun _ _ _ _ _ _ us hl => match us, hl with | [_, _], _ => rfl) ?_
  intro f cdv A outer s H E hr hq hc
  exact ds_one (ds_ret (de_h h_lowest hr hq (by decide) rfl (da_cons (de_add (de_mul (de_ix (u1 hr) (de_var 0) (dk_of (de_int)) (fun _ _ => rfl)) (dk_of (de_ix (u1 hr) (de_var 1) (dk_of (de_int)) (fun _ _ => rfl)))) (dk_of (de_mul (de_ix (u1 hr) (de_var 1) (dk_of (de_int)) (fun _ _ => rfl)) (dk_of (de_ix (u1 hr) (de_var 0) (dk_of (de_int)) (fun _ _ => rfl)))))) (da_cons (de_mul (de_ix (u1 hr) (de_var 0) (dk_of (de_int)) (fun _ _ => rfl)) (dk_of (de_ix (u1 hr) (de_var 1) (dk_of (de_int)) (fun _ _ => rfl)))) (da_nil)))))
/-! ### sum_example -/
abbrev st_sum_example : Stmt := top 56
def b_sum_example : Rho → SR := seqS (exprS (callF m_need_denominator (consA (var 0) (nilA)))) (seqS (exprS (callF m_need_denominator (consA (var 1) (nilA)))) (seqS (exprS (callF m_need_denominator (consA (var 2) (nilA)))) (seqS (setS 3 (callF m_lowest (consA (cst (.int (1 : Nat))) (consA (var 0) (nilA))))) (seqS (forS (rngF rngD1 (consA (var 1) (nilA))) (tgN 4) (ifS (andT (tstF (bin eqD (callF m_common_divisor (consA (var 4) (consA (var 1) (nilA)))) (cst (.int (1 : Nat))))) (tstF (bin eqD (bin ixD (callF m_sum_in (consA (var 3) (consA (tupD (consA (var 4) (consA (var 1) (nilA)))) (nilA)))) (cst (.int (1 : Nat)))) (pkF 2)))) (retS (tupD (consA (var 3) (consA (tupD (consA (var 4) (consA (var 1) (nilA)))) (nilA))))) (skipS))) (badS)))))
def m_sum_example : Fn := runF 3 5 b_sum_example
theorem sc_sum_example : FnScope ["one", "two", "denominator", "first", "numerator"] ["one", "two", "denominator"] (defScope st_sum_example) := ⟨rfl, rfl, rfl, by decide +kernel, rfl, by decide +kernel, by decide +kernel⟩
theorem p_sum_example (D : IsDef K mg "sum_example" st_sum_example) (h_sum_in : Has P w K mg base "sum_in" ["fraction", "other"] m_sum_in 3) (h_common_divisor : Has P w K mg base "common_divisor" ["one", "other"] m_common_divisor 1) (h_lowest : Has P w K mg base "lowest" ["numerator", "denominator"] m_lowest 2) (h_need_denominator : Has P w K mg base "need_denominator" ["value"] m_need_denominator 3) (n_range : mg "range" = none) : HasL P w K mg base "sum_example" st_sum_example ["one", "two", "denominator"] m_sum_example 4 := by
  have nd := sc_sum_example.nd
  refine hasL0 (N := ["one", "two", "denominator", "first", "numerator"]) (ps := ["one", "two", "denominator"]) (k := 3) (body := b_sum_example) D sc_sum_example (by decide) (fun _ _ _ _ _ _ us hl => match us, hl with | [_, _, _], _ => rfl) ?_
  intro f cdv A outer s H E hr hq hc
  exact ds_cons (ds_expr (de_h h_need_denominator hr hq (by decide) rfl (da_cons (de_var 0) (da_nil)))) (ds_cons (ds_expr (de_h h_need_denominator hr hq (by decide) rfl (da_cons (de_var 1) (da_nil)))) (ds_cons (ds_expr (de_h h_need_denominator hr hq (by decide) rfl (da_cons (de_var 2) (da_nil)))) (ds_cons (ds_set 3 nd (de_h h_lowest hr hq (by decide) rfl (da_cons (de_int) (da_cons (de_var 0) (da_nil))))) (ds_cons (ds_for PassesOwn.never rfl (di_range1 rfl n_range (da_cons (de_var 1) (da_nil))) (dg_name 4 nd) (ds_one (ds_if (dt_w (dw_and (dt_cmp (opr_eq (u64 hr)) (opd_eq _) (nomark _) (de_h h_common_divisor hr hq (by decide) rfl (da_cons (de_var 4) (da_cons (de_var 1) (da_nil)))) (dk_of (de_int))) (dw_and1 (dt_cmp (opr_eq (u64 hr)) (opd_eq _) (nomark _) (de_ix (u1 hr) (de_h h_sum_in hr hq (by decide) rfl (da_cons (de_var 3) (da_cons (de_tup (da_cons (de_var 4) (da_cons (de_var 1) (da_nil)))) (da_nil)))) (dk_of (de_int)) (fun _ _ => rfl)) (dk_var 2))))) (ds_one (ds_ret (de_tup (da_cons (de_var 3) (da_cons (de_tup (da_cons (de_var 4) (da_cons (de_var 1) (da_nil)))) (da_nil)))))) (ds_nil)))) (ds_one (ds_never))))))
/-! ### _law_hand_right -/
abbrev st__law_hand_right : Stmt := top 127
def b__law_hand_right : Rho → SR := seqS (setOS 0 (lstO (consA (callF (kwF [0, 1, 2] 3 m_denominators_with) (consA (cst (.int (10 : Nat))) (consA (cst (.int (2 : Nat))) (consA (cst (.int (40 : Nat))) (nilA))))) (consA (bin ixD (bin ixD (callF (kwF [0, 1, 2] 3 m_sum_example) (consA (cst (.int (2 : Nat))) (consA (cst (.int (3 : Nat))) (consA (cst (.int (6 : Nat))) (nilA))))) (cst (.int (1 : Nat)))) (cst (.int (1 : Nat)))) (nilA))))) (seqS (appS 0 (callF (kwF [0, 1, 2, 3] 4 m_block_sum) (consA (cst (.int (10 : Nat))) (consA (cst (.int (3 : Nat))) (consA (un negD (cst (.int (1 : Nat)))) (consA (cst (.int (142857 : Nat))) (nilA))))))) (seqS (appS 0 (callF (kwF [0, 1, 2] 3 m_exponents) (consA (cst (.int (10 : Nat))) (consA (cst (.int (7 : Nat))) (consA (un negD (cst (.int (1 : Nat)))) (nilA)))))) (seqS (appS 0 (callF (kwF [0, 1, 2, 3] 4 m_keeps_remainders) (consA (cst (.int (10 : Nat))) (consA (cst (.int (7 : Nat))) (consA (cst (.int (3 : Nat))) (consA (un negD (cst (.int (1 : Nat)))) (nilA))))))) (seqS (appS 0 (sl3 (callF (kwF [0, 1] 2 m_bases_with) (consA (cst (.int (3 : Nat))) (consA (cst (.int (2 : Nat))) (nilA)))) (noP) (someP (cst (.int (3 : Nat)))))) (retS (binP eqD 0 (lstD (consA (tupD (consA (cst (.int (11 : Nat))) (consA (cst (.int (33 : Nat))) (nilA)))) (consA (cst (.int (3 : Nat))) (consA (cst (.int (715 : Nat))) (consA (tupD (consA (cst (.int (3 : Nat))) (consA (cst (.int (6 : Nat))) (nilA)))) (consA (cst (.bl true)) (consA (tupD (consA (cst (.int (2 : Nat))) (consA (cst (.int (5 : Nat))) (consA (cst (.int (8 : Nat))) (nilA))))) (nilA))))))))))))))
def m__law_hand_right : Fn := runF 0 1 b__law_hand_right
theorem sc__law_hand_right : FnScope ["told_so"] [] (defScope st__law_hand_right) := ⟨rfl, rfl, rfl, by decide +kernel, rfl, by decide +kernel, by decide +kernel⟩
theorem p__law_hand_right (D : IsDef K mg "_law_hand_right" st__law_hand_right) (l_bases_with : HasL P w K mg base "bases_with" st_bases_with ["denominator", "length"] m_bases_with 6) (l_keeps_remainders : HasL P w K mg base "keeps_remainders" st_keeps_remainders ["base", "denominator", "size", "weight"] m_keeps_remainders 5) (l_exponents : HasL P w K mg base "exponents" st_exponents ["base", "denominator", "weight"] m_exponents 7) (l_block_sum : HasL P w K mg base "block_sum" st_block_sum ["base", "size", "weight", "number"] m_block_sum 5) (l_sum_example : HasL P w K mg base "sum_example" st_sum_example ["one", "two", "denominator"] m_sum_example 4) (l_denominators_with : HasL P w K mg base "denominators_with" st_denominators_with ["base", "length", "most"] m_denominators_with 4) : Has P w K mg base "_law_hand_right" [] m__law_hand_right 8 := by
  have nd := sc__law_hand_right.nd
  refine has0 (N := ["told_so"]) (ps := []) (k := 7) (body := b__law_hand_right) D sc__law_hand_right (by decide) (fun _ _ _ _ _ _ us hl => match us, hl with | [], _ => rfl) ?_
  intro f cdv A outer s H E hr hq hc
  exact ds_cons (ds_setO 0 nd (do_lst (da_cons (de_hK ["base", "length", "most"] [0, 1, 2] l_denominators_with hr hq (by decide) rfl (dk_cons (de_int) (dk_cons (de_int) (dk_cons (de_int) (dk_nil)))) (fun _ _ _ _ _ _ us hl => match us, hl with | [_, _, _], _ => rfl)) (da_cons (de_ix (u1 hr) (de_ix (u1 hr) (de_hK ["one", "two", "denominator"] [0, 1, 2] l_sum_example hr hq (by decide) rfl (dk_cons (de_int) (dk_cons (de_int) (dk_cons (de_int) (dk_nil)))) (fun _ _ _ _ _ _ us hl => match us, hl with | [_, _, _], _ => rfl)) (dk_of (de_int)) (fun _ _ => rfl)) (dk_of (de_int)) (fun _ _ => rfl)) (da_nil))))) (ds_cons (ds_app 0 (pv 0) (de_hK ["base", "size", "weight", "number"] [0, 1, 2, 3] l_block_sum hr hq (by decide) rfl (dk_cons (de_int) (dk_cons (de_int) (dk_cons (de_neg (de_int)) (dk_cons (de_int) (dk_nil))))) (fun _ _ _ _ _ _ us hl => match us, hl with | [_, _, _, _], _ => rfl))) (ds_cons (ds_app 0 (pv 0) (de_hK ["base", "denominator", "weight"] [0, 1, 2] l_exponents hr hq (by decide) rfl (dk_cons (de_int) (dk_cons (de_int) (dk_cons (de_neg (de_int)) (dk_nil)))) (fun _ _ _ _ _ _ us hl => match us, hl with | [_, _, _], _ => rfl))) (ds_cons (ds_app 0 (pv 0) (de_hK ["base", "denominator", "size", "weight"] [0, 1, 2, 3] l_keeps_remainders hr hq (by decide) rfl (dk_cons (de_int) (dk_cons (de_int) (dk_cons (de_int) (dk_cons (de_neg (de_int)) (dk_nil))))) (fun _ _ _ _ _ _ us hl => match us, hl with | [_, _, _, _], _ => rfl))) (ds_cons (ds_app 0 (pv 0) (de_sl (de_hK ["denominator", "length"] [0, 1] l_bases_with hr hq (by decide) rfl (dk_cons (de_int) (dk_cons (de_int) (dk_nil))) (fun _ _ _ _ _ _ us hl => match us, hl with | [_, _], _ => rfl)) (dp_none) (dp_some (de_int)))) (ds_one (ds_ret (de_cmpP (opr_eq (u64 hr)) (opd_eq _) (nomark _) (pv 0) (dk_of (de_lst (da_cons (de_tup (da_cons (de_int) (da_cons (de_int) (da_nil)))) (da_cons (de_int) (da_cons (de_int) (da_cons (de_tup (da_cons (de_int) (da_cons (de_int) (da_nil)))) (da_cons (de_bl) (da_cons (de_tup (da_cons (de_int) (da_cons (de_int) (da_cons (de_int) (da_nil))))) (da_nil))))))))))))))))
/-! ### _law_begun -/
abbrev st__law_begun : Stmt := top 122
def b__law_begun : Rho → SR := seqS (setS 2 (bin addD (sl3 (var 0) (someP (var 1)) (noP)) (sl3 (var 0) (noP) (someP (var 1))))) (seqS (setS 3 (frzR (lcO (itF (var 2)) (tgN 5) (tstF (bin geD (var 5) (bin powD (cst (.int (10 : Nat))) (cst (.int (18 : Nat)))))) (var 5) [5]))) (seqS (setS 4 (bin addD (cst (.int (131 : Nat))) (pkF 1))) (seqS (forS (itF (var 2)) (tgN 5) (setS 4 (bin modD (un intD (bin addD (bin mulD (var 4) (cst (.int (48271 : Nat)))) (pkF 5))) (cst (.int (2147483647 : Nat)))))) (retOS (dispO ((cst (.str "left"), ifE (tstF (bin neD (var 3) (lstD (nilA)))) (bin ixD (var 3) (cst (.int (0 : Nat)))) (cst (.int (0 : Nat)))) :: ((cst (.str "seed"), var 4) :: ((cst (.str "cells"), bin addD (var 2) (lstD (consA (bin addD (bin mulD (cst (.int (43 : Nat))) (pkF 1)) (cst (.int (7 : Nat)))) (nilA)))) :: ((cst (.str "spot"), cst (.int (0 : Nat))) :: ([]))))))))))
def m__law_begun : Fn := runF 2 6 b__law_begun
theorem sc__law_begun : FnScope ["script", "k", "cells", "great", "seed", "cell"] ["script", "k"] (defScope st__law_begun) := ⟨rfl, rfl, rfl, by decide +kernel, rfl, by decide +kernel, by decide +kernel⟩
theorem p__law_begun (D : IsDef K mg "_law_begun" st__law_begun) (n_int : mg "int" = none) : Has P w K mg base "_law_begun" ["script", "k"] m__law_begun 1 := by
  have nd := sc__law_begun.nd
  refine has0 (N := ["script", "k", "cells", "great", "seed", "cell"]) (ps := ["script", "k"]) (k := 0) (body := b__law_begun) D sc__law_begun (by decide) (fun _ _ _ _ _ _ us hl => match us, hl with | [_, _], _ => rfl) ?_
  intro f cdv A outer s H E hr hq hc
  exact ds_cons (ds_set 2 nd (de_add (de_sl (de_var 0) (dp_some (de_var 1)) (dp_none)) (dk_of (de_sl (de_var 0) (dp_none) (dp_some (de_var 1)))))) (ds_cons (ds_setLc 3 rfl nd (sw_true rfl rfl rfl (by decide +kernel)) (own := [("cell", 5)]) (di_all (de_var 2)) (blkOk_by (by kernel_rfl)) (fun _ _ _ _ _ => dg_name 5 nd) (fun _ _ _ _ _ => dts_one (dt_cmp (op_ge) (opd_cmp _ _) (nomark _) (de_var 5) (dk_of (de_pow (de_int) (dk_of (de_int)))))) (fun _ _ _ _ _ => de_var 5) (by decide)) (ds_cons (ds_set 4 nd (de_add (de_int) (dk_var 1))) (ds_cons (ds_for PassesOwn.never rfl (di_all (de_var 2)) (dg_name 5 nd) (ds_one (ds_set 4 nd (de_mod (de_toint rfl n_int (dk_of (de_add (de_mul (de_var 4) (dk_of (de_int))) (dk_var 5)))) (dk_of (de_int)))))) (ds_one (ds_retO (do_disp (dpr_cons (de_str) (de_if (dt_cmp (opr_ne (u64 hr)) (opd_ne _) (nomark _) (de_var 3) (dk_of (de_lst (da_nil)))) (de_ix (u1 hr) (de_var 3) (dk_of (de_int)) (fun _ _ => rfl)) (de_int)) (dpr_cons (de_str) (de_var 4) (dpr_cons (de_str) (de_add (de_var 2) (dk_of (de_lst (da_cons (de_add (de_mul (de_int) (dk_var 1)) (dk_of (de_int))) (da_nil))))) (dpr_cons (de_str) (de_int) (dpr_nil))))) rfl rfl (fun z => nomatch z) (by decide)))))))
/-! ### _law_draw -/
abbrev st__law_draw : Stmt := top 123
def b__law_draw : Rho → SR := seqS (ifS (tstF (bin gtD (binP ixD 0 (cst (.str "left"))) (cst (.int (0 : Nat))))) (seqS (setS 5 (bin modD (un intD (binP ixD 0 (cst (.str "left")))) (pkF 1))) (seqS (dputS 0 (cst (.str "left")) (bin fdivD (binP ixD 0 (cst (.str "left"))) (pkF 1))) (retS (var 5)))) (skipS)) (seqS (setS 2 (binP ixD 0 (cst (.str "spot")))) (seqS (dputS 0 (cst (.str "spot")) (bin addD (var 2) (cst (.int (1 : Nat))))) (seqS (parP [6, 7] [frO (binP ixD 0 (cst (.str "cells"))), frO (bin addD (binP ixD 0 (cst (.str "seed"))) (bin mulD (bin mulD (cst (.int (40503 : Nat))) (pkF 2)) (pkF 2)))]) (seqS (setS 3 (bin ixD (var 6) (bin modD (un intD (pkF 2)) (un lenD (pkF 6))))) (seqS (setS 4 (bin modD (un intD (bin addD (bin mulD (var 3) (bin addD (bin mulD (cst (.int (2 : Nat))) (pkF 2)) (cst (.int (3 : Nat))))) (pkF 7))) (cst (.int (2147483647 : Nat))))) (seqS (setS 4 (bin modD (un intD (bin addD (bin addD (bin mulD (var 4) (pkF 4)) (bin mulD (cst (.int (69621 : Nat))) (pkF 2))) (binP ixD 0 (cst (.str "seed"))))) (cst (.int (2147483629 : Nat))))) (retS (bin modD (bin fdivD (bin modD (un intD (bin addD (bin mulD (var 4) (cst (.int (48271 : Nat)))) (pkF 2))) (cst (.int (2147483647 : Nat)))) (cst (.int (11 : Nat)))) (pkF 1)))))))))
def m__law_draw : FnM := runM 2 8 b__law_draw
theorem sc__law_draw : FnScope ["m", "limit", "spot", "cell", "blend", "found", "cells", "added"] ["m", "limit"] (defScope st__law_draw) := ⟨rfl, rfl, rfl, by decide +kernel, rfl, by decide +kernel, by decide +kernel⟩
theorem p__law_draw (D : IsDef K mg "_law_draw" st__law_draw) (n_int : mg "int" = none) (n_len : mg "len" = none) : HasM P w K mg base "_law_draw" ["m", "limit"] m__law_draw 1 := by
  have nd := sc__law_draw.nd
  refine hasM (N := ["m", "limit", "spot", "cell", "blend", "found", "cells", "added"]) (ps := ["m", "limit"]) (k := 0) (body := b__law_draw) D sc__law_draw (by decide) (fun _ _ _ _ _ _ us hl => match us, hl with | [_, _], _ => rfl) ?_
  intro f cdv A outer s H E hr hq hc
  exact ds_cons (ds_if (dt_cmp (op_gt) (opd_cmp _ _) (nomark _) (de_ixP (u1 hr) (pv 0) (dk_of (de_str)) (fun _ _ => rfl)) (dk_of (de_int))) (ds_cons (ds_set 5 nd (de_mod (de_toint rfl n_int (dk_of (de_ixP (u1 hr) (pv 0) (dk_of (de_str)) (fun _ _ => rfl)))) (dk_var 1))) (ds_cons (ds_dput 0 (u1 hr) (pv 0) (de_str) (de_fdiv (de_ixP (u1 hr) (pv 0) (dk_of (de_str)) (fun _ _ => rfl)) (dk_var 1))) (ds_one (ds_ret (de_var 5))))) (ds_nil)) (ds_cons (ds_set 2 nd (de_ixP (u1 hr) (pv 0) (dk_of (de_str)) (fun _ _ => rfl))) (ds_cons (ds_dput 0 (u1 hr) (pv 0) (de_str) (de_add (de_var 2) (dk_of (de_int)))) (ds_cons (ds_par2 (i := 6) (j := 7) rfl nd (by decide) (dps_cons (do_fr (de_ixP (u1 hr) (pv 0) (dk_of (de_str)) (fun _ _ => rfl))) (dps_cons (do_fr (de_add (de_ixP (u1 hr) (pv 0) (dk_of (de_str)) (fun _ _ => rfl)) (dk_of (de_mul (de_mul (de_int) (dk_var 2)) (dk_var 2))))) (dps_nil))) (by rfl)) (ds_cons (ds_set 3 nd (de_ix (u1 hr) (de_var 6) (dk_of (de_mod (de_toint rfl n_int (dk_var 2)) (dk_of (de_len rfl n_len (dk_var 6))))) (fun _ _ => rfl))) (ds_cons (ds_set 4 nd (de_mod (de_toint rfl n_int (dk_of (de_add (de_mul (de_var 3) (dk_of (de_add (de_mul (de_int) (dk_var 2)) (dk_of (de_int))))) (dk_var 7)))) (dk_of (de_int)))) (ds_cons (ds_set 4 nd (de_mod (de_toint rfl n_int (dk_of (de_add (de_add (de_mul (de_var 4) (dk_var 4)) (dk_of (de_mul (de_int) (dk_var 2)))) (dk_of (de_ixP (u1 hr) (pv 0) (dk_of (de_str)) (fun _ _ => rfl)))))) (dk_of (de_int)))) (ds_one (ds_ret (de_mod (de_fdiv (de_mod (de_toint rfl n_int (dk_of (de_add (de_mul (de_var 4) (dk_of (de_int))) (dk_var 2)))) (dk_of (de_int))) (dk_of (de_int))) (dk_var 1))))))))))
/-! ### _law_of -/
abbrev st__law_of : Stmt := top 124
def b__law_of : Rho → SR := retS (bin ixD (var 1) (callM m__law_draw 0 (consA (un lenD (pkF 1)) (nilA))))
def m__law_of : FnM := runM 2 2 b__law_of
theorem sc__law_of : FnScope ["m", "some"] ["m", "some"] (defScope st__law_of) := ⟨rfl, rfl, rfl, by decide +kernel, rfl, by decide +kernel, by decide +kernel⟩
theorem p__law_of (D : IsDef K mg "_law_of" st__law_of) (h__law_draw : HasM P w K mg base "_law_draw" ["m", "limit"] m__law_draw 1) (n_len : mg "len" = none) : HasM P w K mg base "_law_of" ["m", "some"] m__law_of 2 := by
  have nd := sc__law_of.nd
  refine hasM (N := ["m", "some"]) (ps := ["m", "some"]) (k := 1) (body := b__law_of) D sc__law_of (by decide) (fun _ _ _ _ _ _ us hl => match us, hl with | [_, _], _ => rfl) ?_
  intro f cdv A outer s H E hr hq hc
  exact ds_one (ds_ret (de_ix (u1 hr) (de_var 1) (dk_of (de_hM h__law_draw hr hq (by decide) rfl (pv 0) (da_cons (de_len rfl n_len (dk_var 1)) (da_nil)))) (fun _ _ => rfl)))
/-! ### pairs_of -/
abbrev st_pairs_of : Stmt := top 88
def b_pairs_of : Rho → SR := retS (un tupleD (frzR (lcO (itF (callF m_primes_of (consA (var 2) (nilA)))) (tgN 3) (yesT) (tupD (consA (var 3) (consA (callF m_power_rest (consA (var 0) (consA (bin fdivD (var 2) (pkF 3)) (consA (var 1) (nilA))))) (nilA)))) [3])))
def m_pairs_of : Fn := runF 3 4 b_pairs_of
theorem sc_pairs_of : FnScope ["base", "pure", "length", "prime"] ["base", "pure", "length"] (defScope st_pairs_of) := ⟨rfl, rfl, rfl, by decide +kernel, rfl, by decide +kernel, by decide +kernel⟩
theorem p_pairs_of (D : IsDef K mg "pairs_of" st_pairs_of) (h_primes_of : Has P w K mg base "primes_of" ["number"] m_primes_of 2) (h_power_rest : Has P w K mg base "power_rest" ["base", "exponent", "divisor"] m_power_rest 1) (n_tuple : mg "tuple" = none) : Has P w K mg base "pairs_of" ["base", "pure", "length"] m_pairs_of 3 := by
  have nd := sc_pairs_of.nd
  refine has0 (N := ["base", "pure", "length", "prime"]) (ps := ["base", "pure", "length"]) (k := 2) (body := b_pairs_of) D sc_pairs_of (by decide) (fun _ _ _ _ _ _ us hl => match us, hl with | [_, _, _], _ => rfl) ?_
  intro f cdv A outer s H E hr hq hc
  exact ds_one (ds_ret (de_tuple rfl n_tuple (dk_of (de_do (do_lc rfl nd (own := [("prime", 3)]) (di_all (de_h h_primes_of hr hq (by decide) rfl (da_cons (de_var 2) (da_nil)))) (blkOk_by (by kernel_rfl)) (fun _ _ _ _ _ => dg_name 3 nd) (fun _ _ _ _ _ => dts_nil) (fun _ _ _ _ _ => de_tup (da_cons (de_var 3) (da_cons (de_h h_power_rest hr hq (by decide) rfl (da_cons (de_var 0) (da_cons (de_fdiv (de_var 2) (dk_var 3)) (da_cons (de_var 1) (da_nil))))) (da_nil)))) (by decide))))))
/-! ### period_paper -/
abbrev st_period_paper : Stmt := top 89
def b_period_paper : Rho → SR := seqS (setS 2 (callF m_period_of (consA (callF m_need_base (consA (var 0) (nilA))) (consA (callF m_need_denominator (consA (var 1) (nilA))) (nilA))))) (retS (tupD (consA (var 2) (consA (callF m_pairs_of (consA (var 0) (consA (callF m_pure_part_of (consA (var 0) (consA (var 1) (nilA)))) (consA (var 2) (nilA))))) (nilA)))))
def m_period_paper : Fn := runF 2 3 b_period_paper
theorem sc_period_paper : FnScope ["base", "denominator", "length"] ["base", "denominator"] (defScope st_period_paper) := ⟨rfl, rfl, rfl, by decide +kernel, rfl, by decide +kernel, by decide +kernel⟩
theorem p_period_paper (D : IsDef K mg "period_paper" st_period_paper) (h_pure_part_of : Has P w K mg base "pure_part_of" ["base", "denominator"] m_pure_part_of 2) (h_pairs_of : Has P w K mg base "pairs_of" ["base", "pure", "length"] m_pairs_of 3) (h_need_denominator : Has P w K mg base "need_denominator" ["value"] m_need_denominator 3) (h_need_base : Has P w K mg base "need_base" ["value"] m_need_base 3) (h_period_of : Has P w K mg base "period_of" ["base", "denominator"] m_period_of 3) : HasL P w K mg base "period_paper" st_period_paper ["base", "denominator"] m_period_paper 4 := by
  have nd := sc_period_paper.nd
  refine hasL0 (N := ["base", "denominator", "length"]) (ps := ["base", "denominator"]) (k := 3) (body := b_period_paper) D sc_period_paper (by decide) (fun _ _ _ _ _ _ us hl => match us, hl with | [_, _], _ => rfl) ?_
  intro f cdv A outer s H E hr hq hc
  exact ds_cons (ds_set 2 nd (de_h h_period_of hr hq (by decide) rfl (da_cons (de_h h_need_base hr hq (by decide) rfl (da_cons (de_var 0) (da_nil))) (da_cons (de_h h_need_denominator hr hq (by decide) rfl (da_cons (de_var 1) (da_nil))) (da_nil))))) (ds_one (ds_ret (de_tup (da_cons (de_var 2) (da_cons (de_h h_pairs_of hr hq (by decide) rfl (da_cons (de_var 0) (da_cons (de_h h_pure_part_of hr hq (by decide) rfl (da_cons (de_var 0) (da_cons (de_var 1) (da_nil)))) (da_cons (de_var 2) (da_nil))))) (da_nil))))))
/-! ### spread -/
abbrev st_spread : Stmt := top 44
def b_spread : Rho → SR := seqS (setOS 1 (dctO0)) (seqS (forS (itF (callF m_lengths_of (consA (callF m_need_denominator (consA (var 0) (nilA))) (nilA)))) (tgT [2, 3]) (dputS 1 (var 3) (bin addD (getP (0 : Nat) 1 (var 3)) (cst (.int (1 : Nat)))))) (retS (un tupleD (un srtItD (pkF 1)))))
def m_spread : Fn := runF 1 4 b_spread
theorem sc_spread : FnScope ["denominator", "counts", "residue", "own"] ["denominator"] (defScope st_spread) := ⟨rfl, rfl, rfl, by decide +kernel, rfl, by decide +kernel, by decide +kernel⟩
theorem p_spread (D : IsDef K mg "spread" st_spread) (h_need_denominator : Has P w K mg base "need_denominator" ["value"] m_need_denominator 3) (h_lengths_of : Has P w K mg base "lengths_of" ["denominator"] m_lengths_of 4) (n_sorted : mg "sorted" = none) (n_tuple : mg "tuple" = none) : HasL P w K mg base "spread" st_spread ["denominator"] m_spread 5 := by
  have nd := sc_spread.nd
  refine hasL0 (N := ["denominator", "counts", "residue", "own"]) (ps := ["denominator"]) (k := 4) (body := b_spread) D sc_spread (by decide) (fun _ _ _ _ _ _ us hl => match us, hl with | [_], _ => rfl) ?_
  intro f cdv A outer s H E hr hq hc
  exact ds_cons (ds_setO 1 nd (do_dct0)) (ds_cons (ds_for PassesOwn.never rfl (di_all (de_h h_lengths_of hr hq (by decide) rfl (da_cons (de_h h_need_denominator hr hq (by decide) rfl (da_cons (de_var 0) (da_nil))) (da_nil)))) (dg_tup rfl (dgs_cons 2 nd (dgs_cons 3 nd (dgs_nil)))) (ds_one (ds_dput 1 (u1 hr) (pv 1) (de_var 3) (de_add (de_get2 (u1 hr) (pv 1) (de_var 3) ⟨rfl, rfl, rfl, rfl⟩) (dk_of (de_int)))))) (ds_one (ds_ret (de_tuple rfl n_tuple (dk_of (de_sortIt rfl rfl n_sorted (dk_var 1)))))))
/-! ### greatest_period -/
abbrev st_greatest_period : Stmt := top 45
def b_greatest_period : Rho → SR := retS (callF m_greatest_of (consA (callF m_need_denominator (consA (var 0) (nilA))) (nilA)))
def m_greatest_period : Fn := runF 1 1 b_greatest_period
theorem sc_greatest_period : FnScope ["denominator"] ["denominator"] (defScope st_greatest_period) := ⟨rfl, rfl, rfl, by decide +kernel, rfl, by decide +kernel, by decide +kernel⟩
theorem p_greatest_period (D : IsDef K mg "greatest_period" st_greatest_period) (h_need_denominator : Has P w K mg base "need_denominator" ["value"] m_need_denominator 3) (h_greatest_of : Has P w K mg base "greatest_of" ["denominator"] m_greatest_of 3) : HasL P w K mg base "greatest_period" st_greatest_period ["denominator"] m_greatest_period 4 := by
  have nd := sc_greatest_period.nd
  refine hasL0 (N := ["denominator"]) (ps := ["denominator"]) (k := 3) (body := b_greatest_period) D sc_greatest_period (by decide) (fun _ _ _ _ _ _ us hl => match us, hl with | [_], _ => rfl) ?_
  intro f cdv A outer s H E hr hq hc
  exact ds_one (ds_ret (de_h h_greatest_of hr hq (by decide) rfl (da_cons (de_h h_need_denominator hr hq (by decide) rfl (da_cons (de_var 0) (da_nil))) (da_nil))))
/-! ### need_small -/
abbrev st_need_small : Stmt := top 48
def b_need_small : Rho → SR := seqS (ifS (tstF (bin gtD (var 0) (cst (.int (5000 : Nat))))) (badS) (skipS)) (retS (var 0))
def m_need_small : Fn := runF 1 1 b_need_small
theorem sc_need_small : FnScope ["denominator"] ["denominator"] (defScope st_need_small) := ⟨rfl, rfl, rfl, by decide +kernel, rfl, by decide +kernel, by decide +kernel⟩
theorem p_need_small (D : IsDef K mg "need_small" st_need_small) (g_MOST_DENOMINATOR : ∃ t, mg "MOST_DENOMINATOR" = some (.int 5000 t)) : Has P w K mg base "need_small" ["denominator"] m_need_small 1 := by
  obtain ⟨_, g_MOST_DENOMINATOR⟩ := g_MOST_DENOMINATOR
  have nd := sc_need_small.nd
  refine has0 (N := ["denominator"]) (ps := ["denominator"]) (k := 0) (body := b_need_small) D sc_need_small (by decide) (fun _ _ _ _ _ _ us hl => match us, hl with | [_], _ => rfl) ?_
  intro f cdv A outer s H E hr hq hc
  exact ds_cons (ds_if (dt_cmp (op_gt) (opd_cmp _ _) (nomark _) (de_var 0) (dk_of (de_gi rfl g_MOST_DENOMINATOR))) (ds_one (ds_never)) (ds_nil)) (ds_one (ds_ret (de_var 0)))
/-! ### exponent_in -/
abbrev st_exponent_in : Stmt := top 51
def b_exponent_in : Rho → SR := seqS (setS 2 (frzR (lcO (itF (callF m_prime_powers (consA (var 0) (nilA)))) (tgT [3, 4, 5]) (tstF (bin eqD (var 3) (pkF 1))) (var 4) [3, 4, 5]))) (retS (ifE (tstF (bin neD (var 2) (lstD (nilA)))) (bin ixD (var 2) (cst (.int (0 : Nat)))) (cst (.int (0 : Nat)))))
def m_exponent_in : Fn := runF 2 6 b_exponent_in
theorem sc_exponent_in : FnScope ["number", "prime", "found", "own", "exponent", "part"] ["number", "prime"] (defScope st_exponent_in) := ⟨rfl, rfl, rfl, by decide +kernel, rfl, by decide +kernel, by decide +kernel⟩
theorem p_exponent_in (D : IsDef K mg "exponent_in" st_exponent_in) (h_prime_powers : Has P w K mg base "prime_powers" ["number"] m_prime_powers 1) : Has P w K mg base "exponent_in" ["number", "prime"] m_exponent_in 2 := by
  have nd := sc_exponent_in.nd
  refine has0 (N := ["number", "prime", "found", "own", "exponent", "part"]) (ps := ["number", "prime"]) (k := 1) (body := b_exponent_in) D sc_exponent_in (by decide) (fun _ _ _ _ _ _ us hl => match us, hl with | [_, _], _ => rfl) ?_
  intro f cdv A outer s H E hr hq hc
  exact ds_cons (ds_setLc 2 rfl nd (sw_true rfl rfl rfl (by decide +kernel)) (own := [("own", 3), ("exponent", 4), ("part", 5)]) (di_all (de_h h_prime_powers hr hq (by decide) rfl (da_cons (de_var 0) (da_nil)))) (blkOk_by (by kernel_rfl)) (fun _ _ _ _ _ => dg_tup rfl (dgs_cons 3 nd (dgs_cons 4 nd (dgs_cons 5 nd (dgs_nil))))) (fun _ _ _ _ _ => dts_one (dt_cmp (opr_eq (u64 hr)) (opd_eq _) (nomark _) (de_var 3) (dk_var 1))) (fun _ _ _ _ _ => de_var 4) (by decide)) (ds_one (ds_ret (de_if (dt_cmp (opr_ne (u64 hr)) (opd_ne _) (nomark _) (de_var 2) (dk_of (de_lst (da_nil)))) (de_ix (u1 hr) (de_var 2) (dk_of (de_int)) (fun _ _ => rfl)) (de_int))))
/-! ### exponents_for -/
abbrev st_exponents_for : Stmt := top 52
def b_exponents_for : Rho → SR := seqS (parP [3, 4] [frO (callF m_exponent_in (consA (var 0) (consA (var 2) (nilA)))), frO (callF m_exponent_in (consA (var 1) (consA (var 2) (nilA))))]) (seqS (ifS (tstF (bin neD (var 3) (pkF 4))) (retS (lstD (consA (cb max2D (consA (var 3) (consA (var 4) (nilA)))) (nilA)))) (skipS)) (retS (rgList rngD2 (consA (cst (.int (0 : Nat))) (consA (ifE (tstF (bin eqD (var 2) (cst (.int (2 : Nat))))) (var 3) (bin addD (var 3) (cst (.int (1 : Nat))))) nilA)))))
def m_exponents_for : Fn := runF 3 5 b_exponents_for
theorem sc_exponents_for : FnScope ["one", "two", "prime", "near", "far"] ["one", "two", "prime"] (defScope st_exponents_for) := ⟨rfl, rfl, rfl, by decide +kernel, rfl, by decide +kernel, by decide +kernel⟩
theorem p_exponents_for (D : IsDef K mg "exponents_for" st_exponents_for) (h_exponent_in : Has P w K mg base "exponent_in" ["number", "prime"] m_exponent_in 2) (n_list : mg "list" = none) (n_range : mg "range" = none) (n_max : mg "max" = none) : Has P w K mg base "exponents_for" ["one", "two", "prime"] m_exponents_for 3 := by
  have nd := sc_exponents_for.nd
  refine has0 (N := ["one", "two", "prime", "near", "far"]) (ps := ["one", "two", "prime"]) (k := 2) (body := b_exponents_for) D sc_exponents_for (by decide) (fun _ _ _ _ _ _ us hl => match us, hl with | [_, _, _], _ => rfl) ?_
  intro f cdv A outer s H E hr hq hc
  exact ds_cons (ds_par2 (i := 3) (j := 4) rfl nd (by decide) (dps_cons (do_fr (de_h h_exponent_in hr hq (by decide) rfl (da_cons (de_var 0) (da_cons (de_var 2) (da_nil))))) (dps_cons (do_fr (de_h h_exponent_in hr hq (by decide) rfl (da_cons (de_var 1) (da_cons (de_var 2) (da_nil))))) (dps_nil))) (by rfl)) (ds_cons (ds_if (dt_cmp (opr_ne (u64 hr)) (opd_ne _) (nomark _) (de_var 3) (dk_var 4)) (ds_one (ds_ret (de_lst (da_cons (de_max2 rfl rfl n_max (da_cons (de_var 3) (da_cons (de_var 4) (da_nil)))) (da_nil))))) (ds_nil)) (ds_one (ds_ret (de_listRg1 rfl rfl n_list rfl n_range (de_if (dt_cmp (opr_eq (u64 hr)) (opd_eq _) (nomark _) (de_var 2) (dk_of (de_int))) (de_var 3) (de_add (de_var 3) (dk_of (de_int))))))))
/-! ### sums_of -/
abbrev st_sums_of : Stmt := top 53
def b_sums_of : Rho → SR := seqS (setS 2 (lstD (consA (cst (.int (1 : Nat))) (nilA)))) (seqS (forS (itF (callF m_primes_of (consA (callF m_common_multiple (consA (var 0) (consA (var 1) (nilA)))) (nilA)))) (tgN 3) (seqS (setS 4 (frzR (lcO (itF (callF m_exponents_for (consA (var 0) (consA (var 1) (consA (var 3) (nilA)))))) (tgN 5) (yesT) (callF m_power (consA (var 3) (consA (var 5) (nilA)))) [5]))) (setS 2 (frzR (lc2O (itF (var 2)) (tgN 6) yesT (itF (var 4)) (tgN 7) yesT (bin mulD (var 6) (pkF 7)) [6, 7] [7]))))) (seqS (exprS (callF m_need_small (consA (un maxD (pkF 2)) (nilA)))) (retS (un sortD (pkF 2)))))
def m_sums_of : Fn := runF 2 8 b_sums_of
theorem sc_sums_of : FnScope ["one", "two", "found", "prime", "parts", "exponent", "number", "part"] ["one", "two"] (defScope st_sums_of) := ⟨rfl, rfl, rfl, by decide +kernel, rfl, by decide +kernel, by decide +kernel⟩
theorem p_sums_of (D : IsDef K mg "sums_of" st_sums_of) (h_need_small : Has P w K mg base "need_small" ["denominator"] m_need_small 1) (h_common_multiple : Has P w K mg base "common_multiple" ["one", "other"] m_common_multiple 2) (h_primes_of : Has P w K mg base "primes_of" ["number"] m_primes_of 2) (h_exponents_for : Has P w K mg base "exponents_for" ["one", "two", "prime"] m_exponents_for 3) (h_power : Has P w K mg base "power" ["base", "exponent"] m_power 1) (n_sorted : mg "sorted" = none) (n_max : mg "max" = none) : Has P w K mg base "sums_of" ["one", "two"] m_sums_of 4 := by
  have nd := sc_sums_of.nd
  refine has0 (N := ["one", "two", "found", "prime", "parts", "exponent", "number", "part"]) (ps := ["one", "two"]) (k := 3) (body := b_sums_of) D sc_sums_of (by decide) (fun _ _ _ _ _ _ us hl => match us, hl with | [_, _], _ => rfl) ?_
  intro f cdv A outer s H E hr hq hc
  exact ds_cons (ds_set 2 nd (de_lst (da_cons (de_int) (da_nil)))) (ds_cons (ds_for PassesOwn.never rfl (di_all (de_h h_primes_of hr hq (by decide) rfl (da_cons (de_h h_common_multiple hr hq (by decide) rfl (da_cons (de_var 0) (da_cons (de_var 1) (da_nil)))) (da_nil)))) (dg_name 3 nd) (ds_cons (ds_set 4 nd (de_do (do_lc rfl nd (own := [("exponent", 5)]) (di_all (de_h h_exponents_for hr hq (by decide) rfl (da_cons (de_var 0) (da_cons (de_var 1) (da_cons (de_var 3) (da_nil)))))) (blkOk_by (by kernel_rfl)) (fun _ _ _ _ _ => dg_name 5 nd) (fun _ _ _ _ _ => dts_nil) (fun _ _ _ _ _ => de_h h_power hr hq (by decide) rfl (da_cons (de_var 3) (da_cons (de_var 5) (da_nil)))) (by decide)))) (ds_one (ds_setLc2 2 rfl nd (sw_true rfl rfl rfl (by decide +kernel)) (own := [("number", 6), ("part", 7)]) (vs1 := [7]) (di_all (de_var 2)) (blkOk_by (by kernel_rfl)) (by decide) (fun _ _ _ _ _ => dg_name 6 nd) (fun _ _ _ _ _ => dts_nil) (fun _ _ _ _ _ => di_all (de_var 4)) (fun _ _ _ _ _ => dg_name 7 nd) (fun _ _ _ _ _ => dts_nil) (fun _ _ _ _ _ => de_mul (de_var 6) (dk_var 7)) (by decide) (by decide))))) (ds_cons (ds_expr (de_h h_need_small hr hq (by decide) rfl (da_cons (de_max rfl rfl n_max (dk_var 2)) (da_nil)))) (ds_one (ds_ret (de_sorted rfl rfl n_sorted (dk_var 2))))))
/-! ### sum_denominators -/
abbrev st_sum_denominators : Stmt := top 54
def b_sum_denominators : Rho → SR := seqS (exprS (callF m_need_denominator (consA (var 0) (nilA)))) (seqS (exprS (callF m_need_denominator (consA (var 1) (nilA)))) (retS (un tupleD (callF m_sums_of (consA (var 0) (consA (var 1) (nilA)))))))
def m_sum_denominators : Fn := runF 2 2 b_sum_denominators
theorem sc_sum_denominators : FnScope ["one", "two"] ["one", "two"] (defScope st_sum_denominators) := ⟨rfl, rfl, rfl, by decide +kernel, rfl, by decide +kernel, by decide +kernel⟩
theorem p_sum_denominators (D : IsDef K mg "sum_denominators" st_sum_denominators) (h_sums_of : Has P w K mg base "sums_of" ["one", "two"] m_sums_of 4) (h_need_denominator : Has P w K mg base "need_denominator" ["value"] m_need_denominator 3) (n_tuple : mg "tuple" = none) : HasL P w K mg base "sum_denominators" st_sum_denominators ["one", "two"] m_sum_denominators 5 := by
  have nd := sc_sum_denominators.nd
  refine hasL0 (N := ["one", "two"]) (ps := ["one", "two"]) (k := 4) (body := b_sum_denominators) D sc_sum_denominators (by decide) (fun _ _ _ _ _ _ us hl => match us, hl with | [_, _], _ => rfl) ?_
  intro f cdv A outer s H E hr hq hc
  exact ds_cons (ds_expr (de_h h_need_denominator hr hq (by decide) rfl (da_cons (de_var 0) (da_nil)))) (ds_cons (ds_expr (de_h h_need_denominator hr hq (by decide) rfl (da_cons (de_var 1) (da_nil)))) (ds_one (ds_ret (de_tuple rfl n_tuple (dk_of (de_h h_sums_of hr hq (by decide) rfl (da_cons (de_var 0) (da_cons (de_var 1) (da_nil)))))))))
/-! ### sum_periods -/
abbrev st_sum_periods : Stmt := top 55
def b_sum_periods : Rho → SR := seqS (exprS (callF m_need_base (consA (var 0) (nilA)))) (retS (un tupleD (un sortD (frzR (dcO (itF (callF m_sum_denominators (consA (var 1) (consA (var 2) (nilA))))) (tgN 3) (yesT) (callF m_period_of (consA (var 0) (consA (var 3) (nilA)))) (cst (.bl true)) [3])))))
def m_sum_periods : Fn := runF 3 4 b_sum_periods
theorem sc_sum_periods : FnScope ["base", "one", "two", "number"] ["base", "one", "two"] (defScope st_sum_periods) := ⟨rfl, rfl, rfl, by decide +kernel, rfl, by decide +kernel, by decide +kernel⟩
theorem p_sum_periods (D : IsDef K mg "sum_periods" st_sum_periods) (h_sum_denominators : Has P w K mg base "sum_denominators" ["one", "two"] m_sum_denominators 5) (h_period_of : Has P w K mg base "period_of" ["base", "denominator"] m_period_of 3) (h_need_base : Has P w K mg base "need_base" ["value"] m_need_base 3) (n_sorted : mg "sorted" = none) (n_tuple : mg "tuple" = none) : HasL P w K mg base "sum_periods" st_sum_periods ["base", "one", "two"] m_sum_periods 6 := by
  have nd := sc_sum_periods.nd
  refine hasL0 (N := ["base", "one", "two", "number"]) (ps := ["base", "one", "two"]) (k := 5) (body := b_sum_periods) D sc_sum_periods (by decide) (fun _ _ _ _ _ _ us hl => match us, hl with | [_, _, _], _ => rfl) ?_
  intro f cdv A outer s H E hr hq hc
  exact ds_cons (ds_expr (de_h h_need_base hr hq (by decide) rfl (da_cons (de_var 0) (da_nil)))) (ds_one (ds_ret (de_tuple rfl n_tuple (dk_of (de_sorted rfl rfl n_sorted (dk_of (de_do (do_dc rfl nd (own := [("number", 3)]) (di_all (de_h h_sum_denominators hr hq (by decide) rfl (da_cons (de_var 1) (da_cons (de_var 2) (da_nil))))) (blkOk_by (by kernel_rfl)) (fun _ _ _ _ _ => dg_name 3 nd) (fun _ _ _ _ _ => dts_nil) (fun _ _ _ _ _ => de_h h_period_of hr hq (by decide) rfl (da_cons (de_var 0) (da_cons (de_var 3) (da_nil)))) (fun _ _ _ _ _ => de_bl) (by decide)))))))))
/-! ### need_pure -/
abbrev st_need_pure : Stmt := top 28
def b_need_pure : Rho → SR := seqS (ifS (notT (truF (callF m_is_pure (consA (callF m_need_base (consA (var 0) (nilA))) (consA (callF m_need_denominator (consA (var 1) (nilA))) (nilA)))))) (badS) (skipS)) (retS (var 1))
def m_need_pure : Fn := runF 2 2 b_need_pure
theorem sc_need_pure : FnScope ["base", "denominator"] ["base", "denominator"] (defScope st_need_pure) := ⟨rfl, rfl, rfl, by decide +kernel, rfl, by decide +kernel, by decide +kernel⟩
theorem p_need_pure (D : IsDef K mg "need_pure" st_need_pure) (h_need_denominator : Has P w K mg base "need_denominator" ["value"] m_need_denominator 3) (h_need_base : Has P w K mg base "need_base" ["value"] m_need_base 3) (h_is_pure : Has P w K mg base "is_pure" ["base", "denominator"] m_is_pure 2) : Has P w K mg base "need_pure" ["base", "denominator"] m_need_pure 4 := by
  have nd := sc_need_pure.nd
  refine has0 (N := ["base", "denominator"]) (ps := ["base", "denominator"]) (k := 3) (body := b_need_pure) D sc_need_pure (by decide) (fun _ _ _ _ _ _ us hl => match us, hl with | [_, _], _ => rfl) ?_
  intro f cdv A outer s H E hr hq hc
  exact ds_cons (ds_if (dt_not (dt_tru (dk_of (de_h h_is_pure hr hq (by decide) rfl (da_cons (de_h h_need_base hr hq (by decide) rfl (da_cons (de_var 0) (da_nil))) (da_cons (de_h h_need_denominator hr hq (by decide) rfl (da_cons (de_var 1) (da_nil))) (da_nil))))))) (ds_one (ds_never)) (ds_nil)) (ds_one (ds_ret (de_var 1)))
/-! ### counted -/
abbrev st_counted : Stmt := top 77
def b_counted : Rho → SR := seqS (setOS 3 (dctO0)) (seqS (forS (itF (var 2)) (tgN 4) (seqS (setS 5 (bin fdivD (bin mulD (var 0) (pkF 4)) (pkF 1))) (dputS 3 (var 5) (bin addD (getP (0 : Nat) 3 (var 5)) (cst (.int (1 : Nat))))))) (retS (un tupleD (un srtItD (pkF 3)))))
def m_counted : Fn := runF 3 6 b_counted
theorem sc_counted : FnScope ["base", "denominator", "remainders", "counts", "rest", "digit"] ["base", "denominator", "remainders"] (defScope st_counted) := ⟨rfl, rfl, rfl, by decide +kernel, rfl, by decide +kernel, by decide +kernel⟩
theorem p_counted (D : IsDef K mg "counted" st_counted) (n_sorted : mg "sorted" = none) (n_tuple : mg "tuple" = none) : Has P w K mg base "counted" ["base", "denominator", "remainders"] m_counted 1 := by
  have nd := sc_counted.nd
  refine has0 (N := ["base", "denominator", "remainders", "counts", "rest", "digit"]) (ps := ["base", "denominator", "remainders"]) (k := 0) (body := b_counted) D sc_counted (by decide) (fun _ _ _ _ _ _ us hl => match us, hl with | [_, _, _], _ => rfl) ?_
  intro f cdv A outer s H E hr hq hc
  exact ds_cons (ds_setO 3 nd (do_dct0)) (ds_cons (ds_for PassesOwn.never rfl (di_all (de_var 2)) (dg_name 4 nd) (ds_cons (ds_set 5 nd (de_fdiv (de_mul (de_var 0) (dk_var 4)) (dk_var 1))) (ds_one (ds_dput 3 (u1 hr) (pv 3) (de_var 5) (de_add (de_get2 (u1 hr) (pv 3) (de_var 5) ⟨rfl, rfl, rfl, rfl⟩) (dk_of (de_int))))))) (ds_one (ds_ret (de_tuple rfl n_tuple (dk_of (de_sortIt rfl rfl n_sorted (dk_var 3)))))))
/-! ### all_counts -/
abbrev st_all_counts : Stmt := top 80
def b_all_counts : Rho → SR := seqS (exprS (callF m_need_pure (consA (var 0) (consA (var 1) (nilA))))) (seqS (setS 2 (frzR (lcO (rngF rngD1 (consA (var 1) (nilA))) (tgN 3) (tstF (bin eqD (callF m_common_divisor (consA (var 3) (consA (var 1) (nilA)))) (cst (.int (1 : Nat))))) (var 3) [3]))) (retS (callF m_counted (consA (var 0) (consA (var 1) (consA (var 2) (nilA)))))))
def m_all_counts : Fn := runF 2 4 b_all_counts
theorem sc_all_counts : FnScope ["base", "denominator", "some", "rest"] ["base", "denominator"] (defScope st_all_counts) := ⟨rfl, rfl, rfl, by decide +kernel, rfl, by decide +kernel, by decide +kernel⟩
theorem p_all_counts (D : IsDef K mg "all_counts" st_all_counts) (h_counted : Has P w K mg base "counted" ["base", "denominator", "remainders"] m_counted 1) (h_common_divisor : Has P w K mg base "common_divisor" ["one", "other"] m_common_divisor 1) (h_need_pure : Has P w K mg base "need_pure" ["base", "denominator"] m_need_pure 4) (n_range : mg "range" = none) : HasL P w K mg base "all_counts" st_all_counts ["base", "denominator"] m_all_counts 5 := by
  have nd := sc_all_counts.nd
  refine hasL0 (N := ["base", "denominator", "some", "rest"]) (ps := ["base", "denominator"]) (k := 4) (body := b_all_counts) D sc_all_counts (by decide) (fun _ _ _ _ _ _ us hl => match us, hl with | [_, _], _ => rfl) ?_
  intro f cdv A outer s H E hr hq hc
  exact ds_cons (ds_expr (de_h h_need_pure hr hq (by decide) rfl (da_cons (de_var 0) (da_cons (de_var 1) (da_nil))))) (ds_cons (ds_setLc 2 rfl nd (sw_true rfl rfl rfl (by decide +kernel)) (own := [("rest", 3)]) (di_range1 rfl n_range (da_cons (de_var 1) (da_nil))) (blkOk_by (by kernel_rfl)) (fun _ _ _ _ _ => dg_name 3 nd) (fun _ _ _ _ _ => dts_one (dt_cmp (opr_eq (u64 hr)) (opd_eq _) (nomark _) (de_h h_common_divisor hr hq (by decide) rfl (da_cons (de_var 3) (da_cons (de_var 1) (da_nil)))) (dk_of (de_int)))) (fun _ _ _ _ _ => de_var 3) (by decide)) (ds_one (ds_ret (de_h h_counted hr hq (by decide) rfl (da_cons (de_var 0) (da_cons (de_var 1) (da_cons (de_var 2) (da_nil))))))))
/-! ### are_pairs -/
abbrev st_are_pairs : Stmt := top 90
def b_are_pairs : Rho → SR := seqS (ifS (orT (notT (truF (un allD (frzR (lcO (itF (var 0)) (tgN 3) (yesT) (andV (un (isiD .tuple) (pkF 3)) (bin eqD (un lenD (pkF 3)) (cst (.int (2 : Nat))))) [3]))))) (tstF (bin neD (un lenD (pkF 0)) (un lenD (pkF 1))))) (retS (cst (.bl false))) (skipS)) (seqS (forS (rngF zipX (consA (var 0) (consA (var 1) (nilA)))) (tgT [3, 4]) (ifS (orT (notT (truF (callF m_is_whole (consA (bin ixD (var 3) (cst (.int (0 : Nat)))) (consA (bin ixD (var 4) (cst (.int (0 : Nat)))) (consA (bin ixD (var 4) (cst (.int (0 : Nat)))) (nilA))))))) (orT (notT (truF (callF m_is_whole (consA (bin ixD (var 3) (cst (.int (1 : Nat)))) (consA (bin ixD (var 4) (cst (.int (1 : Nat)))) (consA (bin ixD (var 4) (cst (.int (1 : Nat)))) (nilA))))))) (tstF (bin eqD (bin ixD (var 4) (cst (.int (1 : Nat)))) (bin modD (cst (.int (1 : Nat))) (pkF 2)))))) (retS (cst (.bl false))) (skipS))) (retS (cst (.bl true))))
def m_are_pairs : Fn := runF 3 5 b_are_pairs
theorem sc_are_pairs : FnScope ["value", "due", "pure", "pair", "own"] ["value", "due", "pure"] (defScope st_are_pairs) := ⟨rfl, rfl, rfl, by decide +kernel, rfl, by decide +kernel, by decide +kernel⟩
theorem p_are_pairs (D : IsDef K mg "are_pairs" st_are_pairs) (h_is_whole : Has P w K mg base "is_whole" ["value", "least", "most"] m_is_whole 2) (n_zip : mg "zip" = none) (n_len : mg "len" = none) (n_isinstance : mg "isinstance" = none) (n_tuple : mg "tuple" = none) (n_all : mg "all" = none) : Has P w K mg base "are_pairs" ["value", "due", "pure"] m_are_pairs 3 := by
  have nd := sc_are_pairs.nd
  refine has0 (N := ["value", "due", "pure", "pair", "own"]) (ps := ["value", "due", "pure"]) (k := 2) (body := b_are_pairs) D sc_are_pairs (by decide) (fun _ _ _ _ _ _ us hl => match us, hl with | [_, _, _], _ => rfl) ?_
  intro f cdv A outer s H E hr hq hc
  exact ds_cons (ds_if (dt_w (dw_or (dt_not (dt_tru (dk_of (de_all rfl rfl n_all (dk_of (de_do (do_lc rfl nd (own := [("pair", 3)]) (di_all (de_var 0)) (blkOk_by (by kernel_rfl)) (fun _ _ _ _ _ => dg_name 3 nd) (fun _ _ _ _ _ => dts_nil) (fun _ _ _ _ _ => de_and (de_isi .tuple (by decide) rfl n_isinstance rfl n_tuple (by decide +kernel) (dk_var 3)) (de_one (de_cmp (opr_eq (u64 hr)) (opd_eq _) (nomark _) (de_len rfl n_len (dk_var 3)) (dk_of (de_int))))) (by decide)))))))) (dw_or1 (dt_cmp (opr_ne (u64 hr)) (opd_ne _) (nomark _) (de_len rfl n_len (dk_var 0)) (dk_of (de_len rfl n_len (dk_var 1))))))) (ds_one (ds_ret (de_bl))) (ds_nil)) (ds_cons (ds_for PassesOwn.never rfl (di_zipX rfl n_zip (da_cons (de_var 0) (da_cons (de_var 1) (da_nil)))) (dg_tup rfl (dgs_cons 3 nd (dgs_cons 4 nd (dgs_nil)))) (ds_one (ds_if (dt_w (dw_or (dt_not (dt_tru (dk_of (de_h h_is_whole hr hq (by decide) rfl (da_cons (de_ix (u1 hr) (de_var 3) (dk_of (de_int)) (fun _ _ => rfl)) (da_cons (de_ix (u1 hr) (de_var 4) (dk_of (de_int)) (fun _ _ => rfl)) (da_cons (de_ix (u1 hr) (de_var 4) (dk_of (de_int)) (fun _ _ => rfl)) (da_nil)))))))) (dw_or (dt_not (dt_tru (dk_of (de_h h_is_whole hr hq (by decide) rfl (da_cons (de_ix (u1 hr) (de_var 3) (dk_of (de_int)) (fun _ _ => rfl)) (da_cons (de_ix (u1 hr) (de_var 4) (dk_of (de_int)) (fun _ _ => rfl)) (da_cons (de_ix (u1 hr) (de_var 4) (dk_of (de_int)) (fun _ _ => rfl)) (da_nil)))))))) (dw_or1 (dt_cmp (opr_eq (u64 hr)) (opd_eq _) (nomark _) (de_ix (u1 hr) (de_var 4) (dk_of (de_int)) (fun _ _ => rfl)) (dk_of (de_mod (de_int) (dk_var 2)))))))) (ds_one (ds_ret (de_bl))) (ds_nil)))) (ds_one (ds_ret (de_bl))))
/-! ### check_period -/
abbrev st_check_period : Stmt := top 91
def b_check_period : Rho → SR := seqS (setS 3 (callF m_pure_part_of (consA (callF m_need_base (consA (var 0) (nilA))) (consA (callF m_need_denominator (consA (var 1) (nilA))) (nilA))))) (seqS (ifS (orT (notT (truF (un (isiD .tuple) (pkF 2)))) (orT (tstF (bin neD (un lenD (pkF 2)) (cst (.int (2 : Nat))))) (notT (truF (callF m_is_whole (consA (bin ixD (var 2) (cst (.int (0 : Nat)))) (consA (cst (.int (1 : Nat))) (consA (cst (.int (5000 : Nat))) (nilA))))))))) (badS) (skipS)) (seqS (ifS (notT (truF (un (isiD .tuple) (bin ixD (var 2) (cst (.int (1 : Nat))))))) (badS) (skipS)) (seqS (ifS (tstF (bin neD (callF m_power_rest (consA (var 0) (consA (bin ixD (var 2) (cst (.int (0 : Nat)))) (consA (var 3) (nilA))))) (bin modD (cst (.int (1 : Nat))) (pkF 3)))) (badS) (skipS)) (seqS (ifS (notT (truF (callF m_are_pairs (consA (bin ixD (var 2) (cst (.int (1 : Nat)))) (consA (callF m_pairs_of (consA (var 0) (consA (var 3) (consA (bin ixD (var 2) (cst (.int (0 : Nat)))) (nilA))))) (consA (var 3) (nilA))))))) (badS) (skipS)) (retS (bin ixD (var 2) (cst (.int (0 : Nat)))))))))
def m_check_period : Fn := runF 3 4 b_check_period
theorem sc_check_period : FnScope ["base", "denominator", "paper", "pure"] ["base", "denominator", "paper"] (defScope st_check_period) := ⟨rfl, rfl, rfl, by decide +kernel, rfl, by decide +kernel, by decide +kernel⟩
theorem p_check_period (D : IsDef K mg "check_period" st_check_period) (h_pairs_of : Has P w K mg base "pairs_of" ["base", "pure", "length"] m_pairs_of 3) (h_are_pairs : Has P w K mg base "are_pairs" ["value", "due", "pure"] m_are_pairs 3) (h_power_rest : Has P w K mg base "power_rest" ["base", "exponent", "divisor"] m_power_rest 1) (h_is_whole : Has P w K mg base "is_whole" ["value", "least", "most"] m_is_whole 2) (h_need_denominator : Has P w K mg base "need_denominator" ["value"] m_need_denominator 3) (h_need_base : Has P w K mg base "need_base" ["value"] m_need_base 3) (h_pure_part_of : Has P w K mg base "pure_part_of" ["base", "denominator"] m_pure_part_of 2) (n_isinstance : mg "isinstance" = none) (n_tuple : mg "tuple" = none) (n_len : mg "len" = none) (g_MOST_DENOMINATOR : ∃ t, mg "MOST_DENOMINATOR" = some (.int 5000 t)) : HasL P w K mg base "check_period" st_check_period ["base", "denominator", "paper"] m_check_period 4 := by
  obtain ⟨_, g_MOST_DENOMINATOR⟩ := g_MOST_DENOMINATOR
  have nd := sc_check_period.nd
  refine hasL0 (N := ["base", "denominator", "paper", "pure"]) (ps := ["base", "denominator", "paper"]) (k := 3) (body := b_check_period) D sc_check_period (by decide) (fun _ _ _ _ _ _ us hl => match us, hl with | [_, _, _], _ => rfl) ?_
  intro f cdv A outer s H E hr hq hc
  exact ds_cons (ds_set 3 nd (de_h h_pure_part_of hr hq (by decide) rfl (da_cons (de_h h_need_base hr hq (by decide) rfl (da_cons (de_var 0) (da_nil))) (da_cons (de_h h_need_denominator hr hq (by decide) rfl (da_cons (de_var 1) (da_nil))) (da_nil))))) (ds_cons (ds_if (dt_w (dw_or (dt_not (dt_tru (dk_of (de_isi .tuple (by decide) rfl n_isinstance rfl n_tuple (by decide +kernel) (dk_var 2))))) (dw_or (dt_cmp (opr_ne (u64 hr)) (opd_ne _) (nomark _) (de_len rfl n_len (dk_var 2)) (dk_of (de_int))) (dw_or1 (dt_not (dt_tru (dk_of (de_h h_is_whole hr hq (by decide) rfl (da_cons (de_ix (u1 hr) (de_var 2) (dk_of (de_int)) (fun _ _ => rfl)) (da_cons (de_int) (da_cons (de_gi rfl g_MOST_DENOMINATOR) (da_nil)))))))))))) (ds_one (ds_never)) (ds_nil)) (ds_cons (ds_if (dt_not (dt_tru (dk_of (de_isi .tuple (by decide) rfl n_isinstance rfl n_tuple (by decide +kernel) (dk_of (de_ix (u1 hr) (de_var 2) (dk_of (de_int)) (fun _ _ => rfl))))))) (ds_one (ds_never)) (ds_nil)) (ds_cons (ds_if (dt_cmp (opr_ne (u64 hr)) (opd_ne _) (nomark _) (de_h h_power_rest hr hq (by decide) rfl (da_cons (de_var 0) (da_cons (de_ix (u1 hr) (de_var 2) (dk_of (de_int)) (fun _ _ => rfl)) (da_cons (de_var 3) (da_nil))))) (dk_of (de_mod (de_int) (dk_var 3)))) (ds_one (ds_never)) (ds_nil)) (ds_cons (ds_if (dt_not (dt_tru (dk_of (de_h h_are_pairs hr hq (by decide) rfl (da_cons (de_ix (u1 hr) (de_var 2) (dk_of (de_int)) (fun _ _ => rfl)) (da_cons (de_h h_pairs_of hr hq (by decide) rfl (da_cons (de_var 0) (da_cons (de_var 3) (da_cons (de_ix (u1 hr) (de_var 2) (dk_of (de_int)) (fun _ _ => rfl)) (da_nil))))) (da_cons (de_var 3) (da_nil)))))))) (ds_one (ds_never)) (ds_nil)) (ds_one (ds_ret (de_ix (u1 hr) (de_var 2) (dk_of (de_int)) (fun _ _ => rfl))))))))
/-! ### is_fraction -/
abbrev st_is_fraction : Stmt := top 19
def b_is_fraction : Rho → SR := seqS (ifS (orT (notT (truF (un (isiD .tuple) (pkF 0)))) (orT (tstF (bin neD (un lenD (pkF 0)) (cst (.int (2 : Nat))))) (notT (truF (callF m_is_whole (consA (bin ixD (var 0) (cst (.int (1 : Nat)))) (consA (cst (.int (1 : Nat))) (consA (cst (.int (5000 : Nat))) (nilA))))))))) (retS (cst (.bl false))) (skipS)) (retS (andV (callF m_is_whole (consA (bin ixD (var 0) (cst (.int (0 : Nat)))) (consA (cst (.int (0 : Nat))) (consA (bin subD (bin ixD (var 0) (cst (.int (1 : Nat)))) (cst (.int (1 : Nat)))) (nilA))))) (bin eqD (callF m_common_divisor (consA (bin ixD (var 0) (cst (.int (0 : Nat)))) (consA (bin ixD (var 0) (cst (.int (1 : Nat)))) (nilA)))) (cst (.int (1 : Nat))))))
def m_is_fraction : Fn := runF 1 1 b_is_fraction
theorem sc_is_fraction : FnScope ["value"] ["value"] (defScope st_is_fraction) := ⟨rfl, rfl, rfl, by decide +kernel, rfl, by decide +kernel, by decide +kernel⟩
theorem p_is_fraction (D : IsDef K mg "is_fraction" st_is_fraction) (h_common_divisor : Has P w K mg base "common_divisor" ["one", "other"] m_common_divisor 1) (h_is_whole : Has P w K mg base "is_whole" ["value", "least", "most"] m_is_whole 2) (n_len : mg "len" = none) (n_isinstance : mg "isinstance" = none) (n_tuple : mg "tuple" = none) (g_MOST_DENOMINATOR : ∃ t, mg "MOST_DENOMINATOR" = some (.int 5000 t)) : Has P w K mg base "is_fraction" ["value"] m_is_fraction 3 := by
  obtain ⟨_, g_MOST_DENOMINATOR⟩ := g_MOST_DENOMINATOR
  have nd := sc_is_fraction.nd
  refine has0 (N := ["value"]) (ps := ["value"]) (k := 2) (body := b_is_fraction) D sc_is_fraction (by decide) (fun _ _ _ _ _ _ us hl => match us, hl with | [_], _ => rfl) ?_
  intro f cdv A outer s H E hr hq hc
  exact ds_cons (ds_if (dt_w (dw_or (dt_not (dt_tru (dk_of (de_isi .tuple (by decide) rfl n_isinstance rfl n_tuple (by decide +kernel) (dk_var 0))))) (dw_or (dt_cmp (opr_ne (u64 hr)) (opd_ne _) (nomark _) (de_len rfl n_len (dk_var 0)) (dk_of (de_int))) (dw_or1 (dt_not (dt_tru (dk_of (de_h h_is_whole hr hq (by decide) rfl (da_cons (de_ix (u1 hr) (de_var 0) (dk_of (de_int)) (fun _ _ => rfl)) (da_cons (de_int) (da_cons (de_gi rfl g_MOST_DENOMINATOR) (da_nil)))))))))))) (ds_one (ds_ret (de_bl))) (ds_nil)) (ds_one (ds_ret (de_and (de_h h_is_whole hr hq (by decide) rfl (da_cons (de_ix (u1 hr) (de_var 0) (dk_of (de_int)) (fun _ _ => rfl)) (da_cons (de_int) (da_cons (de_sub (de_ix (u1 hr) (de_var 0) (dk_of (de_int)) (fun _ _ => rfl)) (dk_of (de_int))) (da_nil))))) (de_one (de_cmp (opr_eq (u64 hr)) (opd_eq _) (nomark _) (de_h h_common_divisor hr hq (by decide) rfl (da_cons (de_ix (u1 hr) (de_var 0) (dk_of (de_int)) (fun _ _ => rfl)) (da_cons (de_ix (u1 hr) (de_var 0) (dk_of (de_int)) (fun _ _ => rfl)) (da_nil)))) (dk_of (de_int)))))))
/-! ### need_fraction -/
abbrev st_need_fraction : Stmt := top 20
def b_need_fraction : Rho → SR := seqS (ifS (notT (truF (callF m_is_fraction (consA (var 0) (nilA))))) (badS) (skipS)) (retS (var 0))
def m_need_fraction : Fn := runF 1 1 b_need_fraction
theorem sc_need_fraction : FnScope ["value"] ["value"] (defScope st_need_fraction) := ⟨rfl, rfl, rfl, by decide +kernel, rfl, by decide +kernel, by decide +kernel⟩
theorem p_need_fraction (D : IsDef K mg "need_fraction" st_need_fraction) (h_is_fraction : Has P w K mg base "is_fraction" ["value"] m_is_fraction 3) : Has P w K mg base "need_fraction" ["value"] m_need_fraction 4 := by
  have nd := sc_need_fraction.nd
  refine has0 (N := ["value"]) (ps := ["value"]) (k := 3) (body := b_need_fraction) D sc_need_fraction (by decide) (fun _ _ _ _ _ _ us hl => match us, hl with | [_], _ => rfl) ?_
  intro f cdv A outer s H E hr hq hc
  exact ds_cons (ds_if (dt_not (dt_tru (dk_of (de_h h_is_fraction hr hq (by decide) rfl (da_cons (de_var 0) (da_nil)))))) (ds_one (ds_never)) (ds_nil)) (ds_one (ds_ret (de_var 0)))
/-! ### sum_of -/
abbrev st_sum_of : Stmt := top 50
def b_sum_of : Rho → SR := seqS (setS 2 (callF m_sum_in (consA (callF m_need_fraction (consA (var 0) (nilA))) (consA (callF m_need_fraction (consA (var 1) (nilA))) (nilA))))) (seqS (exprS (callF m_need_small (consA (bin ixD (var 2) (cst (.int (1 : Nat)))) (nilA)))) (retS (var 2)))
def m_sum_of : Fn := runF 2 3 b_sum_of
theorem sc_sum_of : FnScope ["fraction", "other", "found"] ["fraction", "other"] (defScope st_sum_of) := ⟨rfl, rfl, rfl, by decide +kernel, rfl, by decide +kernel, by decide +kernel⟩
theorem p_sum_of (D : IsDef K mg "sum_of" st_sum_of) (h_need_small : Has P w K mg base "need_small" ["denominator"] m_need_small 1) (h_need_fraction : Has P w K mg base "need_fraction" ["value"] m_need_fraction 4) (h_sum_in : Has P w K mg base "sum_in" ["fraction", "other"] m_sum_in 3) : HasL P w K mg base "sum_of" st_sum_of ["fraction", "other"] m_sum_of 5 := by
  have nd := sc_sum_of.nd
  refine hasL0 (N := ["fraction", "other", "found"]) (ps := ["fraction", "other"]) (k := 4) (body := b_sum_of) D sc_sum_of (by decide) (fun _ _ _ _ _ _ us hl => match us, hl with | [_, _], _ => rfl) ?_
  intro f cdv A outer s H E hr hq hc
  exact ds_cons (ds_set 2 nd (de_h h_sum_in hr hq (by decide) rfl (da_cons (de_h h_need_fraction hr hq (by decide) rfl (da_cons (de_var 0) (da_nil))) (da_cons (de_h h_need_fraction hr hq (by decide) rfl (da_cons (de_var 1) (da_nil))) (da_nil))))) (ds_cons (ds_expr (de_h h_need_small hr hq (by decide) rfl (da_cons (de_ix (u1 hr) (de_var 2) (dk_of (de_int)) (fun _ _ => rfl)) (da_nil)))) (ds_one (ds_ret (de_var 2))))
/-! ### need_pure_fraction -/
abbrev st_need_pure_fraction : Stmt := top 29
def b_need_pure_fraction : Rho → SR := seqS (exprS (callF m_need_base (consA (var 0) (nilA)))) (seqS (ifS (notT (truF (callF m_is_pure (consA (var 0) (consA (bin ixD (callF m_need_fraction (consA (var 1) (nilA))) (cst (.int (1 : Nat)))) (nilA)))))) (badS) (skipS)) (retS (var 1)))
def m_need_pure_fraction : Fn := runF 2 2 b_need_pure_fraction
theorem sc_need_pure_fraction : FnScope ["base", "fraction"] ["base", "fraction"] (defScope st_need_pure_fraction) := ⟨rfl, rfl, rfl, by decide +kernel, rfl, by decide +kernel, by decide +kernel⟩
theorem p_need_pure_fraction (D : IsDef K mg "need_pure_fraction" st_need_pure_fraction) (h_need_fraction : Has P w K mg base "need_fraction" ["value"] m_need_fraction 4) (h_is_pure : Has P w K mg base "is_pure" ["base", "denominator"] m_is_pure 2) (h_need_base : Has P w K mg base "need_base" ["value"] m_need_base 3) : Has P w K mg base "need_pure_fraction" ["base", "fraction"] m_need_pure_fraction 5 := by
  have nd := sc_need_pure_fraction.nd
  refine has0 (N := ["base", "fraction"]) (ps := ["base", "fraction"]) (k := 4) (body := b_need_pure_fraction) D sc_need_pure_fraction (by decide) (fun _ _ _ _ _ _ us hl => match us, hl with | [_, _], _ => rfl) ?_
  intro f cdv A outer s H E hr hq hc
  exact ds_cons (ds_expr (de_h h_need_base hr hq (by decide) rfl (da_cons (de_var 0) (da_nil)))) (ds_cons (ds_if (dt_not (dt_tru (dk_of (de_h h_is_pure hr hq (by decide) rfl (da_cons (de_var 0) (da_cons (de_ix (u1 hr) (de_h h_need_fraction hr hq (by decide) rfl (da_cons (de_var 1) (da_nil))) (dk_of (de_int)) (fun _ _ => rfl)) (da_nil))))))) (ds_one (ds_never)) (ds_nil)) (ds_one (ds_ret (de_var 1))))
/-! ### wheel_of -/
abbrev st_wheel_of : Stmt := top 75
def b_wheel_of : Rho → SR := seqS (setOS 3 (lstO (consA (var 1) (nilA)))) (seqS (setS 4 (bin modD (bin mulD (var 1) (pkF 0)) (pkF 2))) (seqS (whS (tstF (bin neD (var 4) (pkF 1))) (seqS (appS 3 (var 4)) (setS 4 (bin modD (bin mulD (var 4) (pkF 0)) (pkF 2)))) 1000000) (retS (var 3))))
def m_wheel_of : Fn := runF 3 5 b_wheel_of
theorem sc_wheel_of : FnScope ["base", "numerator", "denominator", "found", "rest"] ["base", "numerator", "denominator"] (defScope st_wheel_of) := ⟨rfl, rfl, rfl, by decide +kernel, rfl, by decide +kernel, by decide +kernel⟩
theorem p_wheel_of (D : IsDef K mg "wheel_of" st_wheel_of) : Has P w K mg base "wheel_of" ["base", "numerator", "denominator"] m_wheel_of 1 := by
  have nd := sc_wheel_of.nd
  refine has0 (N := ["base", "numerator", "denominator", "found", "rest"]) (ps := ["base", "numerator", "denominator"]) (k := 0) (body := b_wheel_of) D sc_wheel_of (by decide) (fun _ _ _ _ _ _ us hl => match us, hl with | [_, _, _], _ => rfl) ?_
  intro f cdv A outer s H E hr hq hc
  exact ds_cons (ds_setO 3 nd (do_lst (da_cons (de_var 1) (da_nil)))) (ds_cons (ds_set 4 nd (de_mod (de_mul (de_var 1) (dk_var 0)) (dk_var 2))) (ds_cons (ds_while 1000000 PassesOwn.never (dt_cmp (opr_ne (u64 hr)) (opd_ne _) (nomark _) (de_var 4) (dk_var 1)) (ds_cons (ds_app 3 (pv 3) (de_var 4)) (ds_one (ds_set 4 nd (de_mod (de_mul (de_var 4) (dk_var 0)) (dk_var 2)))))) (ds_one (ds_ret (de_var 3)))))
/-! ### digit_counts -/
abbrev st_digit_counts : Stmt := top 78
def b_digit_counts : Rho → SR := seqS (exprS (callF m_need_pure_fraction (consA (var 0) (consA (var 1) (nilA))))) (retS (callF m_counted (consA (var 0) (consA (bin ixD (var 1) (cst (.int (1 : Nat)))) (consA (callF m_wheel_of (consA (var 0) (consA (bin ixD (var 1) (cst (.int (0 : Nat)))) (consA (bin ixD (var 1) (cst (.int (1 : Nat)))) (nilA))))) (nilA))))))
def m_digit_counts : Fn := runF 2 2 b_digit_counts
theorem sc_digit_counts : FnScope ["base", "fraction"] ["base", "fraction"] (defScope st_digit_counts) := ⟨rfl, rfl, rfl, by decide +kernel, rfl, by decide +kernel, by decide +kernel⟩
theorem p_digit_counts (D : IsDef K mg "digit_counts" st_digit_counts) (h_wheel_of : Has P w K mg base "wheel_of" ["base", "numerator", "denominator"] m_wheel_of 1) (h_counted : Has P w K mg base "counted" ["base", "denominator", "remainders"] m_counted 1) (h_need_pure_fraction : Has P w K mg base "need_pure_fraction" ["base", "fraction"] m_need_pure_fraction 5) : HasL P w K mg base "digit_counts" st_digit_counts ["base", "fraction"] m_digit_counts 6 := by
  have nd := sc_digit_counts.nd
  refine hasL0 (N := ["base", "fraction"]) (ps := ["base", "fraction"]) (k := 5) (body := b_digit_counts) D sc_digit_counts (by decide) (fun _ _ _ _ _ _ us hl => match us, hl with | [_, _], _ => rfl) ?_
  intro f cdv A outer s H E hr hq hc
  exact ds_cons (ds_expr (de_h h_need_pure_fraction hr hq (by decide) rfl (da_cons (de_var 0) (da_cons (de_var 1) (da_nil))))) (ds_one (ds_ret (de_h h_counted hr hq (by decide) rfl (da_cons (de_var 0) (da_cons (de_ix (u1 hr) (de_var 1) (dk_of (de_int)) (fun _ _ => rfl)) (da_cons (de_h h_wheel_of hr hq (by decide) rfl (da_cons (de_var 0) (da_cons (de_ix (u1 hr) (de_var 1) (dk_of (de_int)) (fun _ _ => rfl)) (da_cons (de_ix (u1 hr) (de_var 1) (dk_of (de_int)) (fun _ _ => rfl)) (da_nil))))) (da_nil)))))))
/-! ### digit_sum -/
abbrev st_digit_sum : Stmt := top 79
def b_digit_sum : Rho → SR := retS (un sumD (frzR (lcO (itF (callF m_digit_counts (consA (var 0) (consA (var 1) (nilA))))) (tgT [2, 3]) (yesT) (bin mulD (var 2) (pkF 3)) [2, 3])))
def m_digit_sum : Fn := runF 2 4 b_digit_sum
theorem sc_digit_sum : FnScope ["base", "fraction", "digit", "count"] ["base", "fraction"] (defScope st_digit_sum) := ⟨rfl, rfl, rfl, by decide +kernel, rfl, by decide +kernel, by decide +kernel⟩
theorem p_digit_sum (D : IsDef K mg "digit_sum" st_digit_sum) (h_digit_counts : Has P w K mg base "digit_counts" ["base", "fraction"] m_digit_counts 6) (n_sum : mg "sum" = none) : HasL P w K mg base "digit_sum" st_digit_sum ["base", "fraction"] m_digit_sum 7 := by
  have nd := sc_digit_sum.nd
  refine hasL0 (N := ["base", "fraction", "digit", "count"]) (ps := ["base", "fraction"]) (k := 6) (body := b_digit_sum) D sc_digit_sum (by decide) (fun _ _ _ _ _ _ us hl => match us, hl with | [_, _], _ => rfl) ?_
  intro f cdv A outer s H E hr hq hc
  exact ds_one (ds_ret (de_sum rfl rfl n_sum (dk_of (de_do (do_lc rfl nd (own := [("digit", 2), ("count", 3)]) (di_all (de_h h_digit_counts hr hq (by decide) rfl (da_cons (de_var 0) (da_cons (de_var 1) (da_nil))))) (blkOk_by (by kernel_rfl)) (fun _ _ _ _ _ => dg_tup rfl (dgs_cons 2 nd (dgs_cons 3 nd (dgs_nil)))) (fun _ _ _ _ _ => dts_nil) (fun _ _ _ _ _ => de_mul (de_var 2) (dk_var 3)) (by decide))))))
/-! ### _law_periods_right -/
abbrev st__law_periods_right : Stmt := top 125
def b__law_periods_right : Rho → SR := seqS (parP [4, 5, 6] [frO (callF m_period_paper (consA (var 0) (consA (var 1) (nilA)))), frO (tupD (consA (cst (.int (1 : Nat))) (consA (cst (.int (7 : Nat))) (nilA)))), frO (tupD (consA (cst (.int (2 : Nat))) (consA (cst (.int (9 : Nat))) (nilA))))]) (seqS (setOS 2 (lstO (consA (callF (kwF [1, 0] 2 m_residues_with) (consA (cst (.int (2 : Nat))) (consA (var 1) (nilA)))) (consA (callF (kwF [0] 1 m_spread) (consA (var 1) (nilA))) (consA (callF (kwF [0] 1 m_greatest_period) (consA (var 1) (nilA))) (nilA)))))) (seqS (setOS 2 (catPO 2 (lstD (consA (callF (kwF [1, 0] 2 m_bases_with) (consA (cst (.int (2 : Nat))) (consA (var 1) (nilA)))) (consA (callF (kwF [2, 1, 0] 3 m_denominators_with) (consA (cst (.int (50 : Nat))) (consA (cst (.int (6 : Nat))) (consA (var 0) (nilA))))) (nilA)))))) (seqS (setOS 2 (catPO 2 (lstD (consA (callF (kwF [1, 0] 2 m_period_paper) (consA (var 1) (consA (var 0) (nilA)))) (consA (callF (kwF [2, 1, 0] 3 m_check_period) (consA (var 4) (consA (var 1) (consA (var 0) (nilA))))) (nilA)))))) (seqS (setOS 2 (catPO 2 (lstD (consA (callF (kwF [1, 0] 2 m_sum_of) (consA (var 6) (consA (var 5) (nilA)))) (consA (callF (kwF [1, 0] 2 m_sum_denominators) (consA (cst (.int (12 : Nat))) (consA (var 1) (nilA)))) (nilA)))))) (seqS (appS 2 (callF (kwF [2, 1, 0] 3 m_sum_periods) (consA (cst (.int (12 : Nat))) (consA (var 1) (consA (var 0) (nilA)))))) (seqS (setOS 2 (catPO 2 (lstD (consA (callF (kwF [2, 1, 0] 3 m_sum_example) (consA (cst (.int (9 : Nat))) (consA (cst (.int (9 : Nat))) (consA (cst (.int (3 : Nat))) (nilA))))) (consA (callF (kwF [1, 0] 2 m_digit_sum) (consA (var 5) (consA (cst (.int (10 : Nat))) (nilA)))) (nilA)))))) (seqS (setOS 2 (catPO 2 (lstD (consA (callF (kwF [1, 0] 2 m_digit_counts) (consA (var 5) (consA (cst (.int (10 : Nat))) (nilA)))) (consA (callF (kwF [1, 0] 2 m_all_counts) (consA (cst (.int (13 : Nat))) (consA (cst (.int (10 : Nat))) (nilA)))) (nilA)))))) (seqS (setOS 3 (lstO (consA (callF m_residues_with (consA (var 1) (consA (cst (.int (2 : Nat))) (nilA)))) (consA (callF m_spread (consA (var 1) (nilA))) (consA (callF m_greatest_period (consA (var 1) (nilA))) (consA (callF m_bases_with (consA (var 1) (consA (cst (.int (2 : Nat))) (nilA)))) (consA (callF m_denominators_with (consA (var 0) (consA (cst (.int (6 : Nat))) (consA (cst (.int (50 : Nat))) (nilA))))) (nilA)))))))) (seqS (setOS 3 (catPO 3 (lstD (consA (callF m_period_paper (consA (var 0) (consA (var 1) (nilA)))) (consA (callF m_check_period (consA (var 0) (consA (var 1) (consA (var 4) (nilA))))) (consA (callF m_sum_of (consA (var 5) (consA (var 6) (nilA)))) (consA (callF m_sum_denominators (consA (var 1) (consA (cst (.int (12 : Nat))) (nilA)))) (nilA)))))))) (seqS (setOS 3 (catPO 3 (lstD (consA (callF m_sum_periods (consA (var 0) (consA (var 1) (consA (cst (.int (12 : Nat))) (nilA))))) (consA (callF m_sum_example (consA (cst (.int (3 : Nat))) (consA (cst (.int (9 : Nat))) (consA (cst (.int (9 : Nat))) (nilA))))) (consA (callF m_digit_sum (consA (cst (.int (10 : Nat))) (consA (var 5) (nilA)))) (consA (callF m_digit_counts (consA (cst (.int (10 : Nat))) (consA (var 5) (nilA)))) (nilA)))))))) (seqS (appS 3 (callF m_all_counts (consA (cst (.int (10 : Nat))) (consA (cst (.int (13 : Nat))) (nilA))))) (retS (bin eqD (un reprD (pkF 2)) (un reprD (pkF 3)))))))))))))))
def m__law_periods_right : Fn := runF 2 7 b__law_periods_right
theorem sc__law_periods_right : FnScope ["b", "n", "named", "due", "sheet", "x", "y"] ["b", "n"] (defScope st__law_periods_right) := ⟨rfl, rfl, rfl, by decide +kernel, rfl, by decide +kernel, by decide +kernel⟩
theorem p__law_periods_right (D : IsDef K mg "_law_periods_right" st__law_periods_right) (h_all_counts : Has P w K mg base "all_counts" ["base", "denominator"] m_all_counts 5) (h_digit_counts : Has P w K mg base "digit_counts" ["base", "fraction"] m_digit_counts 6) (h_digit_sum : Has P w K mg base "digit_sum" ["base", "fraction"] m_digit_sum 7) (h_sum_example : Has P w K mg base "sum_example" ["one", "two", "denominator"] m_sum_example 4) (h_sum_periods : Has P w K mg base "sum_periods" ["base", "one", "two"] m_sum_periods 6) (h_sum_denominators : Has P w K mg base "sum_denominators" ["one", "two"] m_sum_denominators 5) (h_sum_of : Has P w K mg base "sum_of" ["fraction", "other"] m_sum_of 5) (h_check_period : Has P w K mg base "check_period" ["base", "denominator", "paper"] m_check_period 4) (h_period_paper : Has P w K mg base "period_paper" ["base", "denominator"] m_period_paper 4) (h_denominators_with : Has P w K mg base "denominators_with" ["base", "length", "most"] m_denominators_with 4) (h_bases_with : Has P w K mg base "bases_with" ["denominator", "length"] m_bases_with 6) (h_greatest_period : Has P w K mg base "greatest_period" ["denominator"] m_greatest_period 4) (h_spread : Has P w K mg base "spread" ["denominator"] m_spread 5) (h_residues_with : Has P w K mg base "residues_with" ["denominator", "length"] m_residues_with 5) (l_all_counts : HasL P w K mg base "all_counts" st_all_counts ["base", "denominator"] m_all_counts 5) (l_digit_counts : HasL P w K mg base "digit_counts" st_digit_counts ["base", "fraction"] m_digit_counts 6) (l_digit_sum : HasL P w K mg base "digit_sum" st_digit_sum ["base", "fraction"] m_digit_sum 7) (l_sum_example : HasL P w K mg base "sum_example" st_sum_example ["one", "two", "denominator"] m_sum_example 4) (l_sum_periods : HasL P w K mg base "sum_periods" st_sum_periods ["base", "one", "two"] m_sum_periods 6) (l_sum_denominators : HasL P w K mg base "sum_denominators" st_sum_denominators ["one", "two"] m_sum_denominators 5) (l_sum_of : HasL P w K mg base "sum_of" st_sum_of ["fraction", "other"] m_sum_of 5) (l_check_period : HasL P w K mg base "check_period" st_check_period ["base", "denominator", "paper"] m_check_period 4) (l_period_paper : HasL P w K mg base "period_paper" st_period_paper ["base", "denominator"] m_period_paper 4) (l_denominators_with : HasL P w K mg base "denominators_with" st_denominators_with ["base", "length", "most"] m_denominators_with 4) (l_bases_with : HasL P w K mg base "bases_with" st_bases_with ["denominator", "length"] m_bases_with 6) (l_greatest_period : HasL P w K mg base "greatest_period" st_greatest_period ["denominator"] m_greatest_period 4) (l_spread : HasL P w K mg base "spread" st_spread ["denominator"] m_spread 5) (l_residues_with : HasL P w K mg base "residues_with" st_residues_with ["denominator", "length"] m_residues_with 5) (n_repr : mg "repr" = none) : Has P w K mg base "_law_periods_right" ["b", "n"] m__law_periods_right 8 := by
  have nd := sc__law_periods_right.nd
  refine has0 (N := ["b", "n", "named", "due", "sheet", "x", "y"]) (ps := ["b", "n"]) (k := 7) (body := b__law_periods_right) D sc__law_periods_right (by decide) (fun _ _ _ _ _ _ us hl => match us, hl with | [_, _], _ => rfl) ?_
  intro f cdv A outer s H E hr hq hc
  exact ds_cons (ds_par3 (i := 4) (j := 5) (l := 6) rfl nd (by decide) (by decide) (by decide) (dps_cons (do_fr (de_h h_period_paper hr hq (by decide) rfl (da_cons (de_var 0) (da_cons (de_var 1) (da_nil))))) (dps_cons (do_fr (de_tup (da_cons (de_int) (da_cons (de_int) (da_nil))))) (dps_cons (do_fr (de_tup (da_cons (de_int) (da_cons (de_int) (da_nil))))) (dps_nil)))) (by rfl)) (ds_cons (ds_setO 2 nd (do_lst (da_cons (de_hK ["length", "denominator"] [1, 0] l_residues_with hr hq (by decide) rfl (dk_cons (de_int) (dk_cons (de_var 1) (dk_nil))) (fun _ _ _ _ _ _ us hl => match us, hl with | [_, _], _ => rfl)) (da_cons (de_hK ["denominator"] [0] l_spread hr hq (by decide) rfl (dk_cons (de_var 1) (dk_nil)) (fun _ _ _ _ _ _ us hl => match us, hl with | [_], _ => rfl)) (da_cons (de_hK ["denominator"] [0] l_greatest_period hr hq (by decide) rfl (dk_cons (de_var 1) (dk_nil)) (fun _ _ _ _ _ _ us hl => match us, hl with | [_], _ => rfl)) (da_nil)))))) (ds_cons (ds_setO 2 nd (do_catP (pv 2) (dk_of (de_lst (da_cons (de_hK ["length", "denominator"] [1, 0] l_bases_with hr hq (by decide) rfl (dk_cons (de_int) (dk_cons (de_var 1) (dk_nil))) (fun _ _ _ _ _ _ us hl => match us, hl with | [_, _], _ => rfl)) (da_cons (de_hK ["most", "length", "base"] [2, 1, 0] l_denominators_with hr hq (by decide) rfl (dk_cons (de_int) (dk_cons (de_int) (dk_cons (de_var 0) (dk_nil)))) (fun _ _ _ _ _ _ us hl => match us, hl with | [_, _, _], _ => rfl)) (da_nil))))))) (ds_cons (ds_setO 2 nd (do_catP (pv 2) (dk_of (de_lst (da_cons (de_hK ["denominator", "base"] [1, 0] l_period_paper hr hq (by decide) rfl (dk_cons (de_var 1) (dk_cons (de_var 0) (dk_nil))) (fun _ _ _ _ _ _ us hl => match us, hl with | [_, _], _ => rfl)) (da_cons (de_hK ["paper", "denominator", "base"] [2, 1, 0] l_check_period hr hq (by decide) rfl (dk_cons (de_var 4) (dk_cons (de_var 1) (dk_cons (de_var 0) (dk_nil)))) (fun _ _ _ _ _ _ us hl => match us, hl with | [_, _, _], _ => rfl)) (da_nil))))))) (ds_cons (ds_setO 2 nd (do_catP (pv 2) (dk_of (de_lst (da_cons (de_hK ["other", "fraction"] [1, 0] l_sum_of hr hq (by decide) rfl (dk_cons (de_var 6) (dk_cons (de_var 5) (dk_nil))) (fun _ _ _ _ _ _ us hl => match us, hl with | [_, _], _ => rfl)) (da_cons (de_hK ["two", "one"] [1, 0] l_sum_denominators hr hq (by decide) rfl (dk_cons (de_int) (dk_cons (de_var 1) (dk_nil))) (fun _ _ _ _ _ _ us hl => match us, hl with | [_, _], _ => rfl)) (da_nil))))))) (ds_cons (ds_app 2 (pv 2) (de_hK ["two", "one", "base"] [2, 1, 0] l_sum_periods hr hq (by decide) rfl (dk_cons (de_int) (dk_cons (de_var 1) (dk_cons (de_var 0) (dk_nil)))) (fun _ _ _ _ _ _ us hl => match us, hl with | [_, _, _], _ => rfl))) (ds_cons (ds_setO 2 nd (do_catP (pv 2) (dk_of (de_lst (da_cons (de_hK ["denominator", "two", "one"] [2, 1, 0] l_sum_example hr hq (by decide) rfl (dk_cons (de_int) (dk_cons (de_int) (dk_cons (de_int) (dk_nil)))) (fun _ _ _ _ _ _ us hl => match us, hl with | [_, _, _], _ => rfl)) (da_cons (de_hK ["fraction", "base"] [1, 0] l_digit_sum hr hq (by decide) rfl (dk_cons (de_var 5) (dk_cons (de_int) (dk_nil))) (fun _ _ _ _ _ _ us hl => match us, hl with | [_, _], _ => rfl)) (da_nil))))))) (ds_cons (ds_setO 2 nd (do_catP (pv 2) (dk_of (de_lst (da_cons (de_hK ["fraction", "base"] [1, 0] l_digit_counts hr hq (by decide) rfl (dk_cons (de_var 5) (dk_cons (de_int) (dk_nil))) (fun _ _ _ _ _ _ us hl => match us, hl with | [_, _], _ => rfl)) (da_cons (de_hK ["denominator", "base"] [1, 0] l_all_counts hr hq (by decide) rfl (dk_cons (de_int) (dk_cons (de_int) (dk_nil))) (fun _ _ _ _ _ _ us hl => match us, hl with | [_, _], _ => rfl)) (da_nil))))))) (ds_cons (ds_setO 3 nd (do_lst (da_cons (de_h h_residues_with hr hq (by decide) rfl (da_cons (de_var 1) (da_cons (de_int) (da_nil)))) (da_cons (de_h h_spread hr hq (by decide) rfl (da_cons (de_var 1) (da_nil))) (da_cons (de_h h_greatest_period hr hq (by decide) rfl (da_cons (de_var 1) (da_nil))) (da_cons (de_h h_bases_with hr hq (by decide) rfl (da_cons (de_var 1) (da_cons (de_int) (da_nil)))) (da_cons (de_h h_denominators_with hr hq (by decide) rfl (da_cons (de_var 0) (da_cons (de_int) (da_cons (de_int) (da_nil))))) (da_nil)))))))) (ds_cons (ds_setO 3 nd (do_catP (pv 3) (dk_of (de_lst (da_cons (de_h h_period_paper hr hq (by decide) rfl (da_cons (de_var 0) (da_cons (de_var 1) (da_nil)))) (da_cons (de_h h_check_period hr hq (by decide) rfl (da_cons (de_var 0) (da_cons (de_var 1) (da_cons (de_var 4) (da_nil))))) (da_cons (de_h h_sum_of hr hq (by decide) rfl (da_cons (de_var 5) (da_cons (de_var 6) (da_nil)))) (da_cons (de_h h_sum_denominators hr hq (by decide) rfl (da_cons (de_var 1) (da_cons (de_int) (da_nil)))) (da_nil))))))))) (ds_cons (ds_setO 3 nd (do_catP (pv 3) (dk_of (de_lst (da_cons (de_h h_sum_periods hr hq (by decide) rfl (da_cons (de_var 0) (da_cons (de_var 1) (da_cons (de_int) (da_nil))))) (da_cons (de_h h_sum_example hr hq (by decide) rfl (da_cons (de_int) (da_cons (de_int) (da_cons (de_int) (da_nil))))) (da_cons (de_h h_digit_sum hr hq (by decide) rfl (da_cons (de_int) (da_cons (de_var 5) (da_nil)))) (da_cons (de_h h_digit_counts hr hq (by decide) rfl (da_cons (de_int) (da_cons (de_var 5) (da_nil)))) (da_nil))))))))) (ds_cons (ds_app 3 (pv 3) (de_h h_all_counts hr hq (by decide) rfl (da_cons (de_int) (da_cons (de_int) (da_nil))))) (ds_one (ds_ret (de_cmp (opr_eq (u64 hr)) (opd_eq _) (nomark _) (de_repr (u64 hr) hq rfl n_repr (dk_var 2)) (dk_of (de_repr (u64 hr) hq rfl n_repr (dk_var 3)))))))))))))))))
/-! ### exponent_paper -/
abbrev st_exponent_paper : Stmt := top 71
def b_exponent_paper : Rho → SR := seqS (setS 3 (callF m_exponents (consA (var 0) (consA (var 1) (consA (var 2) (nilA)))))) (seqS (ifS (tstF (bin isND (var 3) (cst .non))) (retS (tupD (consA (cst (.str "never")) (consA (un tupleD (callF m_remainders_of (consA (var 0) (consA (var 1) (nilA))))) (nilA))))) (skipS)) (retS (tupD (consA (cst (.str "exponent")) (consA (bin ixD (var 3) (cst (.int (0 : Nat)))) (nilA))))))
def m_exponent_paper : Fn := runF 3 4 b_exponent_paper
theorem sc_exponent_paper : FnScope ["base", "denominator", "weight", "found"] ["base", "denominator", "weight"] (defScope st_exponent_paper) := ⟨rfl, rfl, rfl, by decide +kernel, rfl, by decide +kernel, by decide +kernel⟩
theorem p_exponent_paper (D : IsDef K mg "exponent_paper" st_exponent_paper) (h_remainders_of : Has P w K mg base "remainders_of" ["base", "denominator"] m_remainders_of 5) (h_exponents : Has P w K mg base "exponents" ["base", "denominator", "weight"] m_exponents 7) (n_tuple : mg "tuple" = none) (g_EXPONENT : ∃ t, mg "EXPONENT" = some (.str "exponent" t)) (g_NEVER : ∃ t, mg "NEVER" = some (.str "never" t)) : HasL P w K mg base "exponent_paper" st_exponent_paper ["base", "denominator", "weight"] m_exponent_paper 8 := by
  obtain ⟨_, g_EXPONENT⟩ := g_EXPONENT
  obtain ⟨_, g_NEVER⟩ := g_NEVER
  have nd := sc_exponent_paper.nd
  refine hasL0 (N := ["base", "denominator", "weight", "found"]) (ps := ["base", "denominator", "weight"]) (k := 7) (body := b_exponent_paper) D sc_exponent_paper (by decide) (fun _ _ _ _ _ _ us hl => match us, hl with | [_, _, _], _ => rfl) ?_
  intro f cdv A outer s H E hr hq hc
  exact ds_cons (ds_set 3 nd (de_h h_exponents hr hq (by decide) rfl (da_cons (de_var 0) (da_cons (de_var 1) (da_cons (de_var 2) (da_nil)))))) (ds_cons (ds_if (dt_cmp (op_isN) (opd_isN _) (nomark _) (de_var 3) (dk_of (de_non))) (ds_one (ds_ret (de_tup (da_cons (de_gs rfl g_NEVER) (da_cons (de_tuple rfl n_tuple (dk_of (de_h h_remainders_of hr hq (by decide) rfl (da_cons (de_var 0) (da_cons (de_var 1) (da_nil)))))) (da_nil)))))) (ds_nil)) (ds_one (ds_ret (de_tup (da_cons (de_gs rfl g_EXPONENT) (da_cons (de_ix (u1 hr) (de_var 3) (dk_of (de_int)) (fun _ _ => rfl)) (da_nil)))))))
/-! ### need_seen -/
abbrev st_need_seen : Stmt := top 114
def b_need_seen : Rho → SR := seqS (exprS (callF m_need_base (consA (var 0) (nilA)))) (seqS (ifS (orT (notT (truF (un (isiD .tuple) (pkF 1)))) (notT (tstF (chainD leD leD (cst (.int (1 : Nat))) (un lenD (pkF 1)) (cst (.int (20 : Nat))))))) (badS) (skipS)) (seqS (ifS (notT (truF (un allD (frzR (lcO (itF (var 1)) (tgN 2) (yesT) (orV (bin isND (var 2) (cst .non)) (callF m_is_whole (consA (var 2) (consA (cst (.int (0 : Nat))) (consA (bin subD (var 0) (cst (.int (1 : Nat)))) (nilA)))))) [2]))))) (badS) (skipS)) (retS (var 1))))
def m_need_seen : Fn := runF 2 3 b_need_seen
theorem sc_need_seen : FnScope ["base", "value", "item"] ["base", "value"] (defScope st_need_seen) := ⟨rfl, rfl, rfl, by decide +kernel, rfl, by decide +kernel, by decide +kernel⟩
theorem p_need_seen (D : IsDef K mg "need_seen" st_need_seen) (h_is_whole : Has P w K mg base "is_whole" ["value", "least", "most"] m_is_whole 2) (h_need_base : Has P w K mg base "need_base" ["value"] m_need_base 3) (n_all : mg "all" = none) (n_len : mg "len" = none) (n_isinstance : mg "isinstance" = none) (n_tuple : mg "tuple" = none) (g_MOST_SEEN : ∃ t, mg "MOST_SEEN" = some (.int 20 t)) : HasL P w K mg base "need_seen" st_need_seen ["base", "value"] m_need_seen 4 := by
  obtain ⟨_, g_MOST_SEEN⟩ := g_MOST_SEEN
  have nd := sc_need_seen.nd
  refine hasL0 (N := ["base", "value", "item"]) (ps := ["base", "value"]) (k := 3) (body := b_need_seen) D sc_need_seen (by decide) (fun _ _ _ _ _ _ us hl => match us, hl with | [_, _], _ => rfl) ?_
  intro f cdv A outer s H E hr hq hc
  exact ds_cons (ds_expr (de_h h_need_base hr hq (by decide) rfl (da_cons (de_var 0) (da_nil)))) (ds_cons (ds_if (dt_w (dw_or (dt_not (dt_tru (dk_of (de_isi .tuple (by decide) rfl n_isinstance rfl n_tuple (by decide +kernel) (dk_var 1))))) (dw_or1 (dt_not (dt_chain (op_le) (opd_cmp _ _) (op_le) (opd_cmp _ _) (de_int) (de_len rfl n_len (dk_var 1)) (de_gi rfl g_MOST_SEEN)))))) (ds_one (ds_never)) (ds_nil)) (ds_cons (ds_if (dt_not (dt_tru (dk_of (de_all rfl rfl n_all (dk_of (de_do (do_lc rfl nd (own := [("item", 2)]) (di_all (de_var 1)) (blkOk_by (by kernel_rfl)) (fun _ _ _ _ _ => dg_name 2 nd) (fun _ _ _ _ _ => dts_nil) (fun _ _ _ _ _ => de_or (de_cmp (op_isN) (opd_isN _) (nomark _) (de_var 2) (dk_of (de_non))) (de_one (de_h h_is_whole hr hq (by decide) rfl (da_cons (de_var 2) (da_cons (de_int) (da_cons (de_sub (de_var 0) (dk_of (de_int))) (da_nil))))))) (by decide)))))))) (ds_one (ds_never)) (ds_nil)) (ds_one (ds_ret (de_var 1)))))
/-! ### does_fit -/
abbrev st_does_fit : Stmt := top 115
def b_does_fit : Rho → SR := seqS (setS 4 (var 1)) (seqS (forS (itF (var 3)) (tgN 5) (seqS (ifS (andT (tstF (bin notND (var 5) (cst .non))) (tstF (bin neD (bin fdivD (bin mulD (var 4) (pkF 0)) (pkF 2)) (pkF 5)))) (retS (cst (.bl false))) (skipS)) (setS 4 (bin modD (bin mulD (var 4) (pkF 0)) (pkF 2))))) (retS (cst (.bl true))))
def m_does_fit : Fn := runF 4 6 b_does_fit
theorem sc_does_fit : FnScope ["base", "numerator", "denominator", "seen", "rest", "item"] ["base", "numerator", "denominator", "seen"] (defScope st_does_fit) := ⟨rfl, rfl, rfl, by decide +kernel, rfl, by decide +kernel, by decide +kernel⟩
theorem p_does_fit (D : IsDef K mg "does_fit" st_does_fit) : Has P w K mg base "does_fit" ["base", "numerator", "denominator", "seen"] m_does_fit 1 := by
  have nd := sc_does_fit.nd
  refine has0 (N := ["base", "numerator", "denominator", "seen", "rest", "item"]) (ps := ["base", "numerator", "denominator", "seen"]) (k := 0) (body := b_does_fit) D sc_does_fit (by decide) (fun _ _ _ _ _ _ us hl => match us, hl with | [_, _, _, _], _ => rfl) ?_
  intro f cdv A outer s H E hr hq hc
  exact ds_cons (ds_set 4 nd (de_var 1)) (ds_cons (ds_for PassesOwn.never rfl (di_all (de_var 3)) (dg_name 5 nd) (ds_cons (ds_if (dt_w (dw_and (dt_cmp (op_notN) (opd_notN _) (nomark _) (de_var 5) (dk_of (de_non))) (dw_and1 (dt_cmp (opr_ne (u64 hr)) (opd_ne _) (nomark _) (de_fdiv (de_mul (de_var 4) (dk_var 0)) (dk_var 2)) (dk_var 5))))) (ds_one (ds_ret (de_bl))) (ds_nil)) (ds_one (ds_set 4 nd (de_mod (de_mul (de_var 4) (dk_var 0)) (dk_var 2)))))) (ds_one (ds_ret (de_bl))))
/-! ### fits -/
abbrev st_fits : Stmt := top 116
def b_fits : Rho → SR := seqS (exprS (callF m_need_base (consA (var 0) (nilA)))) (seqS (exprS (callF m_need_fraction (consA (var 1) (nilA)))) (seqS (exprS (callF m_need_seen (consA (var 0) (consA (var 2) (nilA))))) (retS (callF m_does_fit (consA (var 0) (consA (bin ixD (var 1) (cst (.int (0 : Nat)))) (consA (bin ixD (var 1) (cst (.int (1 : Nat)))) (consA (var 2) (nilA)))))))))
def m_fits : Fn := runF 3 3 b_fits
theorem sc_fits : FnScope ["base", "fraction", "seen"] ["base", "fraction", "seen"] (defScope st_fits) := ⟨rfl, rfl, rfl, by decide +kernel, rfl, by decide +kernel, by decide +kernel⟩
theorem p_fits (D : IsDef K mg "fits" st_fits) (h_does_fit : Has P w K mg base "does_fit" ["base", "numerator", "denominator", "seen"] m_does_fit 1) (h_need_seen : Has P w K mg base "need_seen" ["base", "value"] m_need_seen 4) (h_need_fraction : Has P w K mg base "need_fraction" ["value"] m_need_fraction 4) (h_need_base : Has P w K mg base "need_base" ["value"] m_need_base 3) : HasL P w K mg base "fits" st_fits ["base", "fraction", "seen"] m_fits 5 := by
  have nd := sc_fits.nd
  refine hasL0 (N := ["base", "fraction", "seen"]) (ps := ["base", "fraction", "seen"]) (k := 4) (body := b_fits) D sc_fits (by decide) (fun _ _ _ _ _ _ us hl => match us, hl with | [_, _, _], _ => rfl) ?_
  intro f cdv A outer s H E hr hq hc
  exact ds_cons (ds_expr (de_h h_need_base hr hq (by decide) rfl (da_cons (de_var 0) (da_nil)))) (ds_cons (ds_expr (de_h h_need_fraction hr hq (by decide) rfl (da_cons (de_var 1) (da_nil)))) (ds_cons (ds_expr (de_h h_need_seen hr hq (by decide) rfl (da_cons (de_var 0) (da_cons (de_var 2) (da_nil))))) (ds_one (ds_ret (de_h h_does_fit hr hq (by decide) rfl (da_cons (de_var 0) (da_cons (de_ix (u1 hr) (de_var 1) (dk_of (de_int)) (fun _ _ => rfl)) (da_cons (de_ix (u1 hr) (de_var 1) (dk_of (de_int)) (fun _ _ => rfl)) (da_cons (de_var 2) (da_nil))))))))))
/-! ### fitting_in -/
abbrev st_fitting_in : Stmt := top 117
def b_fitting_in : Rho → SR := seqS (exprS (callF m_need_seen (consA (var 0) (consA (var 1) (nilA))))) (seqS (setOS 3 (lstO (nilA))) (seqS (forS (rngF rngD2 (consA (cst (.int (1 : Nat))) (consA (bin addD (callF m_need_most (consA (var 2) (consA (cst (.int (1 : Nat))) (consA (cst (.int (200 : Nat))) (nilA))))) (cst (.int (1 : Nat)))) (nilA)))) (tgN 4) (forS (rngF rngD1 (consA (var 4) (nilA))) (tgN 5) (ifS (andT (tstF (bin eqD (callF m_common_divisor (consA (var 5) (consA (var 4) (nilA)))) (cst (.int (1 : Nat))))) (truF (callF m_does_fit (consA (var 0) (consA (var 5) (consA (var 4) (consA (var 1) (nilA)))))))) (appS 3 (tupD (consA (var 5) (consA (var 4) (nilA))))) (skipS)))) (retS (var 3))))
def m_fitting_in : Fn := runF 3 6 b_fitting_in
theorem sc_fitting_in : FnScope ["base", "seen", "most", "found", "denominator", "numerator"] ["base", "seen", "most"] (defScope st_fitting_in) := ⟨rfl, rfl, rfl, by decide +kernel, rfl, by decide +kernel, by decide +kernel⟩
theorem p_fitting_in (D : IsDef K mg "fitting_in" st_fitting_in) (h_need_most : Has P w K mg base "need_most" ["value", "least", "most"] m_need_most 3) (h_does_fit : Has P w K mg base "does_fit" ["base", "numerator", "denominator", "seen"] m_does_fit 1) (h_common_divisor : Has P w K mg base "common_divisor" ["one", "other"] m_common_divisor 1) (h_need_seen : Has P w K mg base "need_seen" ["base", "value"] m_need_seen 4) (n_range : mg "range" = none) (g_MOST_TRIED : ∃ t, mg "MOST_TRIED" = some (.int 200 t)) : Has P w K mg base "fitting_in" ["base", "seen", "most"] m_fitting_in 5 := by
  obtain ⟨_, g_MOST_TRIED⟩ := g_MOST_TRIED
  have nd := sc_fitting_in.nd
  refine has0 (N := ["base", "seen", "most", "found", "denominator", "numerator"]) (ps := ["base", "seen", "most"]) (k := 4) (body := b_fitting_in) D sc_fitting_in (by decide) (fun _ _ _ _ _ _ us hl => match us, hl with | [_, _, _], _ => rfl) ?_
  intro f cdv A outer s H E hr hq hc
  exact ds_cons (ds_expr (de_h h_need_seen hr hq (by decide) rfl (da_cons (de_var 0) (da_cons (de_var 1) (da_nil))))) (ds_cons (ds_setO 3 nd (do_lst (da_nil))) (ds_cons (ds_for PassesOwn.never rfl (di_range2 rfl n_range (da_cons (de_int) (da_cons (de_add (de_h h_need_most hr hq (by decide) rfl (da_cons (de_var 2) (da_cons (de_int) (da_cons (de_gi rfl g_MOST_TRIED) (da_nil))))) (dk_of (de_int))) (da_nil)))) (dg_name 4 nd) (ds_one (ds_for PassesOwn.never rfl (di_range1 rfl n_range (da_cons (de_var 4) (da_nil))) (dg_name 5 nd) (ds_one (ds_if (dt_w (dw_and (dt_cmp (opr_eq (u64 hr)) (opd_eq _) (nomark _) (de_h h_common_divisor hr hq (by decide) rfl (da_cons (de_var 5) (da_cons (de_var 4) (da_nil)))) (dk_of (de_int))) (dw_and1 (dt_tru (dk_of (de_h h_does_fit hr hq (by decide) rfl (da_cons (de_var 0) (da_cons (de_var 5) (da_cons (de_var 4) (da_cons (de_var 1) (da_nil))))))))))) (ds_one (ds_app 3 (pv 3) (de_tup (da_cons (de_var 5) (da_cons (de_var 4) (da_nil)))))) (ds_nil)))))) (ds_one (ds_ret (de_var 3)))))
/-! ### digits_after -/
abbrev st_digits_after : Stmt := top 31
def b_digits_after : Rho → SR := seqS (setOS 4 (lstO (nilA))) (seqS (forS (rngF rngD1 (consA (var 3) (nilA))) (tgN 5) (seqS (appS 4 (bin fdivD (bin mulD (var 1) (pkF 0)) (pkF 2))) (setS 1 (bin modD (bin mulD (var 1) (pkF 0)) (pkF 2))))) (retS (tupD (consA (un tupleD (pkF 4)) (consA (var 1) (nilA))))))
def m_digits_after : Fn := runF 4 6 b_digits_after
theorem sc_digits_after : FnScope ["base", "rest", "denominator", "count", "found", "_"] ["base", "rest", "denominator", "count"] (defScope st_digits_after) := ⟨rfl, rfl, rfl, by decide +kernel, rfl, by decide +kernel, by decide +kernel⟩
theorem p_digits_after (D : IsDef K mg "digits_after" st_digits_after) (n_tuple : mg "tuple" = none) (n_range : mg "range" = none) : Has P w K mg base "digits_after" ["base", "rest", "denominator", "count"] m_digits_after 1 := by
  have nd := sc_digits_after.nd
  refine has0 (N := ["base", "rest", "denominator", "count", "found", "_"]) (ps := ["base", "rest", "denominator", "count"]) (k := 0) (body := b_digits_after) D sc_digits_after (by decide) (fun _ _ _ _ _ _ us hl => match us, hl with | [_, _, _, _], _ => rfl) ?_
  intro f cdv A outer s H E hr hq hc
  exact ds_cons (ds_setO 4 nd (do_lst (da_nil))) (ds_cons (ds_for PassesOwn.never rfl (di_range1 rfl n_range (da_cons (de_var 3) (da_nil))) (dg_name 5 nd) (ds_cons (ds_app 4 (pv 4) (de_fdiv (de_mul (de_var 1) (dk_var 0)) (dk_var 2))) (ds_one (ds_set 1 nd (de_mod (de_mul (de_var 1) (dk_var 0)) (dk_var 2)))))) (ds_one (ds_ret (de_tup (da_cons (de_tuple rfl n_tuple (dk_var 4)) (da_cons (de_var 1) (da_nil)))))))
/-! ### sure_digits -/
abbrev st_sure_digits : Stmt := top 120
def b_sure_digits : Rho → SR := seqS (exprS (callF m_need_seen (consA (var 0) (consA (var 1) (nilA))))) (seqS (exprS (callF m_need_most (consA (var 2) (consA (cst (.int (1 : Nat))) (consA (cst (.int (200 : Nat))) (nilA)))))) (seqS (ifS (notT (truF (callF m_is_whole (consA (var 3) (consA (cst (.int (0 : Nat))) (consA (cst (.int (60 : Nat))) (nilA))))))) (badS) (skipS)) (seqS (setS 4 (callF m_fitting_in (consA (var 0) (consA (var 1) (consA (var 2) (nilA)))))) (seqS (ifS (tstF (bin eqD (var 4) (lstD (nilA)))) (badS) (skipS)) (seqS (setS 5 (un listD (bin ixD (callF m_digits_after (consA (var 0) (consA (bin ixD (bin ixD (var 4) (cst (.int (0 : Nat)))) (cst (.int (0 : Nat)))) (consA (bin ixD (bin ixD (var 4) (cst (.int (0 : Nat)))) (cst (.int (1 : Nat)))) (consA (var 3) (nilA)))))) (cst (.int (0 : Nat)))))) (seqS (forS (itF (sl3 (var 4) (someP (cst (.int (1 : Nat)))) (noP))) (tgT [6, 7]) (seqS (setS 8 (bin ixD (callF m_digits_after (consA (var 0) (consA (var 6) (consA (var 7) (consA (var 3) (nilA)))))) (cst (.int (0 : Nat))))) (setS 5 (frzR (lcO (rngF zipX (consA (var 5) (consA (var 8) (nilA)))) (tgT [9, 10]) (yesT) (ifE (tstF (bin eqD (var 9) (pkF 10))) (var 9) (cst .non)) [9, 10]))))) (retS (un tupleD (pkF 5)))))))))
def m_sure_digits : Fn := runF 4 11 b_sure_digits
theorem sc_sure_digits : FnScope ["base", "seen", "most", "count", "some", "found", "numerator", "denominator", "own", "mine", "its"] ["base", "seen", "most", "count"] (defScope st_sure_digits) := ⟨rfl, rfl, rfl, by decide +kernel, rfl, by decide +kernel, by decide +kernel⟩
theorem p_sure_digits (D : IsDef K mg "sure_digits" st_sure_digits) (h_digits_after : Has P w K mg base "digits_after" ["base", "rest", "denominator", "count"] m_digits_after 1) (h_fitting_in : Has P w K mg base "fitting_in" ["base", "seen", "most"] m_fitting_in 5) (h_is_whole : Has P w K mg base "is_whole" ["value", "least", "most"] m_is_whole 2) (h_need_most : Has P w K mg base "need_most" ["value", "least", "most"] m_need_most 3) (h_need_seen : Has P w K mg base "need_seen" ["base", "value"] m_need_seen 4) (n_tuple : mg "tuple" = none) (n_zip : mg "zip" = none) (n_list : mg "list" = none) (g_MOST_SURE : ∃ t, mg "MOST_SURE" = some (.int 60 t)) (g_MOST_TRIED : ∃ t, mg "MOST_TRIED" = some (.int 200 t)) : HasL P w K mg base "sure_digits" st_sure_digits ["base", "seen", "most", "count"] m_sure_digits 6 := by
  obtain ⟨_, g_MOST_SURE⟩ := g_MOST_SURE
  obtain ⟨_, g_MOST_TRIED⟩ := g_MOST_TRIED
  have nd := sc_sure_digits.nd
  refine hasL0 (N := ["base", "seen", "most", "count", "some", "found", "numerator", "denominator", "own", "mine", "its"]) (ps := ["base", "seen", "most", "count"]) (k := 5) (body := b_sure_digits) D sc_sure_digits (by decide) (fun _ _ _ _ _ _ us hl => match us, hl with | [_, _, _, _], _ => rfl) ?_
  intro f cdv A outer s H E hr hq hc
  exact ds_cons (ds_expr (de_h h_need_seen hr hq (by decide) rfl (da_cons (de_var 0) (da_cons (de_var 1) (da_nil))))) (ds_cons (ds_expr (de_h h_need_most hr hq (by decide) rfl (da_cons (de_var 2) (da_cons (de_int) (da_cons (de_gi rfl g_MOST_TRIED) (da_nil)))))) (ds_cons (ds_if (dt_not (dt_tru (dk_of (de_h h_is_whole hr hq (by decide) rfl (da_cons (de_var 3) (da_cons (de_int) (da_cons (de_gi rfl g_MOST_SURE) (da_nil)))))))) (ds_one (ds_never)) (ds_nil)) (ds_cons (ds_set 4 nd (de_h h_fitting_in hr hq (by decide) rfl (da_cons (de_var 0) (da_cons (de_var 1) (da_cons (de_var 2) (da_nil)))))) (ds_cons (ds_if (dt_cmp (opr_eq (u64 hr)) (opd_eq _) (nomark _) (de_var 4) (dk_of (de_lst (da_nil)))) (ds_one (ds_never)) (ds_nil)) (ds_cons (ds_set 5 nd (de_list rfl n_list (dk_of (de_ix (u1 hr) (de_h h_digits_after hr hq (by decide) rfl (da_cons (de_var 0) (da_cons (de_ix (u1 hr) (de_ix (u1 hr) (de_var 4) (dk_of (de_int)) (fun _ _ => rfl)) (dk_of (de_int)) (fun _ _ => rfl)) (da_cons (de_ix (u1 hr) (de_ix (u1 hr) (de_var 4) (dk_of (de_int)) (fun _ _ => rfl)) (dk_of (de_int)) (fun _ _ => rfl)) (da_cons (de_var 3) (da_nil)))))) (dk_of (de_int)) (fun _ _ => rfl))))) (ds_cons (ds_for PassesOwn.never rfl (di_all (de_sl (de_var 4) (dp_some (de_int)) (dp_none))) (dg_tup rfl (dgs_cons 6 nd (dgs_cons 7 nd (dgs_nil)))) (ds_cons (ds_set 8 nd (de_ix (u1 hr) (de_h h_digits_after hr hq (by decide) rfl (da_cons (de_var 0) (da_cons (de_var 6) (da_cons (de_var 7) (da_cons (de_var 3) (da_nil)))))) (dk_of (de_int)) (fun _ _ => rfl))) (ds_one (ds_setLc 5 rfl nd (sw_true rfl rfl rfl (by decide +kernel)) (own := [("mine", 9), ("its", 10)]) (di_zipX rfl n_zip (da_cons (de_var 5) (da_cons (de_var 8) (da_nil)))) (blkOk_by (by kernel_rfl)) (fun _ _ _ _ _ => dg_tup rfl (dgs_cons 9 nd (dgs_cons 10 nd (dgs_nil)))) (fun _ _ _ _ _ => dts_nil) (fun _ _ _ _ _ => de_if (dt_cmp (opr_eq (u64 hr)) (opd_eq _) (nomark _) (de_var 9) (dk_var 10)) (de_var 9) (de_non)) (by decide))))) (ds_one (ds_ret (de_tuple rfl n_tuple (dk_var 5))))))))))
/-! ### steps_of -/
abbrev st_steps_of : Stmt := top 33
def b_steps_of : Rho → SR := seqS (setS 3 (callF m_power_rest (consA (var 0) (consA (bin fdivD (callF m_period_of (consA (var 0) (consA (var 1) (nilA)))) (pkF 2)) (consA (var 1) (nilA)))))) (seqS (setOS 4 (lstO (consA (bin modD (cst (.int (1 : Nat))) (pkF 1)) (nilA)))) (seqS (whS (tstF (bin ltD (un lenD (pkF 4)) (pkF 2))) (appS 4 (bin modD (bin mulD (binP ixD 4 (un negD (cst (.int (1 : Nat))))) (pkF 3)) (pkF 1))) 1000000) (retS (var 4))))
def m_steps_of : Fn := runF 3 5 b_steps_of
theorem sc_steps_of : FnScope ["base", "denominator", "cut", "step", "found"] ["base", "denominator", "cut"] (defScope st_steps_of) := ⟨rfl, rfl, rfl, by decide +kernel, rfl, by decide +kernel, by decide +kernel⟩
theorem p_steps_of (D : IsDef K mg "steps_of" st_steps_of) (h_period_of : Has P w K mg base "period_of" ["base", "denominator"] m_period_of 3) (h_power_rest : Has P w K mg base "power_rest" ["base", "exponent", "divisor"] m_power_rest 1) (n_len : mg "len" = none) : Has P w K mg base "steps_of" ["base", "denominator", "cut"] m_steps_of 4 := by
  have nd := sc_steps_of.nd
  refine has0 (N := ["base", "denominator", "cut", "step", "found"]) (ps := ["base", "denominator", "cut"]) (k := 3) (body := b_steps_of) D sc_steps_of (by decide) (fun _ _ _ _ _ _ us hl => match us, hl with | [_, _, _], _ => rfl) ?_
  intro f cdv A outer s H E hr hq hc
  exact ds_cons (ds_set 3 nd (de_h h_power_rest hr hq (by decide) rfl (da_cons (de_var 0) (da_cons (de_fdiv (de_h h_period_of hr hq (by decide) rfl (da_cons (de_var 0) (da_cons (de_var 1) (da_nil)))) (dk_var 2)) (da_cons (de_var 1) (da_nil)))))) (ds_cons (ds_setO 4 nd (do_lst (da_cons (de_mod (de_int) (dk_var 1)) (da_nil)))) (ds_cons (ds_while 1000000 PassesOwn.never (dt_cmp (op_lt) (opd_cmp _ _) (nomark _) (de_len rfl n_len (dk_var 4)) (dk_var 2)) (ds_one (ds_app 4 (pv 4) (de_mod (de_mul (de_ixP (u1 hr) (pv 4) (dk_of (de_neg (de_int))) (fun _ _ => rfl)) (dk_var 3)) (dk_var 1))))) (ds_one (ds_ret (de_var 4)))))
/-! ### is_balanced_by -/
abbrev st_is_balanced_by : Stmt := top 34
def b_is_balanced_by : Rho → SR := retS (bin eqD (bin modD (un sumD (callF m_steps_of (consA (var 0) (consA (var 1) (consA (var 2) (nilA)))))) (pkF 1)) (cst (.int (0 : Nat))))
def m_is_balanced_by : Fn := runF 3 3 b_is_balanced_by
theorem sc_is_balanced_by : FnScope ["base", "denominator", "cut"] ["base", "denominator", "cut"] (defScope st_is_balanced_by) := ⟨rfl, rfl, rfl, by decide +kernel, rfl, by decide +kernel, by decide +kernel⟩
theorem p_is_balanced_by (D : IsDef K mg "is_balanced_by" st_is_balanced_by) (h_steps_of : Has P w K mg base "steps_of" ["base", "denominator", "cut"] m_steps_of 4) (n_sum : mg "sum" = none) : Has P w K mg base "is_balanced_by" ["base", "denominator", "cut"] m_is_balanced_by 5 := by
  have nd := sc_is_balanced_by.nd
  refine has0 (N := ["base", "denominator", "cut"]) (ps := ["base", "denominator", "cut"]) (k := 4) (body := b_is_balanced_by) D sc_is_balanced_by (by decide) (fun _ _ _ _ _ _ us hl => match us, hl with | [_, _, _], _ => rfl) ?_
  intro f cdv A outer s H E hr hq hc
  exact ds_one (ds_ret (de_cmp (opr_eq (u64 hr)) (opd_eq _) (nomark _) (de_mod (de_sum rfl rfl n_sum (dk_of (de_h h_steps_of hr hq (by decide) rfl (da_cons (de_var 0) (da_cons (de_var 1) (da_cons (de_var 2) (da_nil))))))) (dk_var 1)) (dk_of (de_int))))
/-! ### wheels_in -/
abbrev st_wheels_in : Stmt := top 103
def b_wheels_in : Rho → SR := seqS (setS 2 (cst (.int (1 : Nat)))) (seqS (forS (itF (callF m_prime_powers (consA (var 1) (nilA)))) (tgT [3, 4, 5]) (setS 2 (bin mulD (bin mulD (var 2) (bin fdivD (var 5) (pkF 3))) (bin subD (var 3) (cst (.int (1 : Nat))))))) (retS (bin fdivD (var 2) (callF m_period_of (consA (var 0) (consA (var 1) (nilA)))))))
def m_wheels_in : Fn := runF 2 6 b_wheels_in
theorem sc_wheels_in : FnScope ["base", "denominator", "found", "prime", "exponent", "part"] ["base", "denominator"] (defScope st_wheels_in) := ⟨rfl, rfl, rfl, by decide +kernel, rfl, by decide +kernel, by decide +kernel⟩
theorem p_wheels_in (D : IsDef K mg "wheels_in" st_wheels_in) (h_period_of : Has P w K mg base "period_of" ["base", "denominator"] m_period_of 3) (h_prime_powers : Has P w K mg base "prime_powers" ["number"] m_prime_powers 1) : Has P w K mg base "wheels_in" ["base", "denominator"] m_wheels_in 4 := by
  have nd := sc_wheels_in.nd
  refine has0 (N := ["base", "denominator", "found", "prime", "exponent", "part"]) (ps := ["base", "denominator"]) (k := 3) (body := b_wheels_in) D sc_wheels_in (by decide) (fun _ _ _ _ _ _ us hl => match us, hl with | [_, _], _ => rfl) ?_
  intro f cdv A outer s H E hr hq hc
  exact ds_cons (ds_set 2 nd (de_int)) (ds_cons (ds_for PassesOwn.never rfl (di_all (de_h h_prime_powers hr hq (by decide) rfl (da_cons (de_var 1) (da_nil)))) (dg_tup rfl (dgs_cons 3 nd (dgs_cons 4 nd (dgs_cons 5 nd (dgs_nil))))) (ds_one (ds_set 2 nd (de_mul (de_mul (de_var 2) (dk_of (de_fdiv (de_var 5) (dk_var 3)))) (dk_of (de_sub (de_var 3) (dk_of (de_int)))))))) (ds_one (ds_ret (de_fdiv (de_var 2) (dk_of (de_h h_period_of hr hq (by decide) rfl (da_cons (de_var 0) (da_cons (de_var 1) (da_nil)))))))))
/-! ### holds -/
abbrev st_holds : Stmt := top 104
def b_holds : Rho → SR := seqS (ifS (tstF (bin eqD (bin ixD (var 2) (cst (.int (0 : Nat)))) (cst (.str "period")))) (retS (bin eqD (callF m_period_of (consA (var 0) (consA (var 1) (nilA)))) (bin ixD (var 2) (cst (.int (1 : Nat)))))) (skipS)) (seqS (ifS (tstF (bin eqD (bin ixD (var 2) (cst (.int (0 : Nat)))) (cst (.str "head")))) (retS (bin eqD (callF m_head_size (consA (var 0) (consA (var 1) (nilA)))) (bin ixD (var 2) (cst (.int (1 : Nat)))))) (skipS)) (seqS (ifS (tstF (bin eqD (bin ixD (var 2) (cst (.int (0 : Nat)))) (cst (.str "power")))) (retS (bin eqD (callF m_power_rest (consA (var 0) (consA (bin ixD (var 2) (cst (.int (1 : Nat)))) (consA (var 1) (nilA))))) (bin ixD (var 2) (cst (.int (2 : Nat)))))) (skipS)) (seqS (ifS (notT (truF (callF m_is_pure (consA (var 0) (consA (var 1) (nilA)))))) (retS (cst (.bl false))) (skipS)) (seqS (ifS (tstF (bin eqD (bin ixD (var 2) (cst (.int (0 : Nat)))) (cst (.str "wheels")))) (retS (bin eqD (callF m_wheels_in (consA (var 0) (consA (var 1) (nilA)))) (bin ixD (var 2) (cst (.int (1 : Nat)))))) (skipS)) (seqS (ifS (orT (tstF (bin eqD (var 1) (cst (.int (1 : Nat))))) (tstF (bin neD (bin modD (callF m_period_of (consA (var 0) (consA (var 1) (nilA)))) (bin ixD (var 2) (cst (.int (1 : Nat))))) (cst (.int (0 : Nat)))))) (retS (cst (.bl false))) (skipS)) (retS (bin eqD (callF m_is_balanced_by (consA (var 0) (consA (var 1) (consA (bin ixD (var 2) (cst (.int (1 : Nat)))) (nilA))))) (bin ixD (var 2) (cst (.int (2 : Nat)))))))))))
def m_holds : Fn := runF 3 3 b_holds
theorem sc_holds : FnScope ["base", "denominator", "fact"] ["base", "denominator", "fact"] (defScope st_holds) := ⟨rfl, rfl, rfl, by decide +kernel, rfl, by decide +kernel, by decide +kernel⟩
theorem p_holds (D : IsDef K mg "holds" st_holds) (h_is_balanced_by : Has P w K mg base "is_balanced_by" ["base", "denominator", "cut"] m_is_balanced_by 5) (h_period_of : Has P w K mg base "period_of" ["base", "denominator"] m_period_of 3) (h_wheels_in : Has P w K mg base "wheels_in" ["base", "denominator"] m_wheels_in 4) (h_is_pure : Has P w K mg base "is_pure" ["base", "denominator"] m_is_pure 2) (h_power_rest : Has P w K mg base "power_rest" ["base", "exponent", "divisor"] m_power_rest 1) (h_head_size : Has P w K mg base "head_size" ["base", "denominator"] m_head_size 4) (g_WHEELS : ∃ t, mg "WHEELS" = some (.str "wheels" t)) (g_POWER_facts : ∃ t, mg "POWER_facts" = some (.str "power" t)) (g_HEAD : ∃ t, mg "HEAD" = some (.str "head" t)) (g_PERIOD : ∃ t, mg "PERIOD" = some (.str "period" t)) : Has P w K mg base "holds" ["base", "denominator", "fact"] m_holds 6 := by
  obtain ⟨_, g_WHEELS⟩ := g_WHEELS
  obtain ⟨_, g_POWER_facts⟩ := g_POWER_facts
  obtain ⟨_, g_HEAD⟩ := g_HEAD
  obtain ⟨_, g_PERIOD⟩ := g_PERIOD
  have nd := sc_holds.nd
  refine has0 (N := ["base", "denominator", "fact"]) (ps := ["base", "denominator", "fact"]) (k := 5) (body := b_holds) D sc_holds (by decide) (fun _ _ _ _ _ _ us hl => match us, hl with | [_, _, _], _ => rfl) ?_
  intro f cdv A outer s H E hr hq hc
  exact ds_cons (ds_if (dt_cmp (opr_eq (u64 hr)) (opd_eq _) (nomark _) (de_ix (u1 hr) (de_var 2) (dk_of (de_int)) (fun _ _ => rfl)) (dk_of (de_gs rfl g_PERIOD))) (ds_one (ds_ret (de_cmp (opr_eq (u64 hr)) (opd_eq _) (nomark _) (de_h h_period_of hr hq (by decide) rfl (da_cons (de_var 0) (da_cons (de_var 1) (da_nil)))) (dk_of (de_ix (u1 hr) (de_var 2) (dk_of (de_int)) (fun _ _ => rfl)))))) (ds_nil)) (ds_cons (ds_if (dt_cmp (opr_eq (u64 hr)) (opd_eq _) (nomark _) (de_ix (u1 hr) (de_var 2) (dk_of (de_int)) (fun _ _ => rfl)) (dk_of (de_gs rfl g_HEAD))) (ds_one (ds_ret (de_cmp (opr_eq (u64 hr)) (opd_eq _) (nomark _) (de_h h_head_size hr hq (by decide) rfl (da_cons (de_var 0) (da_cons (de_var 1) (da_nil)))) (dk_of (de_ix (u1 hr) (de_var 2) (dk_of (de_int)) (fun _ _ => rfl)))))) (ds_nil)) (ds_cons (ds_if (dt_cmp (opr_eq (u64 hr)) (opd_eq _) (nomark _) (de_ix (u1 hr) (de_var 2) (dk_of (de_int)) (fun _ _ => rfl)) (dk_of (de_gs rfl g_POWER_facts))) (ds_one (ds_ret (de_cmp (opr_eq (u64 hr)) (opd_eq _) (nomark _) (de_h h_power_rest hr hq (by decide) rfl (da_cons (de_var 0) (da_cons (de_ix (u1 hr) (de_var 2) (dk_of (de_int)) (fun _ _ => rfl)) (da_cons (de_var 1) (da_nil))))) (dk_of (de_ix (u1 hr) (de_var 2) (dk_of (de_int)) (fun _ _ => rfl)))))) (ds_nil)) (ds_cons (ds_if (dt_not (dt_tru (dk_of (de_h h_is_pure hr hq (by decide) rfl (da_cons (de_var 0) (da_cons (de_var 1) (da_nil))))))) (ds_one (ds_ret (de_bl))) (ds_nil)) (ds_cons (ds_if (dt_cmp (opr_eq (u64 hr)) (opd_eq _) (nomark _) (de_ix (u1 hr) (de_var 2) (dk_of (de_int)) (fun _ _ => rfl)) (dk_of (de_gs rfl g_WHEELS))) (ds_one (ds_ret (de_cmp (opr_eq (u64 hr)) (opd_eq _) (nomark _) (de_h h_wheels_in hr hq (by decide) rfl (da_cons (de_var 0) (da_cons (de_var 1) (da_nil)))) (dk_of (de_ix (u1 hr) (de_var 2) (dk_of (de_int)) (fun _ _ => rfl)))))) (ds_nil)) (ds_cons (ds_if (dt_w (dw_or (dt_cmp (opr_eq (u64 hr)) (opd_eq _) (nomark _) (de_var 1) (dk_of (de_int))) (dw_or1 (dt_cmp (opr_ne (u64 hr)) (opd_ne _) (nomark _) (de_mod (de_h h_period_of hr hq (by decide) rfl (da_cons (de_var 0) (da_cons (de_var 1) (da_nil)))) (dk_of (de_ix (u1 hr) (de_var 2) (dk_of (de_int)) (fun _ _ => rfl)))) (dk_of (de_int)))))) (ds_one (ds_ret (de_bl))) (ds_nil)) (ds_one (ds_ret (de_cmp (opr_eq (u64 hr)) (opd_eq _) (nomark _) (de_h h_is_balanced_by hr hq (by decide) rfl (da_cons (de_var 0) (da_cons (de_var 1) (da_cons (de_ix (u1 hr) (de_var 2) (dk_of (de_int)) (fun _ _ => rfl)) (da_nil))))) (dk_of (de_ix (u1 hr) (de_var 2) (dk_of (de_int)) (fun _ _ => rfl)))))))))))
/-! ### satisfy -/
abbrev st_satisfy : Stmt := top 105
def b_satisfy : Rho → SR := seqS (forS (itF (var 2)) (tgN 3) (ifS (notT (truF (callF m_holds (consA (var 0) (consA (var 1) (consA (var 3) (nilA))))))) (retS (cst (.bl false))) (skipS))) (retS (cst (.bl true)))
def m_satisfy : Fn := runF 3 4 b_satisfy
theorem sc_satisfy : FnScope ["base", "denominator", "facts", "fact"] ["base", "denominator", "facts"] (defScope st_satisfy) := ⟨rfl, rfl, rfl, by decide +kernel, rfl, by decide +kernel, by decide +kernel⟩
theorem p_satisfy (D : IsDef K mg "satisfy" st_satisfy) (h_holds : Has P w K mg base "holds" ["base", "denominator", "fact"] m_holds 6) : Has P w K mg base "satisfy" ["base", "denominator", "facts"] m_satisfy 7 := by
  have nd := sc_satisfy.nd
  refine has0 (N := ["base", "denominator", "facts", "fact"]) (ps := ["base", "denominator", "facts"]) (k := 6) (body := b_satisfy) D sc_satisfy (by decide) (fun _ _ _ _ _ _ us hl => match us, hl with | [_, _, _], _ => rfl) ?_
  intro f cdv A outer s H E hr hq hc
  exact ds_cons (ds_for PassesOwn.never rfl (di_all (de_var 2)) (dg_name 3 nd) (ds_one (ds_if (dt_not (dt_tru (dk_of (de_h h_holds hr hq (by decide) rfl (da_cons (de_var 0) (da_cons (de_var 1) (da_cons (de_var 3) (da_nil)))))))) (ds_one (ds_ret (de_bl))) (ds_nil)))) (ds_one (ds_ret (de_bl)))
/-! ### is_fact -/
abbrev st_is_fact : Stmt := top 101
def b_is_fact : Rho → SR := seqS (ifS (orT (notT (truF (un (isiD .tuple) (pkF 0)))) (orT (tstF (bin eqD (var 0) (tupD (nilA)))) (notT (truF (un (isiD .str) (bin ixD (var 0) (cst (.int (0 : Nat))))))))) (retS (cst (.bl false))) (skipS)) (seqS (ifS (tstF (un (inTb (tb_RANGES.map row2D) no_RANGES) (bin ixD (var 0) (cst (.int (0 : Nat)))))) (retS (andV (bin eqD (un lenD (pkF 0)) (cst (.int (2 : Nat)))) (callF m_is_whole (consA (bin ixD (var 0) (cst (.int (1 : Nat)))) (consA (bin ixD (un (itTb (tb_RANGES.map row2D)) (bin ixD (var 0) (cst (.int (0 : Nat))))) (cst (.int (0 : Nat)))) (consA (bin ixD (un (itTb (tb_RANGES.map row2D)) (bin ixD (var 0) (cst (.int (0 : Nat))))) (cst (.int (1 : Nat)))) (nilA))))))) (skipS)) (seqS (ifS (tstF (bin neD (un lenD (pkF 0)) (cst (.int (3 : Nat))))) (retS (cst (.bl false))) (skipS)) (seqS (ifS (tstF (bin eqD (bin ixD (var 0) (cst (.int (0 : Nat)))) (cst (.str "balanced")))) (retS (andV (callF m_is_whole (consA (bin ixD (var 0) (cst (.int (1 : Nat)))) (consA (cst (.int (2 : Nat))) (consA (cst (.int (5000 : Nat))) (nilA))))) (un (isiD .bool) (bin ixD (var 0) (cst (.int (2 : Nat))))))) (skipS)) (retS (andV (bin eqD (bin ixD (var 0) (cst (.int (0 : Nat)))) (cst (.str "power"))) (andV (callF m_is_whole (consA (bin ixD (var 0) (cst (.int (1 : Nat)))) (consA (cst (.int (0 : Nat))) (consA (bin powD (cst (.int (10 : Nat))) (cst (.int (30 : Nat)))) (nilA))))) (callF m_is_whole (consA (bin ixD (var 0) (cst (.int (2 : Nat)))) (consA (cst (.int (0 : Nat))) (consA (bin subD (cst (.int (5000 : Nat))) (cst (.int (1 : Nat)))) (nilA)))))))))))
def m_is_fact : Fn := runF 1 1 b_is_fact
theorem sc_is_fact : FnScope ["value"] ["value"] (defScope st_is_fact) := ⟨rfl, rfl, rfl, by decide +kernel, rfl, by decide +kernel, by decide +kernel⟩
theorem p_is_fact (D : IsDef K mg "is_fact" st_is_fact) (h_is_whole : Has P w K mg base "is_whole" ["value", "least", "most"] m_is_whole 2) (T_RANGES : Tbl K w mg "RANGES" (tb_RANGES.map row2D) no_RANGES) (n_isinstance : mg "isinstance" = none) (n_bool : mg "bool" = none) (n_len : mg "len" = none) (n_str : mg "str" = none) (n_tuple : mg "tuple" = none) (g_MOST_DENOMINATOR : ∃ t, mg "MOST_DENOMINATOR" = some (.int 5000 t)) (g_POWER_facts : ∃ t, mg "POWER_facts" = some (.str "power" t)) (g_BALANCED : ∃ t, mg "BALANCED" = some (.str "balanced" t)) : Has P w K mg base "is_fact" ["value"] m_is_fact 3 := by
  obtain ⟨_, g_MOST_DENOMINATOR⟩ := g_MOST_DENOMINATOR
  obtain ⟨_, g_POWER_facts⟩ := g_POWER_facts
  obtain ⟨_, g_BALANCED⟩ := g_BALANCED
  have nd := sc_is_fact.nd
  refine has0 (N := ["value"]) (ps := ["value"]) (k := 2) (body := b_is_fact) D sc_is_fact (by decide) (fun _ _ _ _ _ _ us hl => match us, hl with | [_], _ => rfl) ?_
  intro f cdv A outer s H E hr hq hc
  exact ds_cons (ds_if (dt_w (dw_or (dt_not (dt_tru (dk_of (de_isi .tuple (by decide) rfl n_isinstance rfl n_tuple (by decide +kernel) (dk_var 0))))) (dw_or (dt_cmp (opr_eq (u64 hr)) (opd_eq _) (nomark _) (de_var 0) (dk_of (de_tup (da_nil)))) (dw_or1 (dt_not (dt_tru (dk_of (de_isi .str (by decide) rfl n_isinstance rfl n_str (by decide +kernel) (dk_of (de_ix (u1 hr) (de_var 0) (dk_of (de_int)) (fun _ _ => rfl))))))))))) (ds_one (ds_ret (de_bl))) (ds_nil)) (ds_cons (ds_if (dt_inT T_RANGES rfl (dk_of (de_ix (u1 hr) (de_var 0) (dk_of (de_int)) (fun _ _ => rfl)))) (ds_one (ds_ret (de_and (de_cmp (opr_eq (u64 hr)) (opd_eq _) (nomark _) (de_len rfl n_len (dk_var 0)) (dk_of (de_int))) (de_one (de_h h_is_whole hr hq (by decide) rfl (da_cons (de_ix (u1 hr) (de_var 0) (dk_of (de_int)) (fun _ _ => rfl)) (da_cons (de_ix (u1 hr) (de_itT T_RANGES rfl (dk_of (de_ix (u1 hr) (de_var 0) (dk_of (de_int)) (fun _ _ => rfl))) (fun _ _ => rfl)) (dk_of (de_int)) (fun _ _ => rfl)) (da_cons (de_ix (u1 hr) (de_itT T_RANGES rfl (dk_of (de_ix (u1 hr) (de_var 0) (dk_of (de_int)) (fun _ _ => rfl))) (fun _ _ => rfl)) (dk_of (de_int)) (fun _ _ => rfl)) (da_nil))))))))) (ds_nil)) (ds_cons (ds_if (dt_cmp (opr_ne (u64 hr)) (opd_ne _) (nomark _) (de_len rfl n_len (dk_var 0)) (dk_of (de_int))) (ds_one (ds_ret (de_bl))) (ds_nil)) (ds_cons (ds_if (dt_cmp (opr_eq (u64 hr)) (opd_eq _) (nomark _) (de_ix (u1 hr) (de_var 0) (dk_of (de_int)) (fun _ _ => rfl)) (dk_of (de_gs rfl g_BALANCED))) (ds_one (ds_ret (de_and (de_h h_is_whole hr hq (by decide) rfl (da_cons (de_ix (u1 hr) (de_var 0) (dk_of (de_int)) (fun _ _ => rfl)) (da_cons (de_int) (da_cons (de_gi rfl g_MOST_DENOMINATOR) (da_nil))))) (de_one (de_isi .bool (by decide) rfl n_isinstance rfl n_bool (by decide +kernel) (dk_of (de_ix (u1 hr) (de_var 0) (dk_of (de_int)) (fun _ _ => rfl)))))))) (ds_nil)) (ds_one (ds_ret (de_and (de_cmp (opr_eq (u64 hr)) (opd_eq _) (nomark _) (de_ix (u1 hr) (de_var 0) (dk_of (de_int)) (fun _ _ => rfl)) (dk_of (de_gs rfl g_POWER_facts))) (de_and (de_h h_is_whole hr hq (by decide) rfl (da_cons (de_ix (u1 hr) (de_var 0) (dk_of (de_int)) (fun _ _ => rfl)) (da_cons (de_int) (da_cons (de_pow (de_int) (dk_of (de_int))) (da_nil))))) (de_one (de_h h_is_whole hr hq (by decide) rfl (da_cons (de_ix (u1 hr) (de_var 0) (dk_of (de_int)) (fun _ _ => rfl)) (da_cons (de_int) (da_cons (de_sub (de_gi rfl g_MOST_DENOMINATOR) (dk_of (de_int))) (da_nil)))))))))))))
/-! ### need_facts -/
abbrev st_need_facts : Stmt := top 102
def b_need_facts : Rho → SR := seqS (ifS (orT (notT (truF (un (isiD .tuple) (pkF 0)))) (notT (tstF (chainD leD leD (cst (.int (1 : Nat))) (un lenD (pkF 0)) (cst (.int (10 : Nat))))))) (badS) (skipS)) (seqS (forS (rngF enumD (consA (var 0) (nilA))) (tgT [1, 2]) (ifS (notT (truF (callF m_is_fact (consA (var 2) (nilA))))) (badS) (skipS))) (retS (var 0)))
def m_need_facts : Fn := runF 1 3 b_need_facts
theorem sc_need_facts : FnScope ["value", "number", "fact"] ["value"] (defScope st_need_facts) := ⟨rfl, rfl, rfl, by decide +kernel, rfl, by decide +kernel, by decide +kernel⟩
theorem p_need_facts (D : IsDef K mg "need_facts" st_need_facts) (h_is_fact : Has P w K mg base "is_fact" ["value"] m_is_fact 3) (n_enumerate : mg "enumerate" = none) (n_len : mg "len" = none) (n_isinstance : mg "isinstance" = none) (n_tuple : mg "tuple" = none) (g_MOST_FACTS : ∃ t, mg "MOST_FACTS" = some (.int 10 t)) : HasL P w K mg base "need_facts" st_need_facts ["value"] m_need_facts 4 := by
  obtain ⟨_, g_MOST_FACTS⟩ := g_MOST_FACTS
  have nd := sc_need_facts.nd
  refine hasL0 (N := ["value", "number", "fact"]) (ps := ["value"]) (k := 3) (body := b_need_facts) D sc_need_facts (by decide) (fun _ _ _ _ _ _ us hl => match us, hl with | [_], _ => rfl) ?_
  intro f cdv A outer s H E hr hq hc
  exact ds_cons (ds_if (dt_w (dw_or (dt_not (dt_tru (dk_of (de_isi .tuple (by decide) rfl n_isinstance rfl n_tuple (by decide +kernel) (dk_var 0))))) (dw_or1 (dt_not (dt_chain (op_le) (opd_cmp _ _) (op_le) (opd_cmp _ _) (de_int) (de_len rfl n_len (dk_var 0)) (de_gi rfl g_MOST_FACTS)))))) (ds_one (ds_never)) (ds_nil)) (ds_cons (ds_for PassesOwn.never rfl (di_enum rfl n_enumerate (da_cons (de_var 0) (da_nil))) (dg_tup rfl (dgs_cons 1 nd (dgs_cons 2 nd (dgs_nil)))) (ds_one (ds_if (dt_not (dt_tru (dk_of (de_h h_is_fact hr hq (by decide) rfl (da_cons (de_var 2) (da_nil)))))) (ds_one (ds_never)) (ds_nil)))) (ds_one (ds_ret (de_var 0))))
/-! ### is_satisfied -/
abbrev st_is_satisfied : Stmt := top 106
def b_is_satisfied : Rho → SR := seqS (exprS (callF m_need_base (consA (var 0) (nilA)))) (seqS (exprS (callF m_need_denominator (consA (var 1) (nilA)))) (retS (callF m_satisfy (consA (var 0) (consA (var 1) (consA (callF m_need_facts (consA (var 2) (nilA))) (nilA)))))))
def m_is_satisfied : Fn := runF 3 3 b_is_satisfied
theorem sc_is_satisfied : FnScope ["base", "denominator", "facts"] ["base", "denominator", "facts"] (defScope st_is_satisfied) := ⟨rfl, rfl, rfl, by decide +kernel, rfl, by decide +kernel, by decide +kernel⟩
theorem p_is_satisfied (D : IsDef K mg "is_satisfied" st_is_satisfied) (h_need_facts : Has P w K mg base "need_facts" ["value"] m_need_facts 4) (h_satisfy : Has P w K mg base "satisfy" ["base", "denominator", "facts"] m_satisfy 7) (h_need_denominator : Has P w K mg base "need_denominator" ["value"] m_need_denominator 3) (h_need_base : Has P w K mg base "need_base" ["value"] m_need_base 3) : HasL P w K mg base "is_satisfied" st_is_satisfied ["base", "denominator", "facts"] m_is_satisfied 8 := by
  have nd := sc_is_satisfied.nd
  refine hasL0 (N := ["base", "denominator", "facts"]) (ps := ["base", "denominator", "facts"]) (k := 7) (body := b_is_satisfied) D sc_is_satisfied (by decide) (fun _ _ _ _ _ _ us hl => match us, hl with | [_, _, _], _ => rfl) ?_
  intro f cdv A outer s H E hr hq hc
  exact ds_cons (ds_expr (de_h h_need_base hr hq (by decide) rfl (da_cons (de_var 0) (da_nil)))) (ds_cons (ds_expr (de_h h_need_denominator hr hq (by decide) rfl (da_cons (de_var 1) (da_nil)))) (ds_one (ds_ret (de_h h_satisfy hr hq (by decide) rfl (da_cons (de_var 0) (da_cons (de_var 1) (da_cons (de_h h_need_facts hr hq (by decide) rfl (da_cons (de_var 2) (da_nil))) (da_nil))))))))
/-! ### denominators_by -/
abbrev st_denominators_by : Stmt := top 107
def b_denominators_by : Rho → SR := seqS (exprS (callF m_need_base (consA (var 0) (nilA)))) (seqS (exprS (callF m_need_facts (consA (var 1) (nilA)))) (seqS (setS 3 (rgList rngD2 (consA (cst (.int (1 : Nat))) (consA (bin addD (callF m_need_most (consA (var 2) (consA (cst (.int (1 : Nat))) (consA (cst (.int (1000 : Nat))) (nilA))))) (cst (.int (1 : Nat)))) nilA)))) (retS (un tupleD (frzR (lcO (itF (var 3)) (tgN 4) (truF (callF m_satisfy (consA (var 0) (consA (var 4) (consA (var 1) (nilA)))))) (var 4) [4]))))))
def m_denominators_by : Fn := runF 3 5 b_denominators_by
theorem sc_denominators_by : FnScope ["base", "facts", "most", "some", "denominator"] ["base", "facts", "most"] (defScope st_denominators_by) := ⟨rfl, rfl, rfl, by decide +kernel, rfl, by decide +kernel, by decide +kernel⟩
theorem p_denominators_by (D : IsDef K mg "denominators_by" st_denominators_by) (h_satisfy : Has P w K mg base "satisfy" ["base", "denominator", "facts"] m_satisfy 7) (h_need_most : Has P w K mg base "need_most" ["value", "least", "most"] m_need_most 3) (h_need_facts : Has P w K mg base "need_facts" ["value"] m_need_facts 4) (h_need_base : Has P w K mg base "need_base" ["value"] m_need_base 3) (n_tuple : mg "tuple" = none) (n_list : mg "list" = none) (n_range : mg "range" = none) (g_MOST_FOUND : ∃ t, mg "MOST_FOUND" = some (.int 1000 t)) : HasL P w K mg base "denominators_by" st_denominators_by ["base", "facts", "most"] m_denominators_by 8 := by
  obtain ⟨_, g_MOST_FOUND⟩ := g_MOST_FOUND
  have nd := sc_denominators_by.nd
  refine hasL0 (N := ["base", "facts", "most", "some", "denominator"]) (ps := ["base", "facts", "most"]) (k := 7) (body := b_denominators_by) D sc_denominators_by (by decide) (fun _ _ _ _ _ _ us hl => match us, hl with | [_, _, _], _ => rfl) ?_
  intro f cdv A outer s H E hr hq hc
  exact ds_cons (ds_expr (de_h h_need_base hr hq (by decide) rfl (da_cons (de_var 0) (da_nil)))) (ds_cons (ds_expr (de_h h_need_facts hr hq (by decide) rfl (da_cons (de_var 1) (da_nil)))) (ds_cons (ds_set 3 nd (de_listRg2 (pr := ⟨0, 0, 0, 0⟩) rfl rfl n_list rfl n_range (de_int) (de_add (de_h h_need_most hr hq (by decide) rfl (da_cons (de_var 2) (da_cons (de_int) (da_cons (de_gi rfl g_MOST_FOUND) (da_nil))))) (dk_of (de_int))))) (ds_one (ds_ret (de_tuple rfl n_tuple (dk_of (de_do (do_lc rfl nd (own := [("denominator", 4)]) (di_all (de_var 3)) (blkOk_by (by kernel_rfl)) (fun _ _ _ _ _ => dg_name 4 nd) (fun _ _ _ _ _ => dts_one (dt_tru (dk_of (de_h h_satisfy hr hq (by decide) rfl (da_cons (de_var 0) (da_cons (de_var 4) (da_cons (de_var 1) (da_nil)))))))) (fun _ _ _ _ _ => de_var 4) (by decide)))))))))
/-! ### bases_by -/
abbrev st_bases_by : Stmt := top 108
def b_bases_by : Rho → SR := seqS (exprS (callF m_need_denominator (consA (var 0) (nilA)))) (seqS (exprS (callF m_need_facts (consA (var 1) (nilA)))) (seqS (setS 3 (rgList rngD2 (consA (cst (.int (2 : Nat))) (consA (bin addD (callF m_need_most (consA (var 2) (consA (cst (.int (2 : Nat))) (consA (cst (.int (1000 : Nat))) (nilA))))) (cst (.int (1 : Nat)))) nilA)))) (retS (un tupleD (frzR (lcO (itF (var 3)) (tgN 4) (truF (callF m_satisfy (consA (var 4) (consA (var 0) (consA (var 1) (nilA)))))) (var 4) [4]))))))
def m_bases_by : Fn := runF 3 5 b_bases_by
theorem sc_bases_by : FnScope ["denominator", "facts", "most", "some", "base"] ["denominator", "facts", "most"] (defScope st_bases_by) := ⟨rfl, rfl, rfl, by decide +kernel, rfl, by decide +kernel, by decide +kernel⟩
theorem p_bases_by (D : IsDef K mg "bases_by" st_bases_by) (h_satisfy : Has P w K mg base "satisfy" ["base", "denominator", "facts"] m_satisfy 7) (h_need_most : Has P w K mg base "need_most" ["value", "least", "most"] m_need_most 3) (h_need_facts : Has P w K mg base "need_facts" ["value"] m_need_facts 4) (h_need_denominator : Has P w K mg base "need_denominator" ["value"] m_need_denominator 3) (n_tuple : mg "tuple" = none) (n_list : mg "list" = none) (n_range : mg "range" = none) (g_MOST_BASE : ∃ t, mg "MOST_BASE" = some (.int 1000 t)) : HasL P w K mg base "bases_by" st_bases_by ["denominator", "facts", "most"] m_bases_by 8 := by
  obtain ⟨_, g_MOST_BASE⟩ := g_MOST_BASE
  have nd := sc_bases_by.nd
  refine hasL0 (N := ["denominator", "facts", "most", "some", "base"]) (ps := ["denominator", "facts", "most"]) (k := 7) (body := b_bases_by) D sc_bases_by (by decide) (fun _ _ _ _ _ _ us hl => match us, hl with | [_, _, _], _ => rfl) ?_
  intro f cdv A outer s H E hr hq hc
  exact ds_cons (ds_expr (de_h h_need_denominator hr hq (by decide) rfl (da_cons (de_var 0) (da_nil)))) (ds_cons (ds_expr (de_h h_need_facts hr hq (by decide) rfl (da_cons (de_var 1) (da_nil)))) (ds_cons (ds_set 3 nd (de_listRg2 (pr := ⟨0, 0, 0, 0⟩) rfl rfl n_list rfl n_range (de_int) (de_add (de_h h_need_most hr hq (by decide) rfl (da_cons (de_var 2) (da_cons (de_int) (da_cons (de_gi rfl g_MOST_BASE) (da_nil))))) (dk_of (de_int))))) (ds_one (ds_ret (de_tuple rfl n_tuple (dk_of (de_do (do_lc rfl nd (own := [("base", 4)]) (di_all (de_var 3)) (blkOk_by (by kernel_rfl)) (fun _ _ _ _ _ => dg_name 4 nd) (fun _ _ _ _ _ => dts_one (dt_tru (dk_of (de_h h_satisfy hr hq (by decide) rfl (da_cons (de_var 4) (da_cons (de_var 0) (da_cons (de_var 1) (da_nil)))))))) (fun _ _ _ _ _ => de_var 4) (by decide)))))))))
/-! ### fitting -/
abbrev st_fitting : Stmt := top 118
def b_fitting : Rho → SR := seqS (setS 3 (callF m_fitting_in (consA (var 0) (consA (var 1) (consA (var 2) (nilA)))))) (seqS (ifS (tstF (bin gtD (un lenD (pkF 3)) (cst (.int (1000 : Nat))))) (badS) (skipS)) (retS (un tupleD (pkF 3))))
def m_fitting : Fn := runF 3 4 b_fitting
theorem sc_fitting : FnScope ["base", "seen", "most", "found"] ["base", "seen", "most"] (defScope st_fitting) := ⟨rfl, rfl, rfl, by decide +kernel, rfl, by decide +kernel, by decide +kernel⟩
theorem p_fitting (D : IsDef K mg "fitting" st_fitting) (h_fitting_in : Has P w K mg base "fitting_in" ["base", "seen", "most"] m_fitting_in 5) (n_tuple : mg "tuple" = none) (n_len : mg "len" = none) (g_MOST_TOLD : ∃ t, mg "MOST_TOLD" = some (.int 1000 t)) : HasL P w K mg base "fitting" st_fitting ["base", "seen", "most"] m_fitting 6 := by
  obtain ⟨_, g_MOST_TOLD⟩ := g_MOST_TOLD
  have nd := sc_fitting.nd
  refine hasL0 (N := ["base", "seen", "most", "found"]) (ps := ["base", "seen", "most"]) (k := 5) (body := b_fitting) D sc_fitting (by decide) (fun _ _ _ _ _ _ us hl => match us, hl with | [_, _, _], _ => rfl) ?_
  intro f cdv A outer s H E hr hq hc
  exact ds_cons (ds_set 3 nd (de_h h_fitting_in hr hq (by decide) rfl (da_cons (de_var 0) (da_cons (de_var 1) (da_cons (de_var 2) (da_nil)))))) (ds_cons (ds_if (dt_cmp (op_gt) (opd_cmp _ _) (nomark _) (de_len rfl n_len (dk_var 3)) (dk_of (de_gi rfl g_MOST_TOLD))) (ds_one (ds_never)) (ds_nil)) (ds_one (ds_ret (de_tuple rfl n_tuple (dk_var 3)))))
/-! ### simplest -/
abbrev st_simplest : Stmt := top 119
def b_simplest : Rho → SR := seqS (setS 3 (callF m_fitting_in (consA (var 0) (consA (var 1) (consA (var 2) (nilA)))))) (retS (ifE (tstF (bin neD (var 3) (lstD (nilA)))) (bin ixD (var 3) (cst (.int (0 : Nat)))) (cst .non)))
def m_simplest : Fn := runF 3 4 b_simplest
theorem sc_simplest : FnScope ["base", "seen", "most", "found"] ["base", "seen", "most"] (defScope st_simplest) := ⟨rfl, rfl, rfl, by decide +kernel, rfl, by decide +kernel, by decide +kernel⟩
theorem p_simplest (D : IsDef K mg "simplest" st_simplest) (h_fitting_in : Has P w K mg base "fitting_in" ["base", "seen", "most"] m_fitting_in 5) : HasL P w K mg base "simplest" st_simplest ["base", "seen", "most"] m_simplest 6 := by
  have nd := sc_simplest.nd
  refine hasL0 (N := ["base", "seen", "most", "found"]) (ps := ["base", "seen", "most"]) (k := 5) (body := b_simplest) D sc_simplest (by decide) (fun _ _ _ _ _ _ us hl => match us, hl with | [_, _, _], _ => rfl) ?_
  intro f cdv A outer s H E hr hq hc
  exact ds_cons (ds_set 3 nd (de_h h_fitting_in hr hq (by decide) rfl (da_cons (de_var 0) (da_cons (de_var 1) (da_cons (de_var 2) (da_nil)))))) (ds_one (ds_ret (de_if (dt_cmp (opr_ne (u64 hr)) (opd_ne _) (nomark _) (de_var 3) (dk_of (de_lst (da_nil)))) (de_ix (u1 hr) (de_var 3) (dk_of (de_int)) (fun _ _ => rfl)) (de_non))))
/-! ### is_right -/
abbrev st_is_right : Stmt := top 72
def b_is_right : Rho → SR := seqS (ifS (tstF (bin eqD (bin ixD (var 3) (cst (.int (0 : Nat)))) (cst (.str "exponent")))) (seqS (ifS (notT (truF (callF m_is_whole (consA (bin ixD (var 3) (cst (.int (1 : Nat)))) (consA (cst (.int (1 : Nat))) (consA (cst (.int (10000 : Nat))) (nilA))))))) (retS (cst (.bl false))) (skipS)) (retS (bin eqD (bin modD (bin subD (callF m_power_rest (consA (var 0) (consA (bin ixD (var 3) (cst (.int (1 : Nat)))) (consA (var 1) (nilA))))) (pkF 2)) (pkF 1)) (cst (.int (0 : Nat)))))) (skipS)) (seqS (setS 4 (callF m_remainders_of (consA (var 0) (consA (var 1) (nilA))))) (seqS (ifS (orT (notT (truF (un (isiD .tuple) (bin ixD (var 3) (cst (.int (1 : Nat))))))) (notT (truF (un allD (frzR (lcO (itF (bin ixD (var 3) (cst (.int (1 : Nat))))) (tgN 5) (yesT) (callF m_is_whole (consA (var 5) (consA (cst (.int (0 : Nat))) (consA (bin subD (var 1) (cst (.int (1 : Nat)))) (nilA))))) [5])))))) (retS (cst (.bl false))) (skipS)) (retS (andV (bin eqD (un listD (bin ixD (var 3) (cst (.int (1 : Nat))))) (pkF 4)) (bin ninD (bin modD (var 2) (pkF 1)) (pkF 4))))))
def m_is_right : Fn := runF 4 6 b_is_right
theorem sc_is_right : FnScope ["base", "denominator", "weight", "paper", "due", "rest"] ["base", "denominator", "weight", "paper"] (defScope st_is_right) := ⟨rfl, rfl, rfl, by decide +kernel, rfl, by decide +kernel, by decide +kernel⟩
theorem p_is_right (D : IsDef K mg "is_right" st_is_right) (h_is_whole : Has P w K mg base "is_whole" ["value", "least", "most"] m_is_whole 2) (h_remainders_of : Has P w K mg base "remainders_of" ["base", "denominator"] m_remainders_of 5) (h_power_rest : Has P w K mg base "power_rest" ["base", "exponent", "divisor"] m_power_rest 1) (n_list : mg "list" = none) (n_all : mg "all" = none) (n_isinstance : mg "isinstance" = none) (n_tuple : mg "tuple" = none) (g_EXPONENT : ∃ t, mg "EXPONENT" = some (.str "exponent" t)) (g_MOST_EXPONENT : ∃ t, mg "MOST_EXPONENT" = some (.int 10000 t)) : Has P w K mg base "is_right" ["base", "denominator", "weight", "paper"] m_is_right 6 := by
  obtain ⟨_, g_EXPONENT⟩ := g_EXPONENT
  obtain ⟨_, g_MOST_EXPONENT⟩ := g_MOST_EXPONENT
  have nd := sc_is_right.nd
  refine has0 (N := ["base", "denominator", "weight", "paper", "due", "rest"]) (ps := ["base", "denominator", "weight", "paper"]) (k := 5) (body := b_is_right) D sc_is_right (by decide) (fun _ _ _ _ _ _ us hl => match us, hl with | [_, _, _, _], _ => rfl) ?_
  intro f cdv A outer s H E hr hq hc
  exact ds_cons (ds_if (dt_cmp (opr_eq (u64 hr)) (opd_eq _) (nomark _) (de_ix (u1 hr) (de_var 3) (dk_of (de_int)) (fun _ _ => rfl)) (dk_of (de_gs rfl g_EXPONENT))) (ds_cons (ds_if (dt_not (dt_tru (dk_of (de_h h_is_whole hr hq (by decide) rfl (da_cons (de_ix (u1 hr) (de_var 3) (dk_of (de_int)) (fun _ _ => rfl)) (da_cons (de_int) (da_cons (de_gi rfl g_MOST_EXPONENT) (da_nil)))))))) (ds_one (ds_ret (de_bl))) (ds_nil)) (ds_one (ds_ret (de_cmp (opr_eq (u64 hr)) (opd_eq _) (nomark _) (de_mod (de_sub (de_h h_power_rest hr hq (by decide) rfl (da_cons (de_var 0) (da_cons (de_ix (u1 hr) (de_var 3) (dk_of (de_int)) (fun _ _ => rfl)) (da_cons (de_var 1) (da_nil))))) (dk_var 2)) (dk_var 1)) (dk_of (de_int)))))) (ds_nil)) (ds_cons (ds_set 4 nd (de_h h_remainders_of hr hq (by decide) rfl (da_cons (de_var 0) (da_cons (de_var 1) (da_nil))))) (ds_cons (ds_if (dt_w (dw_or (dt_not (dt_tru (dk_of (de_isi .tuple (by decide) rfl n_isinstance rfl n_tuple (by decide +kernel) (dk_of (de_ix (u1 hr) (de_var 3) (dk_of (de_int)) (fun _ _ => rfl))))))) (dw_or1 (dt_not (dt_tru (dk_of (de_all rfl rfl n_all (dk_of (de_do (do_lc rfl nd (own := [("rest", 5)]) (di_all (de_ix (u1 hr) (de_var 3) (dk_of (de_int)) (fun _ _ => rfl))) (blkOk_by (by kernel_rfl)) (fun _ _ _ _ _ => dg_name 5 nd) (fun _ _ _ _ _ => dts_nil) (fun _ _ _ _ _ => de_h h_is_whole hr hq (by decide) rfl (da_cons (de_var 5) (da_cons (de_int) (da_cons (de_sub (de_var 1) (dk_of (de_int))) (da_nil))))) (by decide))))))))))) (ds_one (ds_ret (de_bl))) (ds_nil)) (ds_one (ds_ret (de_and (de_cmp (opr_eq (u64 hr)) (opd_eq _) (nomark _) (de_list rfl n_list (dk_of (de_ix (u1 hr) (de_var 3) (dk_of (de_int)) (fun _ _ => rfl)))) (dk_var 4)) (de_one (de_cmp (opr_nin (u1 hr)) (opd_nin _) (by rfl) (de_mod (de_var 2) (dk_var 1)) (dk_var 4))))))))
/-! ### check_exponent -/
abbrev st_check_exponent : Stmt := top 73
def b_check_exponent : Rho → SR := seqS (exprS (callF m_need_base (consA (var 0) (nilA)))) (seqS (exprS (callF m_need_denominator (consA (var 1) (nilA)))) (seqS (exprS (callF m_need_weight (consA (var 2) (nilA)))) (seqS (ifS (orT (notT (truF (un (isiD .tuple) (pkF 3)))) (orT (tstF (bin neD (un lenD (pkF 3)) (cst (.int (2 : Nat))))) (notT (truF (un (isiD .str) (bin ixD (var 3) (cst (.int (0 : Nat))))))))) (badS) (skipS)) (seqS (ifS (tstF (bin ninD (bin ixD (var 3) (cst (.int (0 : Nat)))) (tupD (consA (cst (.str "exponent")) (consA (cst (.str "never")) (nilA)))))) (badS) (skipS)) (seqS (ifS (notT (truF (callF m_is_right (consA (var 0) (consA (var 1) (consA (var 2) (consA (var 3) (nilA)))))))) (badS) (skipS)) (retS (bin ixD (var 3) (cst (.int (0 : Nat))))))))))
def m_check_exponent : Fn := runF 4 4 b_check_exponent
theorem sc_check_exponent : FnScope ["base", "denominator", "weight", "paper"] ["base", "denominator", "weight", "paper"] (defScope st_check_exponent) := ⟨rfl, rfl, rfl, by decide +kernel, rfl, by decide +kernel, by decide +kernel⟩
theorem p_check_exponent (D : IsDef K mg "check_exponent" st_check_exponent) (h_is_right : Has P w K mg base "is_right" ["base", "denominator", "weight", "paper"] m_is_right 6) (h_need_weight : Has P w K mg base "need_weight" ["value"] m_need_weight 4) (h_need_denominator : Has P w K mg base "need_denominator" ["value"] m_need_denominator 3) (h_need_base : Has P w K mg base "need_base" ["value"] m_need_base 3) (n_isinstance : mg "isinstance" = none) (n_str : mg "str" = none) (n_len : mg "len" = none) (n_tuple : mg "tuple" = none) (g_NEVER : ∃ t, mg "NEVER" = some (.str "never" t)) (g_EXPONENT : ∃ t, mg "EXPONENT" = some (.str "exponent" t)) : HasL P w K mg base "check_exponent" st_check_exponent ["base", "denominator", "weight", "paper"] m_check_exponent 7 := by
  obtain ⟨_, g_NEVER⟩ := g_NEVER
  obtain ⟨_, g_EXPONENT⟩ := g_EXPONENT
  have nd := sc_check_exponent.nd
  refine hasL0 (N := ["base", "denominator", "weight", "paper"]) (ps := ["base", "denominator", "weight", "paper"]) (k := 6) (body := b_check_exponent) D sc_check_exponent (by decide) (fun _ _ _ _ _ _ us hl => match us, hl with | [_, _, _, _], _ => rfl) ?_
  intro f cdv A outer s H E hr hq hc
  exact ds_cons (ds_expr (de_h h_need_base hr hq (by decide) rfl (da_cons (de_var 0) (da_nil)))) (ds_cons (ds_expr (de_h h_need_denominator hr hq (by decide) rfl (da_cons (de_var 1) (da_nil)))) (ds_cons (ds_expr (de_h h_need_weight hr hq (by decide) rfl (da_cons (de_var 2) (da_nil)))) (ds_cons (ds_if (dt_w (dw_or (dt_not (dt_tru (dk_of (de_isi .tuple (by decide) rfl n_isinstance rfl n_tuple (by decide +kernel) (dk_var 3))))) (dw_or (dt_cmp (opr_ne (u64 hr)) (opd_ne _) (nomark _) (de_len rfl n_len (dk_var 3)) (dk_of (de_int))) (dw_or1 (dt_not (dt_tru (dk_of (de_isi .str (by decide) rfl n_isinstance rfl n_str (by decide +kernel) (dk_of (de_ix (u1 hr) (de_var 3) (dk_of (de_int)) (fun _ _ => rfl))))))))))) (ds_one (ds_never)) (ds_nil)) (ds_cons (ds_if (dt_cmp (opr_nin (u1 hr)) (opd_nin _) (by rfl) (de_ix (u1 hr) (de_var 3) (dk_of (de_int)) (fun _ _ => rfl)) (dk_of (de_tup (da_cons (de_gs rfl g_EXPONENT) (da_cons (de_gs rfl g_NEVER) (da_nil)))))) (ds_one (ds_never)) (ds_nil)) (ds_cons (ds_if (dt_not (dt_tru (dk_of (de_h h_is_right hr hq (by decide) rfl (da_cons (de_var 0) (da_cons (de_var 1) (da_cons (de_var 2) (da_cons (de_var 3) (da_nil))))))))) (ds_one (ds_never)) (ds_nil)) (ds_one (ds_ret (de_ix (u1 hr) (de_var 3) (dk_of (de_int)) (fun _ _ => rfl)))))))))
/-! ### _law_others_right -/
abbrev st__law_others_right : Stmt := top 126
def b__law_others_right : Rho → SR := seqS (parP [4, 5, 6] [frO (tupD (consA (cst (.int (1 : Nat))) (consA (cst .non) (nilA)))), frO (tupD (consA (tupD (consA (cst (.str "period")) (consA (cst (.int (6 : Nat))) (nilA)))) (consA (tupD (consA (cst (.str "head")) (consA (cst (.int (0 : Nat))) (nilA)))) (nilA)))), frO (callF m_exponent_paper (consA (var 0) (consA (var 1) (consA (cst (.int (2 : Nat))) (nilA)))))]) (seqS (setOS 2 (lstO (consA (callF (kwF [1, 0] 2 m_need_seen) (consA (var 4) (consA (var 0) (nilA)))) (consA (callF (kwF [2, 1, 0] 3 m_fits) (consA (var 4) (consA (tupD (consA (cst (.int (1 : Nat))) (consA (cst (.int (7 : Nat))) (nilA)))) (consA (var 0) (nilA))))) (nilA))))) (seqS (setOS 2 (catPO 2 (lstD (consA (callF (kwF [2, 1, 0] 3 m_fitting) (consA (cst (.int (9 : Nat))) (consA (var 4) (consA (var 0) (nilA))))) (consA (callF (kwF [2, 1, 0] 3 m_simplest) (consA (cst (.int (9 : Nat))) (consA (var 4) (consA (var 0) (nilA))))) (nilA)))))) (seqS (appS 2 (callF (kwF [3, 2, 1, 0] 4 m_sure_digits) (consA (cst (.int (5 : Nat))) (consA (cst (.int (7 : Nat))) (consA (tupD (consA (cst .non) (nilA))) (consA (var 0) (nilA))))))) (seqS (appS 2 (callF (kwF [3, 2, 1, 0] 4 m_block_sum) (consA (cst (.int (12345 : Nat))) (consA (un negD (cst (.int (3 : Nat)))) (consA (cst (.int (2 : Nat))) (consA (var 0) (nilA))))))) (seqS (appS 2 (callF (kwF [2, 1, 0] 3 m_exponents) (consA (cst (.int (2 : Nat))) (consA (var 1) (consA (var 0) (nilA)))))) (seqS (appS 2 (callF (kwF [3, 2, 1, 0] 4 m_keeps_remainders) (consA (cst (.int (3 : Nat))) (consA (cst (.int (1 : Nat))) (consA (cst (.int (7 : Nat))) (consA (cst (.int (10 : Nat))) (nilA))))))) (seqS (appS 2 (callF (kwF [2, 1, 0] 3 m_exponent_paper) (consA (cst (.int (2 : Nat))) (consA (var 1) (consA (var 0) (nilA)))))) (seqS (setOS 2 (catPO 2 (lstD (consA (callF (kwF [3, 2, 1, 0] 4 m_check_exponent) (consA (var 6) (consA (cst (.int (2 : Nat))) (consA (var 1) (consA (var 0) (nilA)))))) (consA (callF (kwF [0] 1 m_need_facts) (consA (var 5) (nilA))) (nilA)))))) (seqS (appS 2 (callF (kwF [2, 1, 0] 3 m_is_satisfied) (consA (var 5) (consA (cst (.int (7 : Nat))) (consA (cst (.int (10 : Nat))) (nilA)))))) (seqS (appS 2 (callF (kwF [2, 1, 0] 3 m_denominators_by) (consA (cst (.int (60 : Nat))) (consA (var 5) (consA (cst (.int (10 : Nat))) (nilA)))))) (seqS (appS 2 (callF (kwF [2, 1, 0] 3 m_bases_by) (consA (cst (.int (30 : Nat))) (consA (var 5) (consA (cst (.int (7 : Nat))) (nilA)))))) (seqS (setOS 3 (lstO (consA (callF m_need_seen (consA (var 0) (consA (var 4) (nilA)))) (consA (callF m_fits (consA (var 0) (consA (tupD (consA (cst (.int (1 : Nat))) (consA (cst (.int (7 : Nat))) (nilA)))) (consA (var 4) (nilA))))) (consA (callF m_fitting (consA (var 0) (consA (var 4) (consA (cst (.int (9 : Nat))) (nilA))))) (consA (callF m_simplest (consA (var 0) (consA (var 4) (consA (cst (.int (9 : Nat))) (nilA))))) (nilA))))))) (seqS (setOS 3 (catPO 3 (lstD (consA (callF m_sure_digits (consA (var 0) (consA (tupD (consA (cst .non) (nilA))) (consA (cst (.int (7 : Nat))) (consA (cst (.int (5 : Nat))) (nilA)))))) (consA (callF m_block_sum (consA (var 0) (consA (cst (.int (2 : Nat))) (consA (un negD (cst (.int (3 : Nat)))) (consA (cst (.int (12345 : Nat))) (nilA)))))) (consA (callF m_exponents (consA (var 0) (consA (var 1) (consA (cst (.int (2 : Nat))) (nilA))))) (nilA))))))) (seqS (setOS 3 (catPO 3 (lstD (consA (callF m_keeps_remainders (consA (cst (.int (10 : Nat))) (consA (cst (.int (7 : Nat))) (consA (cst (.int (1 : Nat))) (consA (cst (.int (3 : Nat))) (nilA)))))) (consA (callF m_exponent_paper (consA (var 0) (consA (var 1) (consA (cst (.int (2 : Nat))) (nilA))))) (consA (callF m_check_exponent (consA (var 0) (consA (var 1) (consA (cst (.int (2 : Nat))) (consA (var 6) (nilA)))))) (nilA))))))) (seqS (setOS 3 (catPO 3 (lstD (consA (callF m_need_facts (consA (var 5) (nilA))) (consA (callF m_is_satisfied (consA (cst (.int (10 : Nat))) (consA (cst (.int (7 : Nat))) (consA (var 5) (nilA))))) (consA (callF m_denominators_by (consA (cst (.int (10 : Nat))) (consA (var 5) (consA (cst (.int (60 : Nat))) (nilA))))) (nilA))))))) (seqS (appS 3 (callF m_bases_by (consA (cst (.int (7 : Nat))) (consA (var 5) (consA (cst (.int (30 : Nat))) (nilA)))))) (retS (bin eqD (un reprD (pkF 2)) (un reprD (pkF 3))))))))))))))))))))
def m__law_others_right : Fn := runF 2 7 b__law_others_right
theorem sc__law_others_right : FnScope ["b", "n", "named", "due", "some", "told_so", "sheet"] ["b", "n"] (defScope st__law_others_right) := ⟨rfl, rfl, rfl, by decide +kernel, rfl, by decide +kernel, by decide +kernel⟩
theorem p__law_others_right (D : IsDef K mg "_law_others_right" st__law_others_right) (h_bases_by : Has P w K mg base "bases_by" ["denominator", "facts", "most"] m_bases_by 8) (h_denominators_by : Has P w K mg base "denominators_by" ["base", "facts", "most"] m_denominators_by 8) (h_is_satisfied : Has P w K mg base "is_satisfied" ["base", "denominator", "facts"] m_is_satisfied 8) (h_need_facts : Has P w K mg base "need_facts" ["value"] m_need_facts 4) (h_check_exponent : Has P w K mg base "check_exponent" ["base", "denominator", "weight", "paper"] m_check_exponent 7) (h_exponent_paper : Has P w K mg base "exponent_paper" ["base", "denominator", "weight"] m_exponent_paper 8) (h_keeps_remainders : Has P w K mg base "keeps_remainders" ["base", "denominator", "size", "weight"] m_keeps_remainders 5) (h_exponents : Has P w K mg base "exponents" ["base", "denominator", "weight"] m_exponents 7) (h_block_sum : Has P w K mg base "block_sum" ["base", "size", "weight", "number"] m_block_sum 5) (h_sure_digits : Has P w K mg base "sure_digits" ["base", "seen", "most", "count"] m_sure_digits 6) (h_simplest : Has P w K mg base "simplest" ["base", "seen", "most"] m_simplest 6) (h_fitting : Has P w K mg base "fitting" ["base", "seen", "most"] m_fitting 6) (h_fits : Has P w K mg base "fits" ["base", "fraction", "seen"] m_fits 5) (h_need_seen : Has P w K mg base "need_seen" ["base", "value"] m_need_seen 4) (l_bases_by : HasL P w K mg base "bases_by" st_bases_by ["denominator", "facts", "most"] m_bases_by 8) (l_denominators_by : HasL P w K mg base "denominators_by" st_denominators_by ["base", "facts", "most"] m_denominators_by 8) (l_is_satisfied : HasL P w K mg base "is_satisfied" st_is_satisfied ["base", "denominator", "facts"] m_is_satisfied 8) (l_need_facts : HasL P w K mg base "need_facts" st_need_facts ["value"] m_need_facts 4) (l_check_exponent : HasL P w K mg base "check_exponent" st_check_exponent ["base", "denominator", "weight", "paper"] m_check_exponent 7) (l_exponent_paper : HasL P w K mg base "exponent_paper" st_exponent_paper ["base", "denominator", "weight"] m_exponent_paper 8) (l_keeps_remainders : HasL P w K mg base "keeps_remainders" st_keeps_remainders ["base", "denominator", "size", "weight"] m_keeps_remainders 5) (l_exponents : HasL P w K mg base "exponents" st_exponents ["base", "denominator", "weight"] m_exponents 7) (l_block_sum : HasL P w K mg base "block_sum" st_block_sum ["base", "size", "weight", "number"] m_block_sum 5) (l_sure_digits : HasL P w K mg base "sure_digits" st_sure_digits ["base", "seen", "most", "count"] m_sure_digits 6) (l_simplest : HasL P w K mg base "simplest" st_simplest ["base", "seen", "most"] m_simplest 6) (l_fitting : HasL P w K mg base "fitting" st_fitting ["base", "seen", "most"] m_fitting 6) (l_fits : HasL P w K mg base "fits" st_fits ["base", "fraction", "seen"] m_fits 5) (l_need_seen : HasL P w K mg base "need_seen" st_need_seen ["base", "value"] m_need_seen 4) (n_repr : mg "repr" = none) : Has P w K mg base "_law_others_right" ["b", "n"] m__law_others_right 9 := by
  have nd := sc__law_others_right.nd
  refine has0 (N := ["b", "n", "named", "due", "some", "told_so", "sheet"]) (ps := ["b", "n"]) (k := 8) (body := b__law_others_right) D sc__law_others_right (by decide) (fun _ _ _ _ _ _ us hl => match us, hl with | [_, _], _ => rfl) ?_
  intro f cdv A outer s H E hr hq hc
  exact ds_cons (ds_par3 (i := 4) (j := 5) (l := 6) rfl nd (by decide) (by decide) (by decide) (dps_cons (do_fr (de_tup (da_cons (de_int) (da_cons (de_non) (da_nil))))) (dps_cons (do_fr (de_tup (da_cons (de_tup (da_cons (de_str) (da_cons (de_int) (da_nil)))) (da_cons (de_tup (da_cons (de_str) (da_cons (de_int) (da_nil)))) (da_nil))))) (dps_cons (do_fr (de_h h_exponent_paper hr hq (by decide) rfl (da_cons (de_var 0) (da_cons (de_var 1) (da_cons (de_int) (da_nil)))))) (dps_nil)))) (by rfl)) (ds_cons (ds_setO 2 nd (do_lst (da_cons (de_hK ["value", "base"] [1, 0] l_need_seen hr hq (by decide) rfl (dk_cons (de_var 4) (dk_cons (de_var 0) (dk_nil))) (fun _ _ _ _ _ _ us hl => match us, hl with | [_, _], _ => rfl)) (da_cons (de_hK ["seen", "fraction", "base"] [2, 1, 0] l_fits hr hq (by decide) rfl (dk_cons (de_var 4) (dk_cons (de_tup (da_cons (de_int) (da_cons (de_int) (da_nil)))) (dk_cons (de_var 0) (dk_nil)))) (fun _ _ _ _ _ _ us hl => match us, hl with | [_, _, _], _ => rfl)) (da_nil))))) (ds_cons (ds_setO 2 nd (do_catP (pv 2) (dk_of (de_lst (da_cons (de_hK ["most", "seen", "base"] [2, 1, 0] l_fitting hr hq (by decide) rfl (dk_cons (de_int) (dk_cons (de_var 4) (dk_cons (de_var 0) (dk_nil)))) (fun _ _ _ _ _ _ us hl => match us, hl with | [_, _, _], _ => rfl)) (da_cons (de_hK ["most", "seen", "base"] [2, 1, 0] l_simplest hr hq (by decide) rfl (dk_cons (de_int) (dk_cons (de_var 4) (dk_cons (de_var 0) (dk_nil)))) (fun _ _ _ _ _ _ us hl => match us, hl with | [_, _, _], _ => rfl)) (da_nil))))))) (ds_cons (ds_app 2 (pv 2) (de_hK ["count", "most", "seen", "base"] [3, 2, 1, 0] l_sure_digits hr hq (by decide) rfl (dk_cons (de_int) (dk_cons (de_int) (dk_cons (de_tup (da_cons (de_non) (da_nil))) (dk_cons (de_var 0) (dk_nil))))) (fun _ _ _ _ _ _ us hl => match us, hl with | [_, _, _, _], _ => rfl))) (ds_cons (ds_app 2 (pv 2) (de_hK ["number", "weight", "size", "base"] [3, 2, 1, 0] l_block_sum hr hq (by decide) rfl (dk_cons (de_int) (dk_cons (de_neg (de_int)) (dk_cons (de_int) (dk_cons (de_var 0) (dk_nil))))) (fun _ _ _ _ _ _ us hl => match us, hl with | [_, _, _, _], _ => rfl))) (ds_cons (ds_app 2 (pv 2) (de_hK ["weight", "denominator", "base"] [2, 1, 0] l_exponents hr hq (by decide) rfl (dk_cons (de_int) (dk_cons (de_var 1) (dk_cons (de_var 0) (dk_nil)))) (fun _ _ _ _ _ _ us hl => match us, hl with | [_, _, _], _ => rfl))) (ds_cons (ds_app 2 (pv 2) (de_hK ["weight", "size", "denominator", "base"] [3, 2, 1, 0] l_keeps_remainders hr hq (by decide) rfl (dk_cons (de_int) (dk_cons (de_int) (dk_cons (de_int) (dk_cons (de_int) (dk_nil))))) (fun _ _ _ _ _ _ us hl => match us, hl with | [_, _, _, _], _ => rfl))) (ds_cons (ds_app 2 (pv 2) (de_hK ["weight", "denominator", "base"] [2, 1, 0] l_exponent_paper hr hq (by decide) rfl (dk_cons (de_int) (dk_cons (de_var 1) (dk_cons (de_var 0) (dk_nil)))) (fun _ _ _ _ _ _ us hl => match us, hl with | [_, _, _], _ => rfl))) (ds_cons (ds_setO 2 nd (do_catP (pv 2) (dk_of (de_lst (da_cons (de_hK ["paper", "weight", "denominator", "base"] [3, 2, 1, 0] l_check_exponent hr hq (by decide) rfl (dk_cons (de_var 6) (dk_cons (de_int) (dk_cons (de_var 1) (dk_cons (de_var 0) (dk_nil))))) (fun _ _ _ _ _ _ us hl => match us, hl with | [_, _, _, _], _ => rfl)) (da_cons (de_hK ["value"] [0] l_need_facts hr hq (by decide) rfl (dk_cons (de_var 5) (dk_nil)) (fun _ _ _ _ _ _ us hl => match us, hl with | [_], _ => rfl)) (da_nil))))))) (ds_cons (ds_app 2 (pv 2) (de_hK ["facts", "denominator", "base"] [2, 1, 0] l_is_satisfied hr hq (by decide) rfl (dk_cons (de_var 5) (dk_cons (de_int) (dk_cons (de_int) (dk_nil)))) (fun _ _ _ _ _ _ us hl => match us, hl with | [_, _, _], _ => rfl))) (ds_cons (ds_app 2 (pv 2) (de_hK ["most", "facts", "base"] [2, 1, 0] l_denominators_by hr hq (by decide) rfl (dk_cons (de_int) (dk_cons (de_var 5) (dk_cons (de_int) (dk_nil)))) (fun _ _ _ _ _ _ us hl => match us, hl with | [_, _, _], _ => rfl))) (ds_cons (ds_app 2 (pv 2) (de_hK ["most", "facts", "denominator"] [2, 1, 0] l_bases_by hr hq (by decide) rfl (dk_cons (de_int) (dk_cons (de_var 5) (dk_cons (de_int) (dk_nil)))) (fun _ _ _ _ _ _ us hl => match us, hl with | [_, _, _], _ => rfl))) (ds_cons (ds_setO 3 nd (do_lst (da_cons (de_h h_need_seen hr hq (by decide) rfl (da_cons (de_var 0) (da_cons (de_var 4) (da_nil)))) (da_cons (de_h h_fits hr hq (by decide) rfl (da_cons (de_var 0) (da_cons (de_tup (da_cons (de_int) (da_cons (de_int) (da_nil)))) (da_cons (de_var 4) (da_nil))))) (da_cons (de_h h_fitting hr hq (by decide) rfl (da_cons (de_var 0) (da_cons (de_var 4) (da_cons (de_int) (da_nil))))) (da_cons (de_h h_simplest hr hq (by decide) rfl (da_cons (de_var 0) (da_cons (de_var 4) (da_cons (de_int) (da_nil))))) (da_nil))))))) (ds_cons (ds_setO 3 nd (do_catP (pv 3) (dk_of (de_lst (da_cons (de_h h_sure_digits hr hq (by decide) rfl (da_cons (de_var 0) (da_cons (de_tup (da_cons (de_non) (da_nil))) (da_cons (de_int) (da_cons (de_int) (da_nil)))))) (da_cons (de_h h_block_sum hr hq (by decide) rfl (da_cons (de_var 0) (da_cons (de_int) (da_cons (de_neg (de_int)) (da_cons (de_int) (da_nil)))))) (da_cons (de_h h_exponents hr hq (by decide) rfl (da_cons (de_var 0) (da_cons (de_var 1) (da_cons (de_int) (da_nil))))) (da_nil)))))))) (ds_cons (ds_setO 3 nd (do_catP (pv 3) (dk_of (de_lst (da_cons (de_h h_keeps_remainders hr hq (by decide) rfl (da_cons (de_int) (da_cons (de_int) (da_cons (de_int) (da_cons (de_int) (da_nil)))))) (da_cons (de_h h_exponent_paper hr hq (by decide) rfl (da_cons (de_var 0) (da_cons (de_var 1) (da_cons (de_int) (da_nil))))) (da_cons (de_h h_check_exponent hr hq (by decide) rfl (da_cons (de_var 0) (da_cons (de_var 1) (da_cons (de_int) (da_cons (de_var 6) (da_nil)))))) (da_nil)))))))) (ds_cons (ds_setO 3 nd (do_catP (pv 3) (dk_of (de_lst (da_cons (de_h h_need_facts hr hq (by decide) rfl (da_cons (de_var 5) (da_nil))) (da_cons (de_h h_is_satisfied hr hq (by decide) rfl (da_cons (de_int) (da_cons (de_int) (da_cons (de_var 5) (da_nil))))) (da_cons (de_h h_denominators_by hr hq (by decide) rfl (da_cons (de_int) (da_cons (de_var 5) (da_cons (de_int) (da_nil))))) (da_nil)))))))) (ds_cons (ds_app 3 (pv 3) (de_h h_bases_by hr hq (by decide) rfl (da_cons (de_int) (da_cons (de_var 5) (da_cons (de_int) (da_nil)))))) (ds_one (ds_ret (de_cmp (opr_eq (u64 hr)) (opd_eq _) (nomark _) (de_repr (u64 hr) hq rfl n_repr (dk_var 2)) (dk_of (de_repr (u64 hr) hq rfl n_repr (dk_var 3))))))))))))))))))))))
/-! ### law -/
abbrev st_law : Stmt := top 128
def b_law : Rho → SR := seqS (forS (rngF rngD1 (consA (bin addD (cst (.int (2 : Nat))) (cb min2D (consA (un lenD (pkF 0)) (consA (cst (.int (4 : Nat))) (nilA))))) (nilA))) (tgN 1) (seqS (setOS 2 (callO m__law_begun (consA (var 0) (consA (var 1) (nilA))))) (seqS (parP [4, 5] [frO (callM m__law_of 2 (consA (lstD (consA (cst (.int (2 : Nat))) (consA (cst (.int (3 : Nat))) (consA (cst (.int (10 : Nat))) (consA (cst (.int (12 : Nat))) (consA (cst (.int (60 : Nat))) (nilA))))))) (nilA))), frO (callM m__law_of 2 (consA (lstD (consA (cst (.int (1 : Nat))) (consA (cst (.int (7 : Nat))) (consA (cst (.int (12 : Nat))) (consA (cst (.int (21 : Nat))) (consA (cst (.int (40 : Nat))) (consA (cst (.int (81 : Nat))) (nilA)))))))) (nilA)))]) (forS (rngF rngD1 (consA (cst (.int (2 : Nat))) (nilA))) (tgN 3) (ifS (orT (notT (truF (callF m__law_periods_right (consA (var 4) (consA (var 5) (nilA)))))) (notT (truF (callF m__law_others_right (consA (var 4) (consA (var 5) (nilA))))))) (retS (cst (.bl false))) (skipS)))))) (retS (callF m__law_hand_right nilA))
def m_law : Fn := runF 1 6 b_law
theorem sc_law : FnScope ["script", "k", "m", "again", "b", "n"] ["script"] (defScope st_law) := ⟨rfl, rfl, rfl, by decide +kernel, rfl, by decide +kernel, by decide +kernel⟩
theorem p_law {f : Addr} {fd : FuncData} (F : FunD K "law" "law" (defArgs st_law) (defBody st_law) (defScope st_law) [] [] f fd) (h__law_hand_right : Has P w K mg base "_law_hand_right" [] m__law_hand_right 8) (h__law_others_right : Has P w K mg base "_law_others_right" ["b", "n"] m__law_others_right 9) (h__law_periods_right : Has P w K mg base "_law_periods_right" ["b", "n"] m__law_periods_right 8) (h__law_of : HasM P w K mg base "_law_of" ["m", "some"] m__law_of 2) (h__law_begun : Has P w K mg base "_law_begun" ["script", "k"] m__law_begun 1) (n_len : mg "len" = none) (n_min : mg "min" = none) (n_range : mg "range" = none) : FnG P w K mg base CX0 10 f fd ["script"] (spF ⟨K, mg⟩ m_law) := by
  have nd := sc_law.nd
  refine fnD0 (N := ["script", "k", "m", "again", "b", "n"]) (ps := ["script"]) (k := 9) (body := b_law) F sc_law (by decide) ?_
  intro cdv A outer s H E hr hq hc
  exact ds_cons (ds_for PassesOwn.never rfl (di_range1 rfl n_range (da_cons (de_add (de_int) (dk_of (de_min2 rfl rfl n_min (da_cons (de_len rfl n_len (dk_var 0)) (da_cons (de_int) (da_nil)))))) (da_nil))) (dg_name 1 nd) (ds_cons (ds_setO 2 nd (do_h h__law_begun hr hq (by decide) rfl (da_cons (de_var 0) (da_cons (de_var 1) (da_nil))))) (ds_cons (ds_par2 (i := 4) (j := 5) rfl nd (by decide) (dps_cons (do_fr (de_hM h__law_of hr hq (by decide) rfl (pv 2) (da_cons (de_lst (da_cons (de_int) (da_cons (de_int) (da_cons (de_int) (da_cons (de_int) (da_cons (de_int) (da_nil))))))) (da_nil)))) (dps_cons (do_fr (de_hM h__law_of hr hq (by decide) rfl (pv 2) (da_cons (de_lst (da_cons (de_int) (da_cons (de_int) (da_cons (de_int) (da_cons (de_int) (da_cons (de_int) (da_cons (de_int) (da_nil)))))))) (da_nil)))) (dps_nil))) (by rfl)) (ds_one (ds_for PassesOwn.never rfl (di_range1 rfl n_range (da_cons (de_int) (da_nil))) (dg_name 3 nd) (ds_one (ds_if (dt_w (dw_or (dt_not (dt_tru (dk_of (de_h h__law_periods_right hr hq (by decide) rfl (da_cons (de_var 4) (da_cons (de_var 5) (da_nil))))))) (dw_or1 (dt_not (dt_tru (dk_of (de_h h__law_others_right hr hq (by decide) rfl (da_cons (de_var 4) (da_cons (de_var 5) (da_nil)))))))))) (ds_one (ds_ret (de_bl))) (ds_nil)))))))) (ds_one (ds_ret (de_h0 h__law_hand_right hr hq (by decide) rfl)))
end
end LAW

set_option Elab.async false
set_option linter.all false
set_option autoImplicit false
set_option maxRecDepth 100000
set_option maxHeartbeats 4000000
namespace LAW
open PySem DW PL
open L2 (Key)
abbrev I (n : Int) : Option Sl := some (.fr (.int n))
abbrev V (d : Dt) : Option Sl := some (.fr d)
/-! numbers -/
theorem is_integer_ok (v : Int) : m_is_integer [.int v] = .ok (.fr (.bl true)) := rfl
theorem is_whole_ok {v lo hi : Nat} (h : lo ≤ v ∧ v ≤ hi) : m_is_whole [.int v, .int lo, .int hi] = .ok (.fr (.bl true)) := by
  simp -implicitDefEqProofs (disch := (first | omega | assumption)) only [PL.x_Rof, PL.x_cst, PL.x_var, PL.x_var1f, PL.x_var1l, PL.x_var1d, PL.x_pk, PL.x_pk1f, PL.x_pk1l, PL.x_pk1d, PL.x_pk1i, PL.x_pkF, PL.x_un1, PL.x_un, PL.x_truF, PL.x_bOf, PL.x_tstF, PL.x_notT, PL.x_bin1, PL.x_bin, PL.x_bp3, PL.x_bp2, PL.x_bp1, PL.x_binP, PL.x_andT, PL.x_orT, PL.x_and1t, PL.x_and1f, PL.x_or1t, PL.x_or1f, PL.x_andV, PL.x_orV, PL.x_andV1t, PL.x_andV1f, PL.x_orV1t, PL.x_orV1f, PL.x_ifE, PL.x_ifE1t, PL.x_ifE1f, PL.x_chainD, PL.x_ch1, PL.x_ch2, PL.x_ch3t, PL.x_ch3f, PL.x_nilA, PL.x_consA, PL.x_cons1, PL.x_cons2, PL.x_few, PL.x_mk1, PL.x_tupD, PL.x_lstD, PL.x_lstO, PL.x_dctO0, PL.x_frO, PL.x_cb, PL.x_noP, PL.x_iOf, PL.x_someP, PL.x_sl31, PL.x_sl32, PL.x_sl3, PL.x_slK1, PL.x_slK, PL.x_frF, PL.x_frS1, PL.x_frS2, PL.x_frS3, PL.x_cal1, PL.x_callF, PL.x_callO, PL.x_FMof, PL.x_cm1, PL.x_cm2, PL.x_cm3, PL.x_callM, PL.x_FMO, PL.x_cmo1, PL.x_cmo2, PL.x_callMO, PL.x_frzR, PL.x_itF, PL.x_rngF, PL.x_OLof, PL.x_lc2, PL.x_lc1, PL.x_lcO, PL.x_cat1, PL.x_catO, PL.x_cp1, PL.x_cp2, PL.x_cp3, PL.x_catPO, PL.x_SBn, PL.x_SBr, PL.x_skipS, PL.x_badS, PL.x_seqS, PL.x_nxO, PL.x_set1, PL.x_setS, PL.x_setO1f, PL.x_setO1l, PL.x_setO1d, PL.x_setOS, PL.x_ret1, PL.x_retO1, PL.x_exp1, PL.x_retS, PL.x_retOS, PL.x_exprS, PL.x_ifS, PL.x_if1t, PL.x_if1f, PL.x_asg1, PL.x_asgS, PL.x_argsP0, PL.x_ap1f, PL.x_ap1l, PL.x_ap1d, PL.x_ap2, PL.x_argsP, PL.x_par1, PL.x_parP, PL.x_putP0, PL.x_pp1, PL.x_putP, PL.x_app1, PL.x_app2, PL.x_nxB, PL.x_app3, PL.x_appS, PL.x_dp1, PL.x_dp2, PL.x_dp3, PL.x_dp4, PL.x_dputS, PL.x_keyI, PL.x_keyS, PL.x_up1, PL.x_up2, PL.x_up3, PL.x_updS, PL.x_for1, PL.x_forS, PL.x_RTr, PL.x_RTn, PL.x_rf1, PL.x_runF, PL.x_RMr, PL.x_RMn, PL.x_MIo, PL.x_ioOf, PL.x_rm1, PL.x_runM, PL.x_putR, PL.x_putR0f, PL.x_putR0l, PL.x_putR0d, PL.x_putR0n, PL.x_noIof, PL.x_noIol, PL.x_noIod, PL.x_noIon, PL.x_tgN, PL.x_tgT, PL.x_putAll0, PL.x_pa1, PL.x_putAll, PL.x_dAt, PL.x_dSlo, PL.x_dSli, PL.x_dPut, PL.x_dPuo, PL.x_dPui, PL.x_lAt, PL.x_lSl, PL.x_envOf, PL.x_envM, PL.x_toDl, PL.x_toDd, PL.x_toDf, PL.x_nof, PL.x_nol, PL.x_nod, PL.x_okW, PL.x_wipe0, PL.x_wipe, PL.x_yesT, PL.n_add, PL.n_mul, PL.n_mod, PL.n_div, PL.n_sub, PL.n_lt, PL.n_le, PL.n_eq, PL.d_t, PL.d_f, PL.y_add, PL.y_sub, PL.y_mod, PL.y_div, PL.y_mulL, PL.y_mulR, PL.y_lt, PL.y_le, PL.y_gt, PL.y_ge, PL.y_cmp, PL.y_eq, PL.y_ne, PL.y_int, PL.y_notD, PL.y_truB, PL.y_neg, PL.y_isi_n, PL.y_isi_b, PL.y_isi_i, PL.y_isi_s, PL.y_isi_l, PL.y_isi_t, PL.y_isi_d, PL.y_isi_c, PL.l_len, PL.l_lenT, PL.l_it, PL.l_itT, PL.l_tuple, PL.l_list, PL.l_listL, PL.l_ix, PL.l_ixT, PL.l_sum, PL.l_eq, PL.l_ne, PL.l_eq0, PL.l_ne0, PL.l_eqT, PL.l_in, PL.l_nin, PL.l_cat, PL.l_catT, PL.l_stp, PL.l_rng1, PL.l_rng2, PL.x_fb, PL.x_fb1, PL.l_eq00, PL.l_ne00, PL.l_eq01, PL.l_ne01, PL.l_lenS, PL.x_ODof, PL.x_dc2, PL.x_dc1, PL.x_dcO, PL.l_nin_tk, PL.l_in_tk, PL.l_min, PL.l_slT, PL.l_slL, PL.l_rng3, PL.x_rgl2, PL.x_rgl1, PL.x_rgList, PL.x_rgTup, PL.x_gp3, PL.x_gp2, PL.x_gp1, PL.x_getP, PL.x_mt2, PL.x_mt1, PL.x_meth1, PL.l_isL, PL.x_XRo, PL.x_XRe, PL.x_calX, PL.x_calXe, PL.x_callX, PL.x_rai1, PL.x_rai, PL.x_try3, PL.x_try2, PL.x_try2f, PL.x_try1, PL.x_try1r, PL.x_try1n, PL.x_tryR, PL.x_exu1, PL.x_exb1, PL.x_exc1, PL.x_exc2, PL.x_exm1, PL.x_exSB, PL.x_exr1, PL.x_exe1, PL.x_exi1, PL.x_exRT, PL.x_OL2, PL.x_l2b, PL.x_l2a, PL.x_lc2O, PL.l_enumT, PL.l_enumL, List.getElem?_cons_zero, List.getElem?_cons_succ, List.set_cons_zero, List.set_cons_succ, List.length_cons, List.length_nil, List.map_cons, List.map_nil, List.replicate_succ, List.replicate_zero, List.cons_append, List.nil_append, Nat.zero_add, Nat.add_zero, Nat.reduceAdd, Nat.reduceSub, Nat.reduceMul, Nat.reduceLT, Nat.reduceEqDiff, Bool.not_true, Bool.not_false, Bool.true_and, Bool.false_and, Bool.and_true, Bool.and_false, Bool.true_or, Bool.false_or, Bool.or_true, Bool.or_false, List.all_cons, List.all_nil, PL.nl_len, List.length_map, List.length_range, isiT, tyD, Option.map_some, Option.map_none, ne_eq, not_false_eq_true, not_true_eq_false, decide_true, decide_false, eq_self, implies_true, gt_iff_lt, ge_iff_le, m_is_whole, b_is_whole, is_integer_ok]
theorem need_base_ok {b : Nat} (h : 2 ≤ b ∧ b ≤ 1000) : m_need_base [.int b] = .ok (.fr (.int b)) := by
  simp -implicitDefEqProofs (disch := (first | omega | assumption)) only [PL.x_Rof, PL.x_cst, PL.x_var, PL.x_var1f, PL.x_var1l, PL.x_var1d, PL.x_pk, PL.x_pk1f, PL.x_pk1l, PL.x_pk1d, PL.x_pk1i, PL.x_pkF, PL.x_un1, PL.x_un, PL.x_truF, PL.x_bOf, PL.x_tstF, PL.x_notT, PL.x_bin1, PL.x_bin, PL.x_bp3, PL.x_bp2, PL.x_bp1, PL.x_binP, PL.x_andT, PL.x_orT, PL.x_and1t, PL.x_and1f, PL.x_or1t, PL.x_or1f, PL.x_andV, PL.x_orV, PL.x_andV1t, PL.x_andV1f, PL.x_orV1t, PL.x_orV1f, PL.x_ifE, PL.x_ifE1t, PL.x_ifE1f, PL.x_chainD, PL.x_ch1, PL.x_ch2, PL.x_ch3t, PL.x_ch3f, PL.x_nilA, PL.x_consA, PL.x_cons1, PL.x_cons2, PL.x_few, PL.x_mk1, PL.x_tupD, PL.x_lstD, PL.x_lstO, PL.x_dctO0, PL.x_frO, PL.x_cb, PL.x_noP, PL.x_iOf, PL.x_someP, PL.x_sl31, PL.x_sl32, PL.x_sl3, PL.x_slK1, PL.x_slK, PL.x_frF, PL.x_frS1, PL.x_frS2, PL.x_frS3, PL.x_cal1, PL.x_callF, PL.x_callO, PL.x_FMof, PL.x_cm1, PL.x_cm2, PL.x_cm3, PL.x_callM, PL.x_FMO, PL.x_cmo1, PL.x_cmo2, PL.x_callMO, PL.x_frzR, PL.x_itF, PL.x_rngF, PL.x_OLof, PL.x_lc2, PL.x_lc1, PL.x_lcO, PL.x_cat1, PL.x_catO, PL.x_cp1, PL.x_cp2, PL.x_cp3, PL.x_catPO, PL.x_SBn, PL.x_SBr, PL.x_skipS, PL.x_badS, PL.x_seqS, PL.x_nxO, PL.x_set1, PL.x_setS, PL.x_setO1f, PL.x_setO1l, PL.x_setO1d, PL.x_setOS, PL.x_ret1, PL.x_retO1, PL.x_exp1, PL.x_retS, PL.x_retOS, PL.x_exprS, PL.x_ifS, PL.x_if1t, PL.x_if1f, PL.x_asg1, PL.x_asgS, PL.x_argsP0, PL.x_ap1f, PL.x_ap1l, PL.x_ap1d, PL.x_ap2, PL.x_argsP, PL.x_par1, PL.x_parP, PL.x_putP0, PL.x_pp1, PL.x_putP, PL.x_app1, PL.x_app2, PL.x_nxB, PL.x_app3, PL.x_appS, PL.x_dp1, PL.x_dp2, PL.x_dp3, PL.x_dp4, PL.x_dputS, PL.x_keyI, PL.x_keyS, PL.x_up1, PL.x_up2, PL.x_up3, PL.x_updS, PL.x_for1, PL.x_forS, PL.x_RTr, PL.x_RTn, PL.x_rf1, PL.x_runF, PL.x_RMr, PL.x_RMn, PL.x_MIo, PL.x_ioOf, PL.x_rm1, PL.x_runM, PL.x_putR, PL.x_putR0f, PL.x_putR0l, PL.x_putR0d, PL.x_putR0n, PL.x_noIof, PL.x_noIol, PL.x_noIod, PL.x_noIon, PL.x_tgN, PL.x_tgT, PL.x_putAll0, PL.x_pa1, PL.x_putAll, PL.x_dAt, PL.x_dSlo, PL.x_dSli, PL.x_dPut, PL.x_dPuo, PL.x_dPui, PL.x_lAt, PL.x_lSl, PL.x_envOf, PL.x_envM, PL.x_toDl, PL.x_toDd, PL.x_toDf, PL.x_nof, PL.x_nol, PL.x_nod, PL.x_okW, PL.x_wipe0, PL.x_wipe, PL.x_yesT, PL.n_add, PL.n_mul, PL.n_mod, PL.n_div, PL.n_sub, PL.n_lt, PL.n_le, PL.n_eq, PL.d_t, PL.d_f, PL.y_add, PL.y_sub, PL.y_mod, PL.y_div, PL.y_mulL, PL.y_mulR, PL.y_lt, PL.y_le, PL.y_gt, PL.y_ge, PL.y_cmp, PL.y_eq, PL.y_ne, PL.y_int, PL.y_notD, PL.y_truB, PL.y_neg, PL.y_isi_n, PL.y_isi_b, PL.y_isi_i, PL.y_isi_s, PL.y_isi_l, PL.y_isi_t, PL.y_isi_d, PL.y_isi_c, PL.l_len, PL.l_lenT, PL.l_it, PL.l_itT, PL.l_tuple, PL.l_list, PL.l_listL, PL.l_ix, PL.l_ixT, PL.l_sum, PL.l_eq, PL.l_ne, PL.l_eq0, PL.l_ne0, PL.l_eqT, PL.l_in, PL.l_nin, PL.l_cat, PL.l_catT, PL.l_stp, PL.l_rng1, PL.l_rng2, PL.x_fb, PL.x_fb1, PL.l_eq00, PL.l_ne00, PL.l_eq01, PL.l_ne01, PL.l_lenS, PL.x_ODof, PL.x_dc2, PL.x_dc1, PL.x_dcO, PL.l_nin_tk, PL.l_in_tk, PL.l_min, PL.l_slT, PL.l_slL, PL.l_rng3, PL.x_rgl2, PL.x_rgl1, PL.x_rgList, PL.x_rgTup, PL.x_gp3, PL.x_gp2, PL.x_gp1, PL.x_getP, PL.x_mt2, PL.x_mt1, PL.x_meth1, PL.l_isL, PL.x_XRo, PL.x_XRe, PL.x_calX, PL.x_calXe, PL.x_callX, PL.x_rai1, PL.x_rai, PL.x_try3, PL.x_try2, PL.x_try2f, PL.x_try1, PL.x_try1r, PL.x_try1n, PL.x_tryR, PL.x_exu1, PL.x_exb1, PL.x_exc1, PL.x_exc2, PL.x_exm1, PL.x_exSB, PL.x_exr1, PL.x_exe1, PL.x_exi1, PL.x_exRT, PL.x_OL2, PL.x_l2b, PL.x_l2a, PL.x_lc2O, PL.l_enumT, PL.l_enumL, List.getElem?_cons_zero, List.getElem?_cons_succ, List.set_cons_zero, List.set_cons_succ, List.length_cons, List.length_nil, List.map_cons, List.map_nil, List.replicate_succ, List.replicate_zero, List.cons_append, List.nil_append, Nat.zero_add, Nat.add_zero, Nat.reduceAdd, Nat.reduceSub, Nat.reduceMul, Nat.reduceLT, Nat.reduceEqDiff, Bool.not_true, Bool.not_false, Bool.true_and, Bool.false_and, Bool.and_true, Bool.and_false, Bool.true_or, Bool.false_or, Bool.or_true, Bool.or_false, List.all_cons, List.all_nil, PL.nl_len, List.length_map, List.length_range, isiT, tyD, Option.map_some, Option.map_none, ne_eq, not_false_eq_true, not_true_eq_false, decide_true, decide_false, eq_self, implies_true, gt_iff_lt, ge_iff_le, m_need_base, b_need_base, is_whole_ok]
theorem need_denominator_ok {n : Nat} (h : 1 ≤ n ∧ n ≤ 5000) : m_need_denominator [.int n] = .ok (.fr (.int n)) := by
  simp -implicitDefEqProofs (disch := (first | omega | assumption)) only [PL.x_Rof, PL.x_cst, PL.x_var, PL.x_var1f, PL.x_var1l, PL.x_var1d, PL.x_pk, PL.x_pk1f, PL.x_pk1l, PL.x_pk1d, PL.x_pk1i, PL.x_pkF, PL.x_un1, PL.x_un, PL.x_truF, PL.x_bOf, PL.x_tstF, PL.x_notT, PL.x_bin1, PL.x_bin, PL.x_bp3, PL.x_bp2, PL.x_bp1, PL.x_binP, PL.x_andT, PL.x_orT, PL.x_and1t, PL.x_and1f, PL.x_or1t, PL.x_or1f, PL.x_andV, PL.x_orV, PL.x_andV1t, PL.x_andV1f, PL.x_orV1t, PL.x_orV1f, PL.x_ifE, PL.x_ifE1t, PL.x_ifE1f, PL.x_chainD, PL.x_ch1, PL.x_ch2, PL.x_ch3t, PL.x_ch3f, PL.x_nilA, PL.x_consA, PL.x_cons1, PL.x_cons2, PL.x_few, PL.x_mk1, PL.x_tupD, PL.x_lstD, PL.x_lstO, PL.x_dctO0, PL.x_frO, PL.x_cb, PL.x_noP, PL.x_iOf, PL.x_someP, PL.x_sl31, PL.x_sl32, PL.x_sl3, PL.x_slK1, PL.x_slK, PL.x_frF, PL.x_frS1, PL.x_frS2, PL.x_frS3, PL.x_cal1, PL.x_callF, PL.x_callO, PL.x_FMof, PL.x_cm1, PL.x_cm2, PL.x_cm3, PL.x_callM, PL.x_FMO, PL.x_cmo1, PL.x_cmo2, PL.x_callMO, PL.x_frzR, PL.x_itF, PL.x_rngF, PL.x_OLof, PL.x_lc2, PL.x_lc1, PL.x_lcO, PL.x_cat1, PL.x_catO, PL.x_cp1, PL.x_cp2, PL.x_cp3, PL.x_catPO, PL.x_SBn, PL.x_SBr, PL.x_skipS, PL.x_badS, PL.x_seqS, PL.x_nxO, PL.x_set1, PL.x_setS, PL.x_setO1f, PL.x_setO1l, PL.x_setO1d, PL.x_setOS, PL.x_ret1, PL.x_retO1, PL.x_exp1, PL.x_retS, PL.x_retOS, PL.x_exprS, PL.x_ifS, PL.x_if1t, PL.x_if1f, PL.x_asg1, PL.x_asgS, PL.x_argsP0, PL.x_ap1f, PL.x_ap1l, PL.x_ap1d, PL.x_ap2, PL.x_argsP, PL.x_par1, PL.x_parP, PL.x_putP0, PL.x_pp1, PL.x_putP, PL.x_app1, PL.x_app2, PL.x_nxB, PL.x_app3, PL.x_appS, PL.x_dp1, PL.x_dp2, PL.x_dp3, PL.x_dp4, PL.x_dputS, PL.x_keyI, PL.x_keyS, PL.x_up1, PL.x_up2, PL.x_up3, PL.x_updS, PL.x_for1, PL.x_forS, PL.x_RTr, PL.x_RTn, PL.x_rf1, PL.x_runF, PL.x_RMr, PL.x_RMn, PL.x_MIo, PL.x_ioOf, PL.x_rm1, PL.x_runM, PL.x_putR, PL.x_putR0f, PL.x_putR0l, PL.x_putR0d, PL.x_putR0n, PL.x_noIof, PL.x_noIol, PL.x_noIod, PL.x_noIon, PL.x_tgN, PL.x_tgT, PL.x_putAll0, PL.x_pa1, PL.x_putAll, PL.x_dAt, PL.x_dSlo, PL.x_dSli, PL.x_dPut, PL.x_dPuo, PL.x_dPui, PL.x_lAt, PL.x_lSl, PL.x_envOf, PL.x_envM, PL.x_toDl, PL.x_toDd, PL.x_toDf, PL.x_nof, PL.x_nol, PL.x_nod, PL.x_okW, PL.x_wipe0, PL.x_wipe, PL.x_yesT, PL.n_add, PL.n_mul, PL.n_mod, PL.n_div, PL.n_sub, PL.n_lt, PL.n_le, PL.n_eq, PL.d_t, PL.d_f, PL.y_add, PL.y_sub, PL.y_mod, PL.y_div, PL.y_mulL, PL.y_mulR, PL.y_lt, PL.y_le, PL.y_gt, PL.y_ge, PL.y_cmp, PL.y_eq, PL.y_ne, PL.y_int, PL.y_notD, PL.y_truB, PL.y_neg, PL.y_isi_n, PL.y_isi_b, PL.y_isi_i, PL.y_isi_s, PL.y_isi_l, PL.y_isi_t, PL.y_isi_d, PL.y_isi_c, PL.l_len, PL.l_lenT, PL.l_it, PL.l_itT, PL.l_tuple, PL.l_list, PL.l_listL, PL.l_ix, PL.l_ixT, PL.l_sum, PL.l_eq, PL.l_ne, PL.l_eq0, PL.l_ne0, PL.l_eqT, PL.l_in, PL.l_nin, PL.l_cat, PL.l_catT, PL.l_stp, PL.l_rng1, PL.l_rng2, PL.x_fb, PL.x_fb1, PL.l_eq00, PL.l_ne00, PL.l_eq01, PL.l_ne01, PL.l_lenS, PL.x_ODof, PL.x_dc2, PL.x_dc1, PL.x_dcO, PL.l_nin_tk, PL.l_in_tk, PL.l_min, PL.l_slT, PL.l_slL, PL.l_rng3, PL.x_rgl2, PL.x_rgl1, PL.x_rgList, PL.x_rgTup, PL.x_gp3, PL.x_gp2, PL.x_gp1, PL.x_getP, PL.x_mt2, PL.x_mt1, PL.x_meth1, PL.l_isL, PL.x_XRo, PL.x_XRe, PL.x_calX, PL.x_calXe, PL.x_callX, PL.x_rai1, PL.x_rai, PL.x_try3, PL.x_try2, PL.x_try2f, PL.x_try1, PL.x_try1r, PL.x_try1n, PL.x_tryR, PL.x_exu1, PL.x_exb1, PL.x_exc1, PL.x_exc2, PL.x_exm1, PL.x_exSB, PL.x_exr1, PL.x_exe1, PL.x_exi1, PL.x_exRT, PL.x_OL2, PL.x_l2b, PL.x_l2a, PL.x_lc2O, PL.l_enumT, PL.l_enumL, List.getElem?_cons_zero, List.getElem?_cons_succ, List.set_cons_zero, List.set_cons_succ, List.length_cons, List.length_nil, List.map_cons, List.map_nil, List.replicate_succ, List.replicate_zero, List.cons_append, List.nil_append, Nat.zero_add, Nat.add_zero, Nat.reduceAdd, Nat.reduceSub, Nat.reduceMul, Nat.reduceLT, Nat.reduceEqDiff, Bool.not_true, Bool.not_false, Bool.true_and, Bool.false_and, Bool.and_true, Bool.and_false, Bool.true_or, Bool.false_or, Bool.or_true, Bool.or_false, List.all_cons, List.all_nil, PL.nl_len, List.length_map, List.length_range, isiT, tyD, Option.map_some, Option.map_none, ne_eq, not_false_eq_true, not_true_eq_false, decide_true, decide_false, eq_self, implies_true, gt_iff_lt, ge_iff_le, m_need_denominator, b_need_denominator, is_whole_ok]
abbrev fr2 (x n : Nat) : Dt := .tup [.int x, .int n]
/-! remainders -/
/-- the k-th remainder behind r -/
abbrev rst (b n r k : Nat) : Nat := r * b ^ k % n
abbrev dgs (b n r c : Nat) : List Dt := (List.range c).map fun k => .int (rst b n r k * b / n : Nat)
theorem rst_succ (b n r k : Nat) : rst b n r k * b % n = rst b n r (k + 1) := by
  show r * b ^ k % n * b % n = r * b ^ (k + 1) % n
  rw [Nat.pow_succ, Nat.mod_mul_mod, Nat.mul_assoc]
theorem rst_add (b n x i k : Nat) : rst b n x (i + k) = rst b n (rst b n x i) k := by
  show x * b ^ (i + k) % n = x * b ^ i % n * b ^ k % n
  rw [Nat.pow_add, Nat.mod_mul_mod, Nat.mul_assoc]
theorem dgs_succ (b n r c : Nat) : dgs b n r c ++ [.int (rst b n r c * b / n : Nat)] = dgs b n r (c + 1) := by
  show _ = (List.range (c + 1)).map _
  rw [List.range_succ, List.map_append]
  rfl
theorem atI_nat {xs : List Dt} {i : Nat} {d : Dt} (h : xs[i]? = some d) : L2.atI xs (i : Nat) = some d := by
  have hl : i < xs.length := (List.getElem?_eq_some_iff.mp h).1
  unfold L2.atI L2.ixN
  rw [if_pos (by omega), if_pos (by omega)]
  exact h
theorem range_get {n i : Nat} {d : Dt} (h : ((List.range n).map fun i => Dt.int (i : Nat))[i]? = some d) : i < n ∧ d = .int (i : Nat) := by
  rw [List.getElem?_map] at h
  obtain ⟨j, h1, h2⟩ := Option.map_eq_some_iff.mp h
  obtain ⟨h3, h4⟩ := List.getElem?_eq_some_iff.mp h1
  rw [List.length_range] at h3
  rw [List.getElem_range] at h4
  exact ⟨h3, by rw [← h2, ← h4]⟩
theorem rng1_ok {n : Nat} (h : n < 2 ^ 62) : rngD1 [.int n] = some ((List.range n).map fun i => Dt.int (i : Nat)) := by
  have e : (n : Int).toNat = n := rfl
  unfold rngD1
  dsimp only
  rw [if_pos ⟨by omega, by omega⟩, e]
/-! what can be told by repr -/
theorem small_ok {i : Int} (h1 : -(2 ^ 63) < i) (h2 : i < 2 ^ 63) : i.natAbs.log2 < 1920 := by
  by_cases hn : i.natAbs = 0
  · rw [hn]; decide
  · exact Nat.lt_of_lt_of_le ((Nat.log2_lt (k := 63) hn).mpr (by omega)) (by decide)
structure ROk (d : Dt) (k w : Nat) : Prop where
  p : plainD d = true
  s : (toPy d).showable = true
  dp : (toPy d).depth ≤ k
  wt : wtD d ≤ w
structure ROkA (ds : List Dt) (k w : Nat) : Prop where
  p : plainAll ds = true
  s : PyData.showableAll (toPyAll ds) = true
  dp : PyData.depthAll (toPyAll ds) ≤ k
  wt : wtAll ds ≤ w
theorem ROk.repr {d : Dt} {k w : Nat} (h : ROk d k w) (hk : k ≤ 50) (hw : w ≤ 16000000) : reprD d = some (.str (toPy d).shown) := if_pos (by
  unfold reprOk
  rw [h.p, h.s, decide_eq_true (Nat.le_trans h.dp hk), decide_eq_true (Nat.le_trans h.wt hw)]
  rfl)
theorem rok_nil (k : Nat) : ROkA [] k 0 := ⟨rfl, rfl, Nat.zero_le _, Nat.le_refl _⟩
theorem rok_cons {d : Dt} {ds : List Dt} {k w v : Nat} (h1 : ROk d k w) (h2 : ROkA ds k v) : ROkA (d :: ds) k (w + 2 + v) := by
  refine ⟨?_, ?_, ?_, ?_⟩
  · simp only [plainAll, h1.p, h2.p, Bool.and_self]
  · simp only [toPyAll, PyData.showableAll, h1.s, h2.s, Bool.and_self]
  · simp only [toPyAll, PyData.depthAll]
    have := h1.dp
    have := h2.dp
    omega
  · simp only [wtAll]
    have := h1.wt
    have := h2.wt
    omega
theorem rok_lst {ds : List Dt} {k w : Nat} (h : ROkA ds k w) : ROk (.lst ds) (k + 1) (w + 2) := by
  refine ⟨?_, ?_, ?_, ?_⟩
  · simp only [plainD, h.p]
  · simp only [toPy, PyData.showable, h.s]
  · simp only [toPy, PyData.depth]
    have := h.dp
    omega
  · simp only [wtD]
    have := h.wt
    omega
theorem rok_tup {ds : List Dt} {k w : Nat} (h : ROkA ds k w) : ROk (.tup ds) (k + 1) (w + 3) := by
  refine ⟨?_, ?_, ?_, ?_⟩
  · simp only [plainD, h.p]
  · simp only [toPy, PyData.showable, h.s]
  · simp only [toPy, PyData.depth]
    have := h.dp
    omega
  · simp only [wtD]
    have := h.wt
    omega
theorem rok_intB {i : Int} (k : Nat) (h1 : i.natAbs.log2 < 1920) : ROk (.int i) k 600 := ⟨rfl, by simp only [toPy, PyData.showable, decide_eq_true h1], by simp only [toPy, PyData.depth]; exact Nat.zero_le _, Nat.le_refl _⟩
theorem rok_int {i : Int} (k : Nat) (h1 : -(2 ^ 63) < i) (h2 : i < 2 ^ 63) : ROk (.int i) k 600 := rok_intB k (small_ok h1 h2)
theorem rok_nat {m : Nat} (k : Nat) (h : m < 2 ^ 63) : ROk (.int (m : Nat)) k 600 := rok_int k (by omega) (by omega)
theorem rok_bl (b : Bool) (k : Nat) : ROk (.bl b) k 5 := ⟨rfl, rfl, by simp only [toPy, PyData.depth]; exact Nat.zero_le _, Nat.le_refl _⟩
theorem rok_all {α : Type} (f : α → Dt) (k w : Nat) : ∀ (xs : List α), (∀ x ∈ xs, ROk (f x) k w) → ROkA (xs.map f) k ((w + 2) * xs.length)
  | [], _ => rok_nil k
  | x :: xs, h => by
    have := rok_cons (h x (List.mem_cons_self ..)) (rok_all f k w xs fun y hy => h y (List.mem_cons_of_mem _ hy))
    rw [List.length_cons, Nat.mul_succ, Nat.add_comm ((w + 2) * xs.length)]
    exact this
theorem rok_nl {ns : List Nat} {L : Nat} (k : Nat) (h : ∀ n ∈ ns, n < 2 ^ 63) (hl : ns.length ≤ L) : ROkA (nl ns) k (602 * L) := by
  have := rok_all (fun n : Nat => Dt.int (n : Nat)) k 600 ns fun n hn => rok_nat k (h n hn)
  exact ⟨this.p, this.s, this.dp, Nat.le_trans this.wt (Nat.mul_le_mul_left _ hl)⟩
/-! what can be compared -/
theorem ints_shape : ∀ ns : List Int, plainAll (ns.map .int) = true ∧ PyData.canLayAll0 (toPyAll (ns.map .int)) = true ∧ PyData.depthAll (toPyAll (ns.map .int)) = 0
  | [] => ⟨rfl, rfl, rfl⟩
  | n :: ns => by
    obtain ⟨h1, h2, h3⟩ := ints_shape ns
    refine ⟨?_, ?_, ?_⟩
    · simp only [List.map_cons, plainAll, plainD, h1, Bool.and_self]
    · simp only [List.map_cons, toPyAll, toPy, PyData.canLayAll0, PyData.canLay0, h2, Bool.and_self]
    · simp only [List.map_cons, toPyAll, toPy, PyData.depthAll, PyData.depth, h3, Nat.max_self]
theorem lst_shape (ns : List Int) : shp (.lst (ns.map .int)) = true := by
  obtain ⟨h1, h2, h3⟩ := ints_shape ns
  simp only [shp, plainD, h1, SeqAt.shaped, toPy, PyData.canLay0, h2, PyData.depth, h3, Bool.true_and]
  rfl
theorem ne_nil (n : Int) (ns : List Int) : neD (.lst ((n :: ns).map .int)) (.lst []) = some (.bl true) := by
  have h1 := lst_shape (n :: ns)
  have h2 := lst_shape []
  unfold neD
  dsimp only
  rw [if_pos ⟨h1, h2⟩]
  rfl
theorem eqv_ints : ∀ ns : List Int, PyData.eqvAll (toPyAll (ns.map .int)) (toPyAll (ns.map .int)) = true
  | [] => rfl
  | n :: ns => by simp only [List.map_cons, toPyAll, toPy, PyData.eqvAll, PyData.eqv, eqv_ints ns, BEq.rfl, Bool.and_self]
theorem eq_lst (ns : List Int) : eqD (.lst (ns.map .int)) (.lst (ns.map .int)) = some (.bl true) := by
  have h1 := lst_shape ns
  unfold eqD
  dsimp only
  rw [if_pos ⟨h1, h1⟩]
  simp only [eqt, toPy, PyData.eqv, eqv_ints]
/-! the law's own draws (left, seed, cells, spot) -/
def ms2 (l sd : Int) (cs : List Int) (p : Int) : List (Key × Dt) := [(.inr "left", .int l), (.inr "seed", .int sd), (.inr "cells", .lst (cs.map .int)), (.inr "spot", .int p)]
theorem ms2_l (l sd : Int) (cs : List Int) (p : Int) : ixD (.dct (ms2 l sd cs p)) (.str "left") = some (.int l) := by kernel_rfl
theorem ms2_d (l sd : Int) (cs : List Int) (p : Int) : ixD (.dct (ms2 l sd cs p)) (.str "seed") = some (.int sd) := by kernel_rfl
theorem ms2_c (l sd : Int) (cs : List Int) (p : Int) : ixD (.dct (ms2 l sd cs p)) (.str "cells") = some (.lst (cs.map .int)) := by kernel_rfl
theorem ms2_s (l sd : Int) (cs : List Int) (p : Int) : ixD (.dct (ms2 l sd cs p)) (.str "spot") = some (.int p) := by kernel_rfl
theorem ms2_pl (l sd : Int) (cs : List Int) (p x : Int) : putKD (ms2 l sd cs p) (.inr "left") (.int x) = ms2 x sd cs p := by kernel_rfl
theorem ms2_ps (l sd : Int) (cs : List Int) (p x : Int) : putKD (ms2 l sd cs p) (.inr "spot") (.int x) = ms2 l sd cs x := by kernel_rfl
theorem ms2_len (l sd : Int) (cs : List Int) (p : Int) : (ms2 l sd cs p).length = 4 := rfl
theorem emod_nat {lim : Nat} (h0 : 0 < lim) (e : Int) : ∃ x : Nat, e % (lim : Int) = (x : Nat) ∧ x < lim :=
  ⟨(e % (lim : Int)).toNat, by rw [Int.toNat_of_nonneg (Int.emod_nonneg _ (by omega))], (Int.toNat_lt (Int.emod_nonneg _ (by omega))).mpr (Int.emod_lt_of_pos _ (by omega))⟩
theorem draw2_ok {cs : List Int} {l sd p lim : Nat} (hc : cs ≠ []) (hs : sd < 2 ^ 31) (hp : p < 2 ^ 20) (h0 : 0 < lim) (hd : ∀ a : Int, fdivD (.int a) (.int (lim : Nat)) = some (.int (a / (lim : Nat)))) :
    ∃ x l' p' : Nat, m__law_draw (ms2 l sd cs p) [.int lim] = .ok (.fr (.int x)) (ms2 l' sd cs p') ∧ x < lim ∧ p' ≤ p + 1 := by
  by_cases hl : 0 < l
  · refine ⟨l % lim, l / lim, p, ?_, Nat.mod_lt _ h0, by omega⟩
    simp -implicitDefEqProofs (disch := (first | omega | assumption)) only [PL.x_Rof, PL.x_cst, PL.x_var, PL.x_var1f, PL.x_var1l, PL.x_var1d, PL.x_pk, PL.x_pk1f, PL.x_pk1l, PL.x_pk1d, PL.x_pk1i, PL.x_pkF, PL.x_un1, PL.x_un, PL.x_truF, PL.x_bOf, PL.x_tstF, PL.x_notT, PL.x_bin1, PL.x_bin, PL.x_bp3, PL.x_bp2, PL.x_bp1, PL.x_binP, PL.x_andT, PL.x_orT, PL.x_and1t, PL.x_and1f, PL.x_or1t, PL.x_or1f, PL.x_andV, PL.x_orV, PL.x_andV1t, PL.x_andV1f, PL.x_orV1t, PL.x_orV1f, PL.x_ifE, PL.x_ifE1t, PL.x_ifE1f, PL.x_chainD, PL.x_ch1, PL.x_ch2, PL.x_ch3t, PL.x_ch3f, PL.x_nilA, PL.x_consA, PL.x_cons1, PL.x_cons2, PL.x_few, PL.x_mk1, PL.x_tupD, PL.x_lstD, PL.x_lstO, PL.x_dctO0, PL.x_frO, PL.x_cb, PL.x_noP, PL.x_iOf, PL.x_someP, PL.x_sl31, PL.x_sl32, PL.x_sl3, PL.x_slK1, PL.x_slK, PL.x_frF, PL.x_frS1, PL.x_frS2, PL.x_frS3, PL.x_cal1, PL.x_callF, PL.x_callO, PL.x_FMof, PL.x_cm1, PL.x_cm2, PL.x_cm3, PL.x_callM, PL.x_FMO, PL.x_cmo1, PL.x_cmo2, PL.x_callMO, PL.x_frzR, PL.x_itF, PL.x_rngF, PL.x_OLof, PL.x_lc2, PL.x_lc1, PL.x_lcO, PL.x_cat1, PL.x_catO, PL.x_cp1, PL.x_cp2, PL.x_cp3, PL.x_catPO, PL.x_SBn, PL.x_SBr, PL.x_skipS, PL.x_badS, PL.x_seqS, PL.x_nxO, PL.x_set1, PL.x_setS, PL.x_setO1f, PL.x_setO1l, PL.x_setO1d, PL.x_setOS, PL.x_ret1, PL.x_retO1, PL.x_exp1, PL.x_retS, PL.x_retOS, PL.x_exprS, PL.x_ifS, PL.x_if1t, PL.x_if1f, PL.x_asg1, PL.x_asgS, PL.x_argsP0, PL.x_ap1f, PL.x_ap1l, PL.x_ap1d, PL.x_ap2, PL.x_argsP, PL.x_par1, PL.x_parP, PL.x_putP0, PL.x_pp1, PL.x_putP, PL.x_app1, PL.x_app2, PL.x_nxB, PL.x_app3, PL.x_appS, PL.x_dp1, PL.x_dp2, PL.x_dp3, PL.x_dp4, PL.x_dputS, PL.x_keyI, PL.x_keyS, PL.x_up1, PL.x_up2, PL.x_up3, PL.x_updS, PL.x_for1, PL.x_forS, PL.x_RTr, PL.x_RTn, PL.x_rf1, PL.x_runF, PL.x_RMr, PL.x_RMn, PL.x_MIo, PL.x_ioOf, PL.x_rm1, PL.x_runM, PL.x_putR, PL.x_putR0f, PL.x_putR0l, PL.x_putR0d, PL.x_putR0n, PL.x_noIof, PL.x_noIol, PL.x_noIod, PL.x_noIon, PL.x_tgN, PL.x_tgT, PL.x_putAll0, PL.x_pa1, PL.x_putAll, PL.x_dAt, PL.x_dSlo, PL.x_dSli, PL.x_dPut, PL.x_dPuo, PL.x_dPui, PL.x_lAt, PL.x_lSl, PL.x_envOf, PL.x_envM, PL.x_toDl, PL.x_toDd, PL.x_toDf, PL.x_nof, PL.x_nol, PL.x_nod, PL.x_okW, PL.x_wipe0, PL.x_wipe, PL.x_yesT, PL.n_add, PL.n_mul, PL.n_mod, PL.n_div, PL.n_sub, PL.n_lt, PL.n_le, PL.n_eq, PL.d_t, PL.d_f, PL.y_add, PL.y_sub, PL.y_mod, PL.y_div, PL.y_mulL, PL.y_mulR, PL.y_lt, PL.y_le, PL.y_gt, PL.y_ge, PL.y_cmp, PL.y_eq, PL.y_ne, PL.y_int, PL.y_notD, PL.y_truB, PL.y_neg, PL.y_isi_n, PL.y_isi_b, PL.y_isi_i, PL.y_isi_s, PL.y_isi_l, PL.y_isi_t, PL.y_isi_d, PL.y_isi_c, PL.l_len, PL.l_lenT, PL.l_it, PL.l_itT, PL.l_tuple, PL.l_list, PL.l_listL, PL.l_ix, PL.l_ixT, PL.l_sum, PL.l_eq, PL.l_ne, PL.l_eq0, PL.l_ne0, PL.l_eqT, PL.l_in, PL.l_nin, PL.l_cat, PL.l_catT, PL.l_stp, PL.l_rng1, PL.l_rng2, PL.x_fb, PL.x_fb1, PL.l_eq00, PL.l_ne00, PL.l_eq01, PL.l_ne01, PL.l_lenS, PL.x_ODof, PL.x_dc2, PL.x_dc1, PL.x_dcO, PL.l_nin_tk, PL.l_in_tk, PL.l_min, PL.l_slT, PL.l_slL, PL.l_rng3, PL.x_rgl2, PL.x_rgl1, PL.x_rgList, PL.x_rgTup, PL.x_gp3, PL.x_gp2, PL.x_gp1, PL.x_getP, PL.x_mt2, PL.x_mt1, PL.x_meth1, PL.l_isL, PL.x_XRo, PL.x_XRe, PL.x_calX, PL.x_calXe, PL.x_callX, PL.x_rai1, PL.x_rai, PL.x_try3, PL.x_try2, PL.x_try2f, PL.x_try1, PL.x_try1r, PL.x_try1n, PL.x_tryR, PL.x_exu1, PL.x_exb1, PL.x_exc1, PL.x_exc2, PL.x_exm1, PL.x_exSB, PL.x_exr1, PL.x_exe1, PL.x_exi1, PL.x_exRT, PL.x_OL2, PL.x_l2b, PL.x_l2a, PL.x_lc2O, PL.l_enumT, PL.l_enumL, List.getElem?_cons_zero, List.getElem?_cons_succ, List.set_cons_zero, List.set_cons_succ, List.length_cons, List.length_nil, List.map_cons, List.map_nil, List.replicate_succ, List.replicate_zero, List.cons_append, List.nil_append, Nat.zero_add, Nat.add_zero, Nat.reduceAdd, Nat.reduceSub, Nat.reduceMul, Nat.reduceLT, Nat.reduceEqDiff, Bool.not_true, Bool.not_false, Bool.true_and, Bool.false_and, Bool.and_true, Bool.and_false, Bool.true_or, Bool.false_or, Bool.or_true, Bool.or_false, List.all_cons, List.all_nil, PL.nl_len, List.length_map, List.length_range, isiT, tyD, Option.map_some, Option.map_none, ne_eq, not_false_eq_true, not_true_eq_false, decide_true, decide_false, eq_self, implies_true, gt_iff_lt, ge_iff_le, m__law_draw, b__law_draw, ms2_l, hd, ms2_pl, ms2_len]
  · have hz : l = 0 := by omega
    subst hz
    have hlen : 0 < cs.length := List.length_pos_iff.mpr hc
    have hi : p % cs.length < cs.length := Nat.mod_lt _ hlen
    have hg : (cs.map Dt.int)[p % cs.length]? = some (.int cs[p % cs.length]) := by rw [List.getElem?_map, List.getElem?_eq_getElem hi]; rfl
    generalize cs[p % cs.length] = cell at hg
    obtain ⟨u, hu, hu2⟩ := emod_nat (lim := 2147483647) (by omega) (cell * ((2 * p + 3 : Nat) : Int) + ((sd + 40503 * p * p : Nat) : Int))
    have hpp : p + 1 < 2 ^ 63 := by omega
    have hv : (u * u + 69621 * p + sd) % 2147483629 < 2147483629 := Nat.mod_lt _ (by omega)
    refine ⟨((u * u + 69621 * p + sd) % 2147483629 * 48271 + p) % 2147483647 / 11 % lim, 0, p + 1, ?_, Nat.mod_lt _ h0, by omega⟩
    simp -implicitDefEqProofs (disch := (first | omega | assumption)) only [PL.x_Rof, PL.x_cst, PL.x_var, PL.x_var1f, PL.x_var1l, PL.x_var1d, PL.x_pk, PL.x_pk1f, PL.x_pk1l, PL.x_pk1d, PL.x_pk1i, PL.x_pkF, PL.x_un1, PL.x_un, PL.x_truF, PL.x_bOf, PL.x_tstF, PL.x_notT, PL.x_bin1, PL.x_bin, PL.x_bp3, PL.x_bp2, PL.x_bp1, PL.x_binP, PL.x_andT, PL.x_orT, PL.x_and1t, PL.x_and1f, PL.x_or1t, PL.x_or1f, PL.x_andV, PL.x_orV, PL.x_andV1t, PL.x_andV1f, PL.x_orV1t, PL.x_orV1f, PL.x_ifE, PL.x_ifE1t, PL.x_ifE1f, PL.x_chainD, PL.x_ch1, PL.x_ch2, PL.x_ch3t, PL.x_ch3f, PL.x_nilA, PL.x_consA, PL.x_cons1, PL.x_cons2, PL.x_few, PL.x_mk1, PL.x_tupD, PL.x_lstD, PL.x_lstO, PL.x_dctO0, PL.x_frO, PL.x_cb, PL.x_noP, PL.x_iOf, PL.x_someP, PL.x_sl31, PL.x_sl32, PL.x_sl3, PL.x_slK1, PL.x_slK, PL.x_frF, PL.x_frS1, PL.x_frS2, PL.x_frS3, PL.x_cal1, PL.x_callF, PL.x_callO, PL.x_FMof, PL.x_cm1, PL.x_cm2, PL.x_cm3, PL.x_callM, PL.x_FMO, PL.x_cmo1, PL.x_cmo2, PL.x_callMO, PL.x_frzR, PL.x_itF, PL.x_rngF, PL.x_OLof, PL.x_lc2, PL.x_lc1, PL.x_lcO, PL.x_cat1, PL.x_catO, PL.x_cp1, PL.x_cp2, PL.x_cp3, PL.x_catPO, PL.x_SBn, PL.x_SBr, PL.x_skipS, PL.x_badS, PL.x_seqS, PL.x_nxO, PL.x_set1, PL.x_setS, PL.x_setO1f, PL.x_setO1l, PL.x_setO1d, PL.x_setOS, PL.x_ret1, PL.x_retO1, PL.x_exp1, PL.x_retS, PL.x_retOS, PL.x_exprS, PL.x_ifS, PL.x_if1t, PL.x_if1f, PL.x_asg1, PL.x_asgS, PL.x_argsP0, PL.x_ap1f, PL.x_ap1l, PL.x_ap1d, PL.x_ap2, PL.x_argsP, PL.x_par1, PL.x_parP, PL.x_putP0, PL.x_pp1, PL.x_putP, PL.x_app1, PL.x_app2, PL.x_nxB, PL.x_app3, PL.x_appS, PL.x_dp1, PL.x_dp2, PL.x_dp3, PL.x_dp4, PL.x_dputS, PL.x_keyI, PL.x_keyS, PL.x_up1, PL.x_up2, PL.x_up3, PL.x_updS, PL.x_for1, PL.x_forS, PL.x_RTr, PL.x_RTn, PL.x_rf1, PL.x_runF, PL.x_RMr, PL.x_RMn, PL.x_MIo, PL.x_ioOf, PL.x_rm1, PL.x_runM, PL.x_putR, PL.x_putR0f, PL.x_putR0l, PL.x_putR0d, PL.x_putR0n, PL.x_noIof, PL.x_noIol, PL.x_noIod, PL.x_noIon, PL.x_tgN, PL.x_tgT, PL.x_putAll0, PL.x_pa1, PL.x_putAll, PL.x_dAt, PL.x_dSlo, PL.x_dSli, PL.x_dPut, PL.x_dPuo, PL.x_dPui, PL.x_lAt, PL.x_lSl, PL.x_envOf, PL.x_envM, PL.x_toDl, PL.x_toDd, PL.x_toDf, PL.x_nof, PL.x_nol, PL.x_nod, PL.x_okW, PL.x_wipe0, PL.x_wipe, PL.x_yesT, PL.n_add, PL.n_mul, PL.n_mod, PL.n_div, PL.n_sub, PL.n_lt, PL.n_le, PL.n_eq, PL.d_t, PL.d_f, PL.y_add, PL.y_sub, PL.y_mod, PL.y_div, PL.y_mulL, PL.y_mulR, PL.y_lt, PL.y_le, PL.y_gt, PL.y_ge, PL.y_cmp, PL.y_eq, PL.y_ne, PL.y_int, PL.y_notD, PL.y_truB, PL.y_neg, PL.y_isi_n, PL.y_isi_b, PL.y_isi_i, PL.y_isi_s, PL.y_isi_l, PL.y_isi_t, PL.y_isi_d, PL.y_isi_c, PL.l_len, PL.l_lenT, PL.l_it, PL.l_itT, PL.l_tuple, PL.l_list, PL.l_listL, PL.l_ix, PL.l_ixT, PL.l_sum, PL.l_eq, PL.l_ne, PL.l_eq0, PL.l_ne0, PL.l_eqT, PL.l_in, PL.l_nin, PL.l_cat, PL.l_catT, PL.l_stp, PL.l_rng1, PL.l_rng2, PL.x_fb, PL.x_fb1, PL.l_eq00, PL.l_ne00, PL.l_eq01, PL.l_ne01, PL.l_lenS, PL.x_ODof, PL.x_dc2, PL.x_dc1, PL.x_dcO, PL.l_nin_tk, PL.l_in_tk, PL.l_min, PL.l_slT, PL.l_slL, PL.l_rng3, PL.x_rgl2, PL.x_rgl1, PL.x_rgList, PL.x_rgTup, PL.x_gp3, PL.x_gp2, PL.x_gp1, PL.x_getP, PL.x_mt2, PL.x_mt1, PL.x_meth1, PL.l_isL, PL.x_XRo, PL.x_XRe, PL.x_calX, PL.x_calXe, PL.x_callX, PL.x_rai1, PL.x_rai, PL.x_try3, PL.x_try2, PL.x_try2f, PL.x_try1, PL.x_try1r, PL.x_try1n, PL.x_tryR, PL.x_exu1, PL.x_exb1, PL.x_exc1, PL.x_exc2, PL.x_exm1, PL.x_exSB, PL.x_exr1, PL.x_exe1, PL.x_exi1, PL.x_exRT, PL.x_OL2, PL.x_l2b, PL.x_l2a, PL.x_lc2O, PL.l_enumT, PL.l_enumL, List.getElem?_cons_zero, List.getElem?_cons_succ, List.set_cons_zero, List.set_cons_succ, List.length_cons, List.length_nil, List.map_cons, List.map_nil, List.replicate_succ, List.replicate_zero, List.cons_append, List.nil_append, Nat.zero_add, Nat.add_zero, Nat.reduceAdd, Nat.reduceSub, Nat.reduceMul, Nat.reduceLT, Nat.reduceEqDiff, Bool.not_true, Bool.not_false, Bool.true_and, Bool.false_and, Bool.and_true, Bool.and_false, Bool.true_or, Bool.false_or, Bool.or_true, Bool.or_false, List.all_cons, List.all_nil, PL.nl_len, List.length_map, List.length_range, isiT, tyD, Option.map_some, Option.map_none, ne_eq, not_false_eq_true, not_true_eq_false, decide_true, decide_false, eq_self, implies_true, gt_iff_lt, ge_iff_le, m__law_draw, b__law_draw, ms2_l, ms2_s, ms2_ps, ms2_c, ms2_d, ms2_len, hg, hu]
theorem draw2 {cs : List Int} {l sd p lim : Nat} (hc : cs ≠ []) (hs : sd < 2 ^ 31) (hp : p < 2 ^ 20) (h0 : 0 < lim) (h1 : lim < 2 ^ 63) : ∃ x l' p' : Nat, m__law_draw (ms2 l sd cs p) [.int lim] = .ok (.fr (.int x)) (ms2 l' sd cs p') ∧ x < lim ∧ p' ≤ p + 1 :=
  draw2_ok hc hs hp h0 fun a => y_div a ⟨h0, h1⟩
theorem of2 {cs : List Int} {l sd p : Nat} {ds : List Dt} (hc : cs ≠ []) (hs : sd < 2 ^ 31) (hp : p < 2 ^ 20) (h0 : ds ≠ []) (h1 : ds.length < 2 ^ 40) : ∃ (d : Dt) (l' p' : Nat), m__law_of (ms2 l sd cs p) [.lst ds] = .ok (.fr d) (ms2 l' sd cs p') ∧ d ∈ ds ∧ p' ≤ p + 1 := by
  obtain ⟨x, l', p', h2, h3, h4⟩ := draw2 (l := l) (lim := ds.length) hc hs hp (List.length_pos_iff.mpr h0) (by omega)
  have hg : ds[x]? = some ds[x] := List.getElem?_eq_getElem h3
  refine ⟨_, l', p', ?_, List.getElem_mem h3, h4⟩
  simp -implicitDefEqProofs (disch := (first | omega | assumption)) only [PL.x_Rof, PL.x_cst, PL.x_var, PL.x_var1f, PL.x_var1l, PL.x_var1d, PL.x_pk, PL.x_pk1f, PL.x_pk1l, PL.x_pk1d, PL.x_pk1i, PL.x_pkF, PL.x_un1, PL.x_un, PL.x_truF, PL.x_bOf, PL.x_tstF, PL.x_notT, PL.x_bin1, PL.x_bin, PL.x_bp3, PL.x_bp2, PL.x_bp1, PL.x_binP, PL.x_andT, PL.x_orT, PL.x_and1t, PL.x_and1f, PL.x_or1t, PL.x_or1f, PL.x_andV, PL.x_orV, PL.x_andV1t, PL.x_andV1f, PL.x_orV1t, PL.x_orV1f, PL.x_ifE, PL.x_ifE1t, PL.x_ifE1f, PL.x_chainD, PL.x_ch1, PL.x_ch2, PL.x_ch3t, PL.x_ch3f, PL.x_nilA, PL.x_consA, PL.x_cons1, PL.x_cons2, PL.x_few, PL.x_mk1, PL.x_tupD, PL.x_lstD, PL.x_lstO, PL.x_dctO0, PL.x_frO, PL.x_cb, PL.x_noP, PL.x_iOf, PL.x_someP, PL.x_sl31, PL.x_sl32, PL.x_sl3, PL.x_slK1, PL.x_slK, PL.x_frF, PL.x_frS1, PL.x_frS2, PL.x_frS3, PL.x_cal1, PL.x_callF, PL.x_callO, PL.x_FMof, PL.x_cm1, PL.x_cm2, PL.x_cm3, PL.x_callM, PL.x_FMO, PL.x_cmo1, PL.x_cmo2, PL.x_callMO, PL.x_frzR, PL.x_itF, PL.x_rngF, PL.x_OLof, PL.x_lc2, PL.x_lc1, PL.x_lcO, PL.x_cat1, PL.x_catO, PL.x_cp1, PL.x_cp2, PL.x_cp3, PL.x_catPO, PL.x_SBn, PL.x_SBr, PL.x_skipS, PL.x_badS, PL.x_seqS, PL.x_nxO, PL.x_set1, PL.x_setS, PL.x_setO1f, PL.x_setO1l, PL.x_setO1d, PL.x_setOS, PL.x_ret1, PL.x_retO1, PL.x_exp1, PL.x_retS, PL.x_retOS, PL.x_exprS, PL.x_ifS, PL.x_if1t, PL.x_if1f, PL.x_asg1, PL.x_asgS, PL.x_argsP0, PL.x_ap1f, PL.x_ap1l, PL.x_ap1d, PL.x_ap2, PL.x_argsP, PL.x_par1, PL.x_parP, PL.x_putP0, PL.x_pp1, PL.x_putP, PL.x_app1, PL.x_app2, PL.x_nxB, PL.x_app3, PL.x_appS, PL.x_dp1, PL.x_dp2, PL.x_dp3, PL.x_dp4, PL.x_dputS, PL.x_keyI, PL.x_keyS, PL.x_up1, PL.x_up2, PL.x_up3, PL.x_updS, PL.x_for1, PL.x_forS, PL.x_RTr, PL.x_RTn, PL.x_rf1, PL.x_runF, PL.x_RMr, PL.x_RMn, PL.x_MIo, PL.x_ioOf, PL.x_rm1, PL.x_runM, PL.x_putR, PL.x_putR0f, PL.x_putR0l, PL.x_putR0d, PL.x_putR0n, PL.x_noIof, PL.x_noIol, PL.x_noIod, PL.x_noIon, PL.x_tgN, PL.x_tgT, PL.x_putAll0, PL.x_pa1, PL.x_putAll, PL.x_dAt, PL.x_dSlo, PL.x_dSli, PL.x_dPut, PL.x_dPuo, PL.x_dPui, PL.x_lAt, PL.x_lSl, PL.x_envOf, PL.x_envM, PL.x_toDl, PL.x_toDd, PL.x_toDf, PL.x_nof, PL.x_nol, PL.x_nod, PL.x_okW, PL.x_wipe0, PL.x_wipe, PL.x_yesT, PL.n_add, PL.n_mul, PL.n_mod, PL.n_div, PL.n_sub, PL.n_lt, PL.n_le, PL.n_eq, PL.d_t, PL.d_f, PL.y_add, PL.y_sub, PL.y_mod, PL.y_div, PL.y_mulL, PL.y_mulR, PL.y_lt, PL.y_le, PL.y_gt, PL.y_ge, PL.y_cmp, PL.y_eq, PL.y_ne, PL.y_int, PL.y_notD, PL.y_truB, PL.y_neg, PL.y_isi_n, PL.y_isi_b, PL.y_isi_i, PL.y_isi_s, PL.y_isi_l, PL.y_isi_t, PL.y_isi_d, PL.y_isi_c, PL.l_len, PL.l_lenT, PL.l_it, PL.l_itT, PL.l_tuple, PL.l_list, PL.l_listL, PL.l_ix, PL.l_ixT, PL.l_sum, PL.l_eq, PL.l_ne, PL.l_eq0, PL.l_ne0, PL.l_eqT, PL.l_in, PL.l_nin, PL.l_cat, PL.l_catT, PL.l_stp, PL.l_rng1, PL.l_rng2, PL.x_fb, PL.x_fb1, PL.l_eq00, PL.l_ne00, PL.l_eq01, PL.l_ne01, PL.l_lenS, PL.x_ODof, PL.x_dc2, PL.x_dc1, PL.x_dcO, PL.l_nin_tk, PL.l_in_tk, PL.l_min, PL.l_slT, PL.l_slL, PL.l_rng3, PL.x_rgl2, PL.x_rgl1, PL.x_rgList, PL.x_rgTup, PL.x_gp3, PL.x_gp2, PL.x_gp1, PL.x_getP, PL.x_mt2, PL.x_mt1, PL.x_meth1, PL.l_isL, PL.x_XRo, PL.x_XRe, PL.x_calX, PL.x_calXe, PL.x_callX, PL.x_rai1, PL.x_rai, PL.x_try3, PL.x_try2, PL.x_try2f, PL.x_try1, PL.x_try1r, PL.x_try1n, PL.x_tryR, PL.x_exu1, PL.x_exb1, PL.x_exc1, PL.x_exc2, PL.x_exm1, PL.x_exSB, PL.x_exr1, PL.x_exe1, PL.x_exi1, PL.x_exRT, PL.x_OL2, PL.x_l2b, PL.x_l2a, PL.x_lc2O, PL.l_enumT, PL.l_enumL, List.getElem?_cons_zero, List.getElem?_cons_succ, List.set_cons_zero, List.set_cons_succ, List.length_cons, List.length_nil, List.map_cons, List.map_nil, List.replicate_succ, List.replicate_zero, List.cons_append, List.nil_append, Nat.zero_add, Nat.add_zero, Nat.reduceAdd, Nat.reduceSub, Nat.reduceMul, Nat.reduceLT, Nat.reduceEqDiff, Bool.not_true, Bool.not_false, Bool.true_and, Bool.false_and, Bool.and_true, Bool.and_false, Bool.true_or, Bool.false_or, Bool.or_true, Bool.or_false, List.all_cons, List.all_nil, PL.nl_len, List.length_map, List.length_range, isiT, tyD, Option.map_some, Option.map_none, ne_eq, not_false_eq_true, not_true_eq_false, decide_true, decide_false, eq_self, implies_true, gt_iff_lt, ge_iff_le, m__law_of, b__law_of, h2, hg]
theorem of2_nl {cs : List Int} {l sd p : Nat} {ns : List Nat} (hc : cs ≠ []) (hs : sd < 2 ^ 31) (hp : p < 2 ^ 20) (h0 : ns ≠ []) (h1 : ns.length < 2 ^ 40) : ∃ (x : Nat) (l' p' : Nat), m__law_of (ms2 l sd cs p) [.lst (nl ns)] = .ok (.fr (.int (x : Nat))) (ms2 l' sd cs p') ∧ x ∈ ns ∧ p' ≤ p + 1 := by
  obtain ⟨d, l', p', h2, h3, h4⟩ := of2 (l := l) (ds := nl ns) hc hs hp (by cases ns with | nil => exact absurd rfl h0 | cons a b => exact fun z => nomatch z) (by rw [nl_len]; exact h1)
  obtain ⟨x, h5, rfl⟩ := List.mem_map.mp h3
  exact ⟨x, l', p', h2, h5, h4⟩
theorem l_slS (ns : List Int) (lo hi : Option Int) : slD (.scr ns) lo hi = some (.lst ((cutD ns lo hi).map .int)) := rfl
theorem begun2_ok (ns : List Int) (hn : ns.length ≤ 63) (k : Nat) (hk : k ≤ 1000) : ∃ (cs : List Int) (l sd : Nat), cs ≠ [] ∧ sd < 2 ^ 31 ∧ m__law_begun [.scr ns, .int k] = .ok (.od (ms2 l sd cs (0 : Nat))) := by
  have hcat : addD (.lst ((ns.drop k).map .int)) (.lst ((ns.take k).map .int)) = some (.lst ((ns.drop k ++ ns.take k).map .int)) := by
    rw [l_cat _ _ (by rw [List.length_map, List.length_map, List.length_drop, List.length_take]; omega), List.map_append]
  have hlc : (ns.drop k ++ ns.take k).length ≤ 126 := by rw [List.length_append, List.length_drop, List.length_take]; omega
  generalize ns.drop k ++ ns.take k = cells at hcat hlc
  have hq : powD (.int (10 : Nat)) (.int (18 : Nat)) = some (.int (1000000000000000000 : Nat)) := by kernel_rfl
  have hfin : addD (.lst (cells.map .int)) (.lst [.int (43 * k + 7 : Nat)]) = some (.lst ((cells ++ [((43 * k + 7 : Nat) : Int)]).map .int)) := by
    rw [l_cat _ _ (by rw [List.length_map]; simp; omega), List.map_append]
    rfl
  obtain ⟨gs, hgs⟩ : ∃ gs : List Int, gs = cells.filter fun i => decide (((1000000000000000000 : Nat) : Int) ≤ i) := ⟨_, rfl⟩
  have hpos : ∀ i ∈ gs, (0 : Int) ≤ i := fun i hi => by
    rw [hgs] at hi
    have := of_decide_eq_true (List.mem_filter.mp hi).2
    omega
  have hgl : gs.length ≤ 126 := by rw [hgs]; exact Nat.le_trans (List.length_filter_le _ _) hlc
  obtain ⟨l, hl⟩ : ∃ l : Nat, ∀ ρ : Rho, ρ[3]? = some (V (.lst (gs.map .int))) → ifE (tstF (bin neD (var 3) (lstD (nilA)))) (bin ixD (var 3) (cst (.int (0 : Nat)))) (cst (.int (0 : Nat))) ρ = .ok (.int (l : Nat)) ρ := by
    cases gs with
    | nil => exact ⟨0, fun ρ hρ => by simp -implicitDefEqProofs (disch := (first | omega | assumption)) only [PL.x_Rof, PL.x_cst, PL.x_var, PL.x_var1f, PL.x_var1l, PL.x_var1d, PL.x_pk, PL.x_pk1f, PL.x_pk1l, PL.x_pk1d, PL.x_pk1i, PL.x_pkF, PL.x_un1, PL.x_un, PL.x_truF, PL.x_bOf, PL.x_tstF, PL.x_notT, PL.x_bin1, PL.x_bin, PL.x_bp3, PL.x_bp2, PL.x_bp1, PL.x_binP, PL.x_andT, PL.x_orT, PL.x_and1t, PL.x_and1f, PL.x_or1t, PL.x_or1f, PL.x_andV, PL.x_orV, PL.x_andV1t, PL.x_andV1f, PL.x_orV1t, PL.x_orV1f, PL.x_ifE, PL.x_ifE1t, PL.x_ifE1f, PL.x_chainD, PL.x_ch1, PL.x_ch2, PL.x_ch3t, PL.x_ch3f, PL.x_nilA, PL.x_consA, PL.x_cons1, PL.x_cons2, PL.x_few, PL.x_mk1, PL.x_tupD, PL.x_lstD, PL.x_lstO, PL.x_dctO0, PL.x_frO, PL.x_cb, PL.x_noP, PL.x_iOf, PL.x_someP, PL.x_sl31, PL.x_sl32, PL.x_sl3, PL.x_slK1, PL.x_slK, PL.x_frF, PL.x_frS1, PL.x_frS2, PL.x_frS3, PL.x_cal1, PL.x_callF, PL.x_callO, PL.x_FMof, PL.x_cm1, PL.x_cm2, PL.x_cm3, PL.x_callM, PL.x_FMO, PL.x_cmo1, PL.x_cmo2, PL.x_callMO, PL.x_frzR, PL.x_itF, PL.x_rngF, PL.x_OLof, PL.x_lc2, PL.x_lc1, PL.x_lcO, PL.x_cat1, PL.x_catO, PL.x_cp1, PL.x_cp2, PL.x_cp3, PL.x_catPO, PL.x_SBn, PL.x_SBr, PL.x_skipS, PL.x_badS, PL.x_seqS, PL.x_nxO, PL.x_set1, PL.x_setS, PL.x_setO1f, PL.x_setO1l, PL.x_setO1d, PL.x_setOS, PL.x_ret1, PL.x_retO1, PL.x_exp1, PL.x_retS, PL.x_retOS, PL.x_exprS, PL.x_ifS, PL.x_if1t, PL.x_if1f, PL.x_asg1, PL.x_asgS, PL.x_argsP0, PL.x_ap1f, PL.x_ap1l, PL.x_ap1d, PL.x_ap2, PL.x_argsP, PL.x_par1, PL.x_parP, PL.x_putP0, PL.x_pp1, PL.x_putP, PL.x_app1, PL.x_app2, PL.x_nxB, PL.x_app3, PL.x_appS, PL.x_dp1, PL.x_dp2, PL.x_dp3, PL.x_dp4, PL.x_dputS, PL.x_keyI, PL.x_keyS, PL.x_up1, PL.x_up2, PL.x_up3, PL.x_updS, PL.x_for1, PL.x_forS, PL.x_RTr, PL.x_RTn, PL.x_rf1, PL.x_runF, PL.x_RMr, PL.x_RMn, PL.x_MIo, PL.x_ioOf, PL.x_rm1, PL.x_runM, PL.x_putR, PL.x_putR0f, PL.x_putR0l, PL.x_putR0d, PL.x_putR0n, PL.x_noIof, PL.x_noIol, PL.x_noIod, PL.x_noIon, PL.x_tgN, PL.x_tgT, PL.x_putAll0, PL.x_pa1, PL.x_putAll, PL.x_dAt, PL.x_dSlo, PL.x_dSli, PL.x_dPut, PL.x_dPuo, PL.x_dPui, PL.x_lAt, PL.x_lSl, PL.x_envOf, PL.x_envM, PL.x_toDl, PL.x_toDd, PL.x_toDf, PL.x_nof, PL.x_nol, PL.x_nod, PL.x_okW, PL.x_wipe0, PL.x_wipe, PL.x_yesT, PL.n_add, PL.n_mul, PL.n_mod, PL.n_div, PL.n_sub, PL.n_lt, PL.n_le, PL.n_eq, PL.d_t, PL.d_f, PL.y_add, PL.y_sub, PL.y_mod, PL.y_div, PL.y_mulL, PL.y_mulR, PL.y_lt, PL.y_le, PL.y_gt, PL.y_ge, PL.y_cmp, PL.y_eq, PL.y_ne, PL.y_int, PL.y_notD, PL.y_truB, PL.y_neg, PL.y_isi_n, PL.y_isi_b, PL.y_isi_i, PL.y_isi_s, PL.y_isi_l, PL.y_isi_t, PL.y_isi_d, PL.y_isi_c, PL.l_len, PL.l_lenT, PL.l_it, PL.l_itT, PL.l_tuple, PL.l_list, PL.l_listL, PL.l_ix, PL.l_ixT, PL.l_sum, PL.l_eq, PL.l_ne, PL.l_eq0, PL.l_ne0, PL.l_eqT, PL.l_in, PL.l_nin, PL.l_cat, PL.l_catT, PL.l_stp, PL.l_rng1, PL.l_rng2, PL.x_fb, PL.x_fb1, PL.l_eq00, PL.l_ne00, PL.l_eq01, PL.l_ne01, PL.l_lenS, PL.x_ODof, PL.x_dc2, PL.x_dc1, PL.x_dcO, PL.l_nin_tk, PL.l_in_tk, PL.l_min, PL.l_slT, PL.l_slL, PL.l_rng3, PL.x_rgl2, PL.x_rgl1, PL.x_rgList, PL.x_rgTup, PL.x_gp3, PL.x_gp2, PL.x_gp1, PL.x_getP, PL.x_mt2, PL.x_mt1, PL.x_meth1, PL.l_isL, PL.x_XRo, PL.x_XRe, PL.x_calX, PL.x_calXe, PL.x_callX, PL.x_rai1, PL.x_rai, PL.x_try3, PL.x_try2, PL.x_try2f, PL.x_try1, PL.x_try1r, PL.x_try1n, PL.x_tryR, PL.x_exu1, PL.x_exb1, PL.x_exc1, PL.x_exc2, PL.x_exm1, PL.x_exSB, PL.x_exr1, PL.x_exe1, PL.x_exi1, PL.x_exRT, PL.x_OL2, PL.x_l2b, PL.x_l2a, PL.x_lc2O, PL.l_enumT, PL.l_enumL, List.getElem?_cons_zero, List.getElem?_cons_succ, List.set_cons_zero, List.set_cons_succ, List.length_cons, List.length_nil, List.map_cons, List.map_nil, List.replicate_succ, List.replicate_zero, List.cons_append, List.nil_append, Nat.zero_add, Nat.add_zero, Nat.reduceAdd, Nat.reduceSub, Nat.reduceMul, Nat.reduceLT, Nat.reduceEqDiff, Bool.not_true, Bool.not_false, Bool.true_and, Bool.false_and, Bool.and_true, Bool.and_false, Bool.true_or, Bool.false_or, Bool.or_true, Bool.or_false, List.all_cons, List.all_nil, PL.nl_len, List.length_map, List.length_range, isiT, tyD, Option.map_some, Option.map_none, ne_eq, not_false_eq_true, not_true_eq_false, decide_true, decide_false, eq_self, implies_true, gt_iff_lt, ge_iff_le, hρ, show neD (.lst []) (.lst []) = some (.bl false) from rfl]⟩
    | cons g gs =>
      have h1 := ne_nil g gs
      have h2 : ((g :: gs).map Dt.int)[0]? = some (.int ((g.toNat : Nat) : Int)) := by
        rw [Int.toNat_of_nonneg (hpos g (List.mem_cons_self ..))]
        rfl
      refine ⟨g.toNat, fun ρ hρ => ?_⟩
      generalize (g :: gs).map Dt.int = xs at h1 h2 hρ
      simp -implicitDefEqProofs (disch := (first | omega | assumption)) only [PL.x_Rof, PL.x_cst, PL.x_var, PL.x_var1f, PL.x_var1l, PL.x_var1d, PL.x_pk, PL.x_pk1f, PL.x_pk1l, PL.x_pk1d, PL.x_pk1i, PL.x_pkF, PL.x_un1, PL.x_un, PL.x_truF, PL.x_bOf, PL.x_tstF, PL.x_notT, PL.x_bin1, PL.x_bin, PL.x_bp3, PL.x_bp2, PL.x_bp1, PL.x_binP, PL.x_andT, PL.x_orT, PL.x_and1t, PL.x_and1f, PL.x_or1t, PL.x_or1f, PL.x_andV, PL.x_orV, PL.x_andV1t, PL.x_andV1f, PL.x_orV1t, PL.x_orV1f, PL.x_ifE, PL.x_ifE1t, PL.x_ifE1f, PL.x_chainD, PL.x_ch1, PL.x_ch2, PL.x_ch3t, PL.x_ch3f, PL.x_nilA, PL.x_consA, PL.x_cons1, PL.x_cons2, PL.x_few, PL.x_mk1, PL.x_tupD, PL.x_lstD, PL.x_lstO, PL.x_dctO0, PL.x_frO, PL.x_cb, PL.x_noP, PL.x_iOf, PL.x_someP, PL.x_sl31, PL.x_sl32, PL.x_sl3, PL.x_slK1, PL.x_slK, PL.x_frF, PL.x_frS1, PL.x_frS2, PL.x_frS3, PL.x_cal1, PL.x_callF, PL.x_callO, PL.x_FMof, PL.x_cm1, PL.x_cm2, PL.x_cm3, PL.x_callM, PL.x_FMO, PL.x_cmo1, PL.x_cmo2, PL.x_callMO, PL.x_frzR, PL.x_itF, PL.x_rngF, PL.x_OLof, PL.x_lc2, PL.x_lc1, PL.x_lcO, PL.x_cat1, PL.x_catO, PL.x_cp1, PL.x_cp2, PL.x_cp3, PL.x_catPO, PL.x_SBn, PL.x_SBr, PL.x_skipS, PL.x_badS, PL.x_seqS, PL.x_nxO, PL.x_set1, PL.x_setS, PL.x_setO1f, PL.x_setO1l, PL.x_setO1d, PL.x_setOS, PL.x_ret1, PL.x_retO1, PL.x_exp1, PL.x_retS, PL.x_retOS, PL.x_exprS, PL.x_ifS, PL.x_if1t, PL.x_if1f, PL.x_asg1, PL.x_asgS, PL.x_argsP0, PL.x_ap1f, PL.x_ap1l, PL.x_ap1d, PL.x_ap2, PL.x_argsP, PL.x_par1, PL.x_parP, PL.x_putP0, PL.x_pp1, PL.x_putP, PL.x_app1, PL.x_app2, PL.x_nxB, PL.x_app3, PL.x_appS, PL.x_dp1, PL.x_dp2, PL.x_dp3, PL.x_dp4, PL.x_dputS, PL.x_keyI, PL.x_keyS, PL.x_up1, PL.x_up2, PL.x_up3, PL.x_updS, PL.x_for1, PL.x_forS, PL.x_RTr, PL.x_RTn, PL.x_rf1, PL.x_runF, PL.x_RMr, PL.x_RMn, PL.x_MIo, PL.x_ioOf, PL.x_rm1, PL.x_runM, PL.x_putR, PL.x_putR0f, PL.x_putR0l, PL.x_putR0d, PL.x_putR0n, PL.x_noIof, PL.x_noIol, PL.x_noIod, PL.x_noIon, PL.x_tgN, PL.x_tgT, PL.x_putAll0, PL.x_pa1, PL.x_putAll, PL.x_dAt, PL.x_dSlo, PL.x_dSli, PL.x_dPut, PL.x_dPuo, PL.x_dPui, PL.x_lAt, PL.x_lSl, PL.x_envOf, PL.x_envM, PL.x_toDl, PL.x_toDd, PL.x_toDf, PL.x_nof, PL.x_nol, PL.x_nod, PL.x_okW, PL.x_wipe0, PL.x_wipe, PL.x_yesT, PL.n_add, PL.n_mul, PL.n_mod, PL.n_div, PL.n_sub, PL.n_lt, PL.n_le, PL.n_eq, PL.d_t, PL.d_f, PL.y_add, PL.y_sub, PL.y_mod, PL.y_div, PL.y_mulL, PL.y_mulR, PL.y_lt, PL.y_le, PL.y_gt, PL.y_ge, PL.y_cmp, PL.y_eq, PL.y_ne, PL.y_int, PL.y_notD, PL.y_truB, PL.y_neg, PL.y_isi_n, PL.y_isi_b, PL.y_isi_i, PL.y_isi_s, PL.y_isi_l, PL.y_isi_t, PL.y_isi_d, PL.y_isi_c, PL.l_len, PL.l_lenT, PL.l_it, PL.l_itT, PL.l_tuple, PL.l_list, PL.l_listL, PL.l_ix, PL.l_ixT, PL.l_sum, PL.l_eq, PL.l_ne, PL.l_eq0, PL.l_ne0, PL.l_eqT, PL.l_in, PL.l_nin, PL.l_cat, PL.l_catT, PL.l_stp, PL.l_rng1, PL.l_rng2, PL.x_fb, PL.x_fb1, PL.l_eq00, PL.l_ne00, PL.l_eq01, PL.l_ne01, PL.l_lenS, PL.x_ODof, PL.x_dc2, PL.x_dc1, PL.x_dcO, PL.l_nin_tk, PL.l_in_tk, PL.l_min, PL.l_slT, PL.l_slL, PL.l_rng3, PL.x_rgl2, PL.x_rgl1, PL.x_rgList, PL.x_rgTup, PL.x_gp3, PL.x_gp2, PL.x_gp1, PL.x_getP, PL.x_mt2, PL.x_mt1, PL.x_meth1, PL.l_isL, PL.x_XRo, PL.x_XRe, PL.x_calX, PL.x_calXe, PL.x_callX, PL.x_rai1, PL.x_rai, PL.x_try3, PL.x_try2, PL.x_try2f, PL.x_try1, PL.x_try1r, PL.x_try1n, PL.x_tryR, PL.x_exu1, PL.x_exb1, PL.x_exc1, PL.x_exc2, PL.x_exm1, PL.x_exSB, PL.x_exr1, PL.x_exe1, PL.x_exi1, PL.x_exRT, PL.x_OL2, PL.x_l2b, PL.x_l2a, PL.x_lc2O, PL.l_enumT, PL.l_enumL, List.getElem?_cons_zero, List.getElem?_cons_succ, List.set_cons_zero, List.set_cons_succ, List.length_cons, List.length_nil, List.map_cons, List.map_nil, List.replicate_succ, List.replicate_zero, List.cons_append, List.nil_append, Nat.zero_add, Nat.add_zero, Nat.reduceAdd, Nat.reduceSub, Nat.reduceMul, Nat.reduceLT, Nat.reduceEqDiff, Bool.not_true, Bool.not_false, Bool.true_and, Bool.false_and, Bool.and_true, Bool.and_false, Bool.true_or, Bool.false_or, Bool.or_true, Bool.or_false, List.all_cons, List.all_nil, PL.nl_len, List.length_map, List.length_range, isiT, tyD, Option.map_some, Option.map_none, ne_eq, not_false_eq_true, not_true_eq_false, decide_true, decide_false, eq_self, implies_true, gt_iff_lt, ge_iff_le, hρ, h1, h2]
  refine ⟨cells ++ [((43 * k + 7 : Nat) : Int)], l, ?_⟩
  suffices h : ∃ sd : Nat, sd < 2 ^ 31 ∧ m__law_begun [.scr ns, .int k] = .ok (.od (ms2 l sd (cells ++ [((43 * k + 7 : Nat) : Int)]) (0 : Nat))) by
    obtain ⟨sd, h1, h2⟩ := h
    exact ⟨sd, by simp, h1, h2⟩
  obtain ⟨ρ', h1, sd, e5, rfl, h2⟩ := for_P (tg := tgN 5) (bd := setS 4 (bin modD (un intD (bin addD (bin mulD (var 4) (cst (.int (48271 : Nat)))) (pkF 5))) (cst (.int (2147483647 : Nat))))) (F := Dt.int)
    (fun _ ρ => ∃ (sd : Nat) (e5 : Option Sl), ρ = [V (.scr ns), I k, V (.lst (cells.map .int)), V (.lst (gs.map .int)), I sd, e5] ∧ sd < 2 ^ 31) (xs := cells) (ρ := [V (.scr ns), I k, V (.lst (cells.map .int)), V (.lst (gs.map .int)), I (131 + k : Nat), none]) ⟨131 + k, none, rfl, by omega⟩ (by
      rintro i x ρ hx ⟨sd, e5, rfl, hs⟩
      obtain ⟨u, hu, hu2⟩ := emod_nat (lim := 2147483647) (by omega) (((sd * 48271 : Nat) : Int) + x)
      refine ⟨_, ?_, u, some (.fr (.int x)), rfl, by omega⟩
      simp -implicitDefEqProofs (disch := (first | omega | assumption)) only [PL.x_Rof, PL.x_cst, PL.x_var, PL.x_var1f, PL.x_var1l, PL.x_var1d, PL.x_pk, PL.x_pk1f, PL.x_pk1l, PL.x_pk1d, PL.x_pk1i, PL.x_pkF, PL.x_un1, PL.x_un, PL.x_truF, PL.x_bOf, PL.x_tstF, PL.x_notT, PL.x_bin1, PL.x_bin, PL.x_bp3, PL.x_bp2, PL.x_bp1, PL.x_binP, PL.x_andT, PL.x_orT, PL.x_and1t, PL.x_and1f, PL.x_or1t, PL.x_or1f, PL.x_andV, PL.x_orV, PL.x_andV1t, PL.x_andV1f, PL.x_orV1t, PL.x_orV1f, PL.x_ifE, PL.x_ifE1t, PL.x_ifE1f, PL.x_chainD, PL.x_ch1, PL.x_ch2, PL.x_ch3t, PL.x_ch3f, PL.x_nilA, PL.x_consA, PL.x_cons1, PL.x_cons2, PL.x_few, PL.x_mk1, PL.x_tupD, PL.x_lstD, PL.x_lstO, PL.x_dctO0, PL.x_frO, PL.x_cb, PL.x_noP, PL.x_iOf, PL.x_someP, PL.x_sl31, PL.x_sl32, PL.x_sl3, PL.x_slK1, PL.x_slK, PL.x_frF, PL.x_frS1, PL.x_frS2, PL.x_frS3, PL.x_cal1, PL.x_callF, PL.x_callO, PL.x_FMof, PL.x_cm1, PL.x_cm2, PL.x_cm3, PL.x_callM, PL.x_FMO, PL.x_cmo1, PL.x_cmo2, PL.x_callMO, PL.x_frzR, PL.x_itF, PL.x_rngF, PL.x_OLof, PL.x_lc2, PL.x_lc1, PL.x_lcO, PL.x_cat1, PL.x_catO, PL.x_cp1, PL.x_cp2, PL.x_cp3, PL.x_catPO, PL.x_SBn, PL.x_SBr, PL.x_skipS, PL.x_badS, PL.x_seqS, PL.x_nxO, PL.x_set1, PL.x_setS, PL.x_setO1f, PL.x_setO1l, PL.x_setO1d, PL.x_setOS, PL.x_ret1, PL.x_retO1, PL.x_exp1, PL.x_retS, PL.x_retOS, PL.x_exprS, PL.x_ifS, PL.x_if1t, PL.x_if1f, PL.x_asg1, PL.x_asgS, PL.x_argsP0, PL.x_ap1f, PL.x_ap1l, PL.x_ap1d, PL.x_ap2, PL.x_argsP, PL.x_par1, PL.x_parP, PL.x_putP0, PL.x_pp1, PL.x_putP, PL.x_app1, PL.x_app2, PL.x_nxB, PL.x_app3, PL.x_appS, PL.x_dp1, PL.x_dp2, PL.x_dp3, PL.x_dp4, PL.x_dputS, PL.x_keyI, PL.x_keyS, PL.x_up1, PL.x_up2, PL.x_up3, PL.x_updS, PL.x_for1, PL.x_forS, PL.x_RTr, PL.x_RTn, PL.x_rf1, PL.x_runF, PL.x_RMr, PL.x_RMn, PL.x_MIo, PL.x_ioOf, PL.x_rm1, PL.x_runM, PL.x_putR, PL.x_putR0f, PL.x_putR0l, PL.x_putR0d, PL.x_putR0n, PL.x_noIof, PL.x_noIol, PL.x_noIod, PL.x_noIon, PL.x_tgN, PL.x_tgT, PL.x_putAll0, PL.x_pa1, PL.x_putAll, PL.x_dAt, PL.x_dSlo, PL.x_dSli, PL.x_dPut, PL.x_dPuo, PL.x_dPui, PL.x_lAt, PL.x_lSl, PL.x_envOf, PL.x_envM, PL.x_toDl, PL.x_toDd, PL.x_toDf, PL.x_nof, PL.x_nol, PL.x_nod, PL.x_okW, PL.x_wipe0, PL.x_wipe, PL.x_yesT, PL.n_add, PL.n_mul, PL.n_mod, PL.n_div, PL.n_sub, PL.n_lt, PL.n_le, PL.n_eq, PL.d_t, PL.d_f, PL.y_add, PL.y_sub, PL.y_mod, PL.y_div, PL.y_mulL, PL.y_mulR, PL.y_lt, PL.y_le, PL.y_gt, PL.y_ge, PL.y_cmp, PL.y_eq, PL.y_ne, PL.y_int, PL.y_notD, PL.y_truB, PL.y_neg, PL.y_isi_n, PL.y_isi_b, PL.y_isi_i, PL.y_isi_s, PL.y_isi_l, PL.y_isi_t, PL.y_isi_d, PL.y_isi_c, PL.l_len, PL.l_lenT, PL.l_it, PL.l_itT, PL.l_tuple, PL.l_list, PL.l_listL, PL.l_ix, PL.l_ixT, PL.l_sum, PL.l_eq, PL.l_ne, PL.l_eq0, PL.l_ne0, PL.l_eqT, PL.l_in, PL.l_nin, PL.l_cat, PL.l_catT, PL.l_stp, PL.l_rng1, PL.l_rng2, PL.x_fb, PL.x_fb1, PL.l_eq00, PL.l_ne00, PL.l_eq01, PL.l_ne01, PL.l_lenS, PL.x_ODof, PL.x_dc2, PL.x_dc1, PL.x_dcO, PL.l_nin_tk, PL.l_in_tk, PL.l_min, PL.l_slT, PL.l_slL, PL.l_rng3, PL.x_rgl2, PL.x_rgl1, PL.x_rgList, PL.x_rgTup, PL.x_gp3, PL.x_gp2, PL.x_gp1, PL.x_getP, PL.x_mt2, PL.x_mt1, PL.x_meth1, PL.l_isL, PL.x_XRo, PL.x_XRe, PL.x_calX, PL.x_calXe, PL.x_callX, PL.x_rai1, PL.x_rai, PL.x_try3, PL.x_try2, PL.x_try2f, PL.x_try1, PL.x_try1r, PL.x_try1n, PL.x_tryR, PL.x_exu1, PL.x_exb1, PL.x_exc1, PL.x_exc2, PL.x_exm1, PL.x_exSB, PL.x_exr1, PL.x_exe1, PL.x_exi1, PL.x_exRT, PL.x_OL2, PL.x_l2b, PL.x_l2a, PL.x_lc2O, PL.l_enumT, PL.l_enumL, List.getElem?_cons_zero, List.getElem?_cons_succ, List.set_cons_zero, List.set_cons_succ, List.length_cons, List.length_nil, List.map_cons, List.map_nil, List.replicate_succ, List.replicate_zero, List.cons_append, List.nil_append, Nat.zero_add, Nat.add_zero, Nat.reduceAdd, Nat.reduceSub, Nat.reduceMul, Nat.reduceLT, Nat.reduceEqDiff, Bool.not_true, Bool.not_false, Bool.true_and, Bool.false_and, Bool.and_true, Bool.and_false, Bool.true_or, Bool.false_or, Bool.or_true, Bool.or_false, List.all_cons, List.all_nil, PL.nl_len, List.length_map, List.length_range, isiT, tyD, Option.map_some, Option.map_none, ne_eq, not_false_eq_true, not_true_eq_false, decide_true, decide_false, eq_self, implies_true, gt_iff_lt, ge_iff_le, x_fb, x_fb1, hu])
  refine ⟨sd, h2, ?_⟩
  have hdisp : ∀ ρ : Rho, ρ = [V (.scr ns), I k, V (.lst (cells.map .int)), V (.lst (gs.map .int)), I sd, e5] → dispO ((cst (.str "left"), ifE (tstF (bin neD (var 3) (lstD (nilA)))) (bin ixD (var 3) (cst (.int (0 : Nat)))) (cst (.int (0 : Nat)))) :: ((cst (.str "seed"), var 4) :: ((cst (.str "cells"), bin addD (var 2) (lstD (consA (bin addD (bin mulD (cst (.int (43 : Nat))) (pkF 1)) (cst (.int (7 : Nat)))) (nilA)))) :: ((cst (.str "spot"), cst (.int (0 : Nat))) :: ([]))))) ρ = .ok (.od (ms2 l sd (cells ++ [((43 * k + 7 : Nat) : Int)]) (0 : Nat))) ρ := by
    rintro ρ rfl
    have h9 := hl [V (.scr ns), I k, V (.lst (cells.map .int)), V (.lst (gs.map .int)), I sd, e5] rfl
    have h8 : bin addD (var 2) (lstD (consA (bin addD (bin mulD (cst (.int (43 : Nat))) (pkF 1)) (cst (.int (7 : Nat)))) (nilA))) [V (.scr ns), I k, V (.lst (cells.map .int)), V (.lst (gs.map .int)), I sd, e5] = .ok (.lst ((cells ++ [((43 * k + 7 : Nat) : Int)]).map .int)) [V (.scr ns), I k, V (.lst (cells.map .int)), V (.lst (gs.map .int)), I sd, e5] := by
      simp -implicitDefEqProofs (disch := (first | omega | assumption)) only [PL.x_Rof, PL.x_cst, PL.x_var, PL.x_var1f, PL.x_var1l, PL.x_var1d, PL.x_pk, PL.x_pk1f, PL.x_pk1l, PL.x_pk1d, PL.x_pk1i, PL.x_pkF, PL.x_un1, PL.x_un, PL.x_truF, PL.x_bOf, PL.x_tstF, PL.x_notT, PL.x_bin1, PL.x_bin, PL.x_bp3, PL.x_bp2, PL.x_bp1, PL.x_binP, PL.x_andT, PL.x_orT, PL.x_and1t, PL.x_and1f, PL.x_or1t, PL.x_or1f, PL.x_andV, PL.x_orV, PL.x_andV1t, PL.x_andV1f, PL.x_orV1t, PL.x_orV1f, PL.x_ifE, PL.x_ifE1t, PL.x_ifE1f, PL.x_chainD, PL.x_ch1, PL.x_ch2, PL.x_ch3t, PL.x_ch3f, PL.x_nilA, PL.x_consA, PL.x_cons1, PL.x_cons2, PL.x_few, PL.x_mk1, PL.x_tupD, PL.x_lstD, PL.x_lstO, PL.x_dctO0, PL.x_frO, PL.x_cb, PL.x_noP, PL.x_iOf, PL.x_someP, PL.x_sl31, PL.x_sl32, PL.x_sl3, PL.x_slK1, PL.x_slK, PL.x_frF, PL.x_frS1, PL.x_frS2, PL.x_frS3, PL.x_cal1, PL.x_callF, PL.x_callO, PL.x_FMof, PL.x_cm1, PL.x_cm2, PL.x_cm3, PL.x_callM, PL.x_FMO, PL.x_cmo1, PL.x_cmo2, PL.x_callMO, PL.x_frzR, PL.x_itF, PL.x_rngF, PL.x_OLof, PL.x_lc2, PL.x_lc1, PL.x_lcO, PL.x_cat1, PL.x_catO, PL.x_cp1, PL.x_cp2, PL.x_cp3, PL.x_catPO, PL.x_SBn, PL.x_SBr, PL.x_skipS, PL.x_badS, PL.x_seqS, PL.x_nxO, PL.x_set1, PL.x_setS, PL.x_setO1f, PL.x_setO1l, PL.x_setO1d, PL.x_setOS, PL.x_ret1, PL.x_retO1, PL.x_exp1, PL.x_retS, PL.x_retOS, PL.x_exprS, PL.x_ifS, PL.x_if1t, PL.x_if1f, PL.x_asg1, PL.x_asgS, PL.x_argsP0, PL.x_ap1f, PL.x_ap1l, PL.x_ap1d, PL.x_ap2, PL.x_argsP, PL.x_par1, PL.x_parP, PL.x_putP0, PL.x_pp1, PL.x_putP, PL.x_app1, PL.x_app2, PL.x_nxB, PL.x_app3, PL.x_appS, PL.x_dp1, PL.x_dp2, PL.x_dp3, PL.x_dp4, PL.x_dputS, PL.x_keyI, PL.x_keyS, PL.x_up1, PL.x_up2, PL.x_up3, PL.x_updS, PL.x_for1, PL.x_forS, PL.x_RTr, PL.x_RTn, PL.x_rf1, PL.x_runF, PL.x_RMr, PL.x_RMn, PL.x_MIo, PL.x_ioOf, PL.x_rm1, PL.x_runM, PL.x_putR, PL.x_putR0f, PL.x_putR0l, PL.x_putR0d, PL.x_putR0n, PL.x_noIof, PL.x_noIol, PL.x_noIod, PL.x_noIon, PL.x_tgN, PL.x_tgT, PL.x_putAll0, PL.x_pa1, PL.x_putAll, PL.x_dAt, PL.x_dSlo, PL.x_dSli, PL.x_dPut, PL.x_dPuo, PL.x_dPui, PL.x_lAt, PL.x_lSl, PL.x_envOf, PL.x_envM, PL.x_toDl, PL.x_toDd, PL.x_toDf, PL.x_nof, PL.x_nol, PL.x_nod, PL.x_okW, PL.x_wipe0, PL.x_wipe, PL.x_yesT, PL.n_add, PL.n_mul, PL.n_mod, PL.n_div, PL.n_sub, PL.n_lt, PL.n_le, PL.n_eq, PL.d_t, PL.d_f, PL.y_add, PL.y_sub, PL.y_mod, PL.y_div, PL.y_mulL, PL.y_mulR, PL.y_lt, PL.y_le, PL.y_gt, PL.y_ge, PL.y_cmp, PL.y_eq, PL.y_ne, PL.y_int, PL.y_notD, PL.y_truB, PL.y_neg, PL.y_isi_n, PL.y_isi_b, PL.y_isi_i, PL.y_isi_s, PL.y_isi_l, PL.y_isi_t, PL.y_isi_d, PL.y_isi_c, PL.l_len, PL.l_lenT, PL.l_it, PL.l_itT, PL.l_tuple, PL.l_list, PL.l_listL, PL.l_ix, PL.l_ixT, PL.l_sum, PL.l_eq, PL.l_ne, PL.l_eq0, PL.l_ne0, PL.l_eqT, PL.l_in, PL.l_nin, PL.l_cat, PL.l_catT, PL.l_stp, PL.l_rng1, PL.l_rng2, PL.x_fb, PL.x_fb1, PL.l_eq00, PL.l_ne00, PL.l_eq01, PL.l_ne01, PL.l_lenS, PL.x_ODof, PL.x_dc2, PL.x_dc1, PL.x_dcO, PL.l_nin_tk, PL.l_in_tk, PL.l_min, PL.l_slT, PL.l_slL, PL.l_rng3, PL.x_rgl2, PL.x_rgl1, PL.x_rgList, PL.x_rgTup, PL.x_gp3, PL.x_gp2, PL.x_gp1, PL.x_getP, PL.x_mt2, PL.x_mt1, PL.x_meth1, PL.l_isL, PL.x_XRo, PL.x_XRe, PL.x_calX, PL.x_calXe, PL.x_callX, PL.x_rai1, PL.x_rai, PL.x_try3, PL.x_try2, PL.x_try2f, PL.x_try1, PL.x_try1r, PL.x_try1n, PL.x_tryR, PL.x_exu1, PL.x_exb1, PL.x_exc1, PL.x_exc2, PL.x_exm1, PL.x_exSB, PL.x_exr1, PL.x_exe1, PL.x_exi1, PL.x_exRT, PL.x_OL2, PL.x_l2b, PL.x_l2a, PL.x_lc2O, PL.l_enumT, PL.l_enumL, List.getElem?_cons_zero, List.getElem?_cons_succ, List.set_cons_zero, List.set_cons_succ, List.length_cons, List.length_nil, List.map_cons, List.map_nil, List.replicate_succ, List.replicate_zero, List.cons_append, List.nil_append, Nat.zero_add, Nat.add_zero, Nat.reduceAdd, Nat.reduceSub, Nat.reduceMul, Nat.reduceLT, Nat.reduceEqDiff, Bool.not_true, Bool.not_false, Bool.true_and, Bool.false_and, Bool.and_true, Bool.and_false, Bool.true_or, Bool.false_or, Bool.or_true, Bool.or_false, List.all_cons, List.all_nil, PL.nl_len, List.length_map, List.length_range, isiT, tyD, Option.map_some, Option.map_none, ne_eq, not_false_eq_true, not_true_eq_false, decide_true, decide_false, eq_self, implies_true, gt_iff_lt, ge_iff_le, hfin]
    have h7 : pairsF ((cst (.str "left"), ifE (tstF (bin neD (var 3) (lstD (nilA)))) (bin ixD (var 3) (cst (.int (0 : Nat)))) (cst (.int (0 : Nat)))) :: ((cst (.str "seed"), var 4) :: ((cst (.str "cells"), bin addD (var 2) (lstD (consA (bin addD (bin mulD (cst (.int (43 : Nat))) (pkF 1)) (cst (.int (7 : Nat)))) (nilA)))) :: ((cst (.str "spot"), cst (.int (0 : Nat))) :: ([]))))) [V (.scr ns), I k, V (.lst (cells.map .int)), V (.lst (gs.map .int)), I sd, e5] = .ok [(.inr "left", .int (l : Nat)), (.inr "seed", .int (sd : Nat)), (.inr "cells", .lst ((cells ++ [((43 * k + 7 : Nat) : Int)]).map .int)), (.inr "spot", .int (0 : Nat))] [V (.scr ns), I k, V (.lst (cells.map .int)), V (.lst (gs.map .int)), I sd, e5] :=
      e_pair h9 (e_pair rfl (e_pair h8 (e_pair rfl e_pnil)))
    refine (e_disp h7 (by simp)).trans ?_
    generalize (cells ++ [((43 * k + 7 : Nat) : Int)]) = cs
    kernel_rfl
  simp -implicitDefEqProofs (disch := (first | omega | assumption)) only [PL.x_Rof, PL.x_cst, PL.x_var, PL.x_var1f, PL.x_var1l, PL.x_var1d, PL.x_pk, PL.x_pk1f, PL.x_pk1l, PL.x_pk1d, PL.x_pk1i, PL.x_pkF, PL.x_un1, PL.x_un, PL.x_truF, PL.x_bOf, PL.x_tstF, PL.x_notT, PL.x_bin1, PL.x_bin, PL.x_bp3, PL.x_bp2, PL.x_bp1, PL.x_binP, PL.x_andT, PL.x_orT, PL.x_and1t, PL.x_and1f, PL.x_or1t, PL.x_or1f, PL.x_andV, PL.x_orV, PL.x_andV1t, PL.x_andV1f, PL.x_orV1t, PL.x_orV1f, PL.x_ifE, PL.x_ifE1t, PL.x_ifE1f, PL.x_chainD, PL.x_ch1, PL.x_ch2, PL.x_ch3t, PL.x_ch3f, PL.x_nilA, PL.x_consA, PL.x_cons1, PL.x_cons2, PL.x_few, PL.x_mk1, PL.x_tupD, PL.x_lstD, PL.x_lstO, PL.x_dctO0, PL.x_frO, PL.x_cb, PL.x_noP, PL.x_iOf, PL.x_someP, PL.x_sl31, PL.x_sl32, PL.x_sl3, PL.x_slK1, PL.x_slK, PL.x_frF, PL.x_frS1, PL.x_frS2, PL.x_frS3, PL.x_cal1, PL.x_callF, PL.x_callO, PL.x_FMof, PL.x_cm1, PL.x_cm2, PL.x_cm3, PL.x_callM, PL.x_FMO, PL.x_cmo1, PL.x_cmo2, PL.x_callMO, PL.x_frzR, PL.x_itF, PL.x_rngF, PL.x_OLof, PL.x_lc2, PL.x_lc1, PL.x_lcO, PL.x_cat1, PL.x_catO, PL.x_cp1, PL.x_cp2, PL.x_cp3, PL.x_catPO, PL.x_SBn, PL.x_SBr, PL.x_skipS, PL.x_badS, PL.x_seqS, PL.x_nxO, PL.x_set1, PL.x_setS, PL.x_setO1f, PL.x_setO1l, PL.x_setO1d, PL.x_setOS, PL.x_ret1, PL.x_retO1, PL.x_exp1, PL.x_retS, PL.x_retOS, PL.x_exprS, PL.x_ifS, PL.x_if1t, PL.x_if1f, PL.x_asg1, PL.x_asgS, PL.x_argsP0, PL.x_ap1f, PL.x_ap1l, PL.x_ap1d, PL.x_ap2, PL.x_argsP, PL.x_par1, PL.x_parP, PL.x_putP0, PL.x_pp1, PL.x_putP, PL.x_app1, PL.x_app2, PL.x_nxB, PL.x_app3, PL.x_appS, PL.x_dp1, PL.x_dp2, PL.x_dp3, PL.x_dp4, PL.x_dputS, PL.x_keyI, PL.x_keyS, PL.x_up1, PL.x_up2, PL.x_up3, PL.x_updS, PL.x_for1, PL.x_forS, PL.x_RTr, PL.x_RTn, PL.x_rf1, PL.x_runF, PL.x_RMr, PL.x_RMn, PL.x_MIo, PL.x_ioOf, PL.x_rm1, PL.x_runM, PL.x_putR, PL.x_putR0f, PL.x_putR0l, PL.x_putR0d, PL.x_putR0n, PL.x_noIof, PL.x_noIol, PL.x_noIod, PL.x_noIon, PL.x_tgN, PL.x_tgT, PL.x_putAll0, PL.x_pa1, PL.x_putAll, PL.x_dAt, PL.x_dSlo, PL.x_dSli, PL.x_dPut, PL.x_dPuo, PL.x_dPui, PL.x_lAt, PL.x_lSl, PL.x_envOf, PL.x_envM, PL.x_toDl, PL.x_toDd, PL.x_toDf, PL.x_nof, PL.x_nol, PL.x_nod, PL.x_okW, PL.x_wipe0, PL.x_wipe, PL.x_yesT, PL.n_add, PL.n_mul, PL.n_mod, PL.n_div, PL.n_sub, PL.n_lt, PL.n_le, PL.n_eq, PL.d_t, PL.d_f, PL.y_add, PL.y_sub, PL.y_mod, PL.y_div, PL.y_mulL, PL.y_mulR, PL.y_lt, PL.y_le, PL.y_gt, PL.y_ge, PL.y_cmp, PL.y_eq, PL.y_ne, PL.y_int, PL.y_notD, PL.y_truB, PL.y_neg, PL.y_isi_n, PL.y_isi_b, PL.y_isi_i, PL.y_isi_s, PL.y_isi_l, PL.y_isi_t, PL.y_isi_d, PL.y_isi_c, PL.l_len, PL.l_lenT, PL.l_it, PL.l_itT, PL.l_tuple, PL.l_list, PL.l_listL, PL.l_ix, PL.l_ixT, PL.l_sum, PL.l_eq, PL.l_ne, PL.l_eq0, PL.l_ne0, PL.l_eqT, PL.l_in, PL.l_nin, PL.l_cat, PL.l_catT, PL.l_stp, PL.l_rng1, PL.l_rng2, PL.x_fb, PL.x_fb1, PL.l_eq00, PL.l_ne00, PL.l_eq01, PL.l_ne01, PL.l_lenS, PL.x_ODof, PL.x_dc2, PL.x_dc1, PL.x_dcO, PL.l_nin_tk, PL.l_in_tk, PL.l_min, PL.l_slT, PL.l_slL, PL.l_rng3, PL.x_rgl2, PL.x_rgl1, PL.x_rgList, PL.x_rgTup, PL.x_gp3, PL.x_gp2, PL.x_gp1, PL.x_getP, PL.x_mt2, PL.x_mt1, PL.x_meth1, PL.l_isL, PL.x_XRo, PL.x_XRe, PL.x_calX, PL.x_calXe, PL.x_callX, PL.x_rai1, PL.x_rai, PL.x_try3, PL.x_try2, PL.x_try2f, PL.x_try1, PL.x_try1r, PL.x_try1n, PL.x_tryR, PL.x_exu1, PL.x_exb1, PL.x_exc1, PL.x_exc2, PL.x_exm1, PL.x_exSB, PL.x_exr1, PL.x_exe1, PL.x_exi1, PL.x_exRT, PL.x_OL2, PL.x_l2b, PL.x_l2a, PL.x_lc2O, PL.l_enumT, PL.l_enumL, List.getElem?_cons_zero, List.getElem?_cons_succ, List.set_cons_zero, List.set_cons_succ, List.length_cons, List.length_nil, List.map_cons, List.map_nil, List.replicate_succ, List.replicate_zero, List.cons_append, List.nil_append, Nat.zero_add, Nat.add_zero, Nat.reduceAdd, Nat.reduceSub, Nat.reduceMul, Nat.reduceLT, Nat.reduceEqDiff, Bool.not_true, Bool.not_false, Bool.true_and, Bool.false_and, Bool.and_true, Bool.and_false, Bool.true_or, Bool.false_or, Bool.or_true, Bool.or_false, List.all_cons, List.all_nil, PL.nl_len, List.length_map, List.length_range, isiT, tyD, Option.map_some, Option.map_none, ne_eq, not_false_eq_true, not_true_eq_false, decide_true, decide_false, eq_self, implies_true, gt_iff_lt, ge_iff_le, m__law_begun, b__law_begun, l_slS, cut_n0, cut_0n, hcat]
  rw [lc_any (F := Dt.int) (fun i => decide (((1000000000000000000 : Nat) : Int) ≤ i)) Dt.int]
  rotate_left
  · intro i _
    exact ⟨_, rfl, by simp -implicitDefEqProofs (disch := (first | omega | assumption)) only [PL.x_Rof, PL.x_cst, PL.x_var, PL.x_var1f, PL.x_var1l, PL.x_var1d, PL.x_pk, PL.x_pk1f, PL.x_pk1l, PL.x_pk1d, PL.x_pk1i, PL.x_pkF, PL.x_un1, PL.x_un, PL.x_truF, PL.x_bOf, PL.x_tstF, PL.x_notT, PL.x_bin1, PL.x_bin, PL.x_bp3, PL.x_bp2, PL.x_bp1, PL.x_binP, PL.x_andT, PL.x_orT, PL.x_and1t, PL.x_and1f, PL.x_or1t, PL.x_or1f, PL.x_andV, PL.x_orV, PL.x_andV1t, PL.x_andV1f, PL.x_orV1t, PL.x_orV1f, PL.x_ifE, PL.x_ifE1t, PL.x_ifE1f, PL.x_chainD, PL.x_ch1, PL.x_ch2, PL.x_ch3t, PL.x_ch3f, PL.x_nilA, PL.x_consA, PL.x_cons1, PL.x_cons2, PL.x_few, PL.x_mk1, PL.x_tupD, PL.x_lstD, PL.x_lstO, PL.x_dctO0, PL.x_frO, PL.x_cb, PL.x_noP, PL.x_iOf, PL.x_someP, PL.x_sl31, PL.x_sl32, PL.x_sl3, PL.x_slK1, PL.x_slK, PL.x_frF, PL.x_frS1, PL.x_frS2, PL.x_frS3, PL.x_cal1, PL.x_callF, PL.x_callO, PL.x_FMof, PL.x_cm1, PL.x_cm2, PL.x_cm3, PL.x_callM, PL.x_FMO, PL.x_cmo1, PL.x_cmo2, PL.x_callMO, PL.x_frzR, PL.x_itF, PL.x_rngF, PL.x_OLof, PL.x_lc2, PL.x_lc1, PL.x_lcO, PL.x_cat1, PL.x_catO, PL.x_cp1, PL.x_cp2, PL.x_cp3, PL.x_catPO, PL.x_SBn, PL.x_SBr, PL.x_skipS, PL.x_badS, PL.x_seqS, PL.x_nxO, PL.x_set1, PL.x_setS, PL.x_setO1f, PL.x_setO1l, PL.x_setO1d, PL.x_setOS, PL.x_ret1, PL.x_retO1, PL.x_exp1, PL.x_retS, PL.x_retOS, PL.x_exprS, PL.x_ifS, PL.x_if1t, PL.x_if1f, PL.x_asg1, PL.x_asgS, PL.x_argsP0, PL.x_ap1f, PL.x_ap1l, PL.x_ap1d, PL.x_ap2, PL.x_argsP, PL.x_par1, PL.x_parP, PL.x_putP0, PL.x_pp1, PL.x_putP, PL.x_app1, PL.x_app2, PL.x_nxB, PL.x_app3, PL.x_appS, PL.x_dp1, PL.x_dp2, PL.x_dp3, PL.x_dp4, PL.x_dputS, PL.x_keyI, PL.x_keyS, PL.x_up1, PL.x_up2, PL.x_up3, PL.x_updS, PL.x_for1, PL.x_forS, PL.x_RTr, PL.x_RTn, PL.x_rf1, PL.x_runF, PL.x_RMr, PL.x_RMn, PL.x_MIo, PL.x_ioOf, PL.x_rm1, PL.x_runM, PL.x_putR, PL.x_putR0f, PL.x_putR0l, PL.x_putR0d, PL.x_putR0n, PL.x_noIof, PL.x_noIol, PL.x_noIod, PL.x_noIon, PL.x_tgN, PL.x_tgT, PL.x_putAll0, PL.x_pa1, PL.x_putAll, PL.x_dAt, PL.x_dSlo, PL.x_dSli, PL.x_dPut, PL.x_dPuo, PL.x_dPui, PL.x_lAt, PL.x_lSl, PL.x_envOf, PL.x_envM, PL.x_toDl, PL.x_toDd, PL.x_toDf, PL.x_nof, PL.x_nol, PL.x_nod, PL.x_okW, PL.x_wipe0, PL.x_wipe, PL.x_yesT, PL.n_add, PL.n_mul, PL.n_mod, PL.n_div, PL.n_sub, PL.n_lt, PL.n_le, PL.n_eq, PL.d_t, PL.d_f, PL.y_add, PL.y_sub, PL.y_mod, PL.y_div, PL.y_mulL, PL.y_mulR, PL.y_lt, PL.y_le, PL.y_gt, PL.y_ge, PL.y_cmp, PL.y_eq, PL.y_ne, PL.y_int, PL.y_notD, PL.y_truB, PL.y_neg, PL.y_isi_n, PL.y_isi_b, PL.y_isi_i, PL.y_isi_s, PL.y_isi_l, PL.y_isi_t, PL.y_isi_d, PL.y_isi_c, PL.l_len, PL.l_lenT, PL.l_it, PL.l_itT, PL.l_tuple, PL.l_list, PL.l_listL, PL.l_ix, PL.l_ixT, PL.l_sum, PL.l_eq, PL.l_ne, PL.l_eq0, PL.l_ne0, PL.l_eqT, PL.l_in, PL.l_nin, PL.l_cat, PL.l_catT, PL.l_stp, PL.l_rng1, PL.l_rng2, PL.x_fb, PL.x_fb1, PL.l_eq00, PL.l_ne00, PL.l_eq01, PL.l_ne01, PL.l_lenS, PL.x_ODof, PL.x_dc2, PL.x_dc1, PL.x_dcO, PL.l_nin_tk, PL.l_in_tk, PL.l_min, PL.l_slT, PL.l_slL, PL.l_rng3, PL.x_rgl2, PL.x_rgl1, PL.x_rgList, PL.x_rgTup, PL.x_gp3, PL.x_gp2, PL.x_gp1, PL.x_getP, PL.x_mt2, PL.x_mt1, PL.x_meth1, PL.l_isL, PL.x_XRo, PL.x_XRe, PL.x_calX, PL.x_calXe, PL.x_callX, PL.x_rai1, PL.x_rai, PL.x_try3, PL.x_try2, PL.x_try2f, PL.x_try1, PL.x_try1r, PL.x_try1n, PL.x_tryR, PL.x_exu1, PL.x_exb1, PL.x_exc1, PL.x_exc2, PL.x_exm1, PL.x_exSB, PL.x_exr1, PL.x_exe1, PL.x_exi1, PL.x_exRT, PL.x_OL2, PL.x_l2b, PL.x_l2a, PL.x_lc2O, PL.l_enumT, PL.l_enumL, List.getElem?_cons_zero, List.getElem?_cons_succ, List.set_cons_zero, List.set_cons_succ, List.length_cons, List.length_nil, List.map_cons, List.map_nil, List.replicate_succ, List.replicate_zero, List.cons_append, List.nil_append, Nat.zero_add, Nat.add_zero, Nat.reduceAdd, Nat.reduceSub, Nat.reduceMul, Nat.reduceLT, Nat.reduceEqDiff, Bool.not_true, Bool.not_false, Bool.true_and, Bool.false_and, Bool.and_true, Bool.and_false, Bool.true_or, Bool.false_or, Bool.or_true, Bool.or_false, List.all_cons, List.all_nil, PL.nl_len, List.length_map, List.length_range, isiT, tyD, Option.map_some, Option.map_none, ne_eq, not_false_eq_true, not_true_eq_false, decide_true, decide_false, eq_self, implies_true, gt_iff_lt, ge_iff_le, hq], fun _ => by simp -implicitDefEqProofs (disch := (first | omega | assumption)) only [PL.x_Rof, PL.x_cst, PL.x_var, PL.x_var1f, PL.x_var1l, PL.x_var1d, PL.x_pk, PL.x_pk1f, PL.x_pk1l, PL.x_pk1d, PL.x_pk1i, PL.x_pkF, PL.x_un1, PL.x_un, PL.x_truF, PL.x_bOf, PL.x_tstF, PL.x_notT, PL.x_bin1, PL.x_bin, PL.x_bp3, PL.x_bp2, PL.x_bp1, PL.x_binP, PL.x_andT, PL.x_orT, PL.x_and1t, PL.x_and1f, PL.x_or1t, PL.x_or1f, PL.x_andV, PL.x_orV, PL.x_andV1t, PL.x_andV1f, PL.x_orV1t, PL.x_orV1f, PL.x_ifE, PL.x_ifE1t, PL.x_ifE1f, PL.x_chainD, PL.x_ch1, PL.x_ch2, PL.x_ch3t, PL.x_ch3f, PL.x_nilA, PL.x_consA, PL.x_cons1, PL.x_cons2, PL.x_few, PL.x_mk1, PL.x_tupD, PL.x_lstD, PL.x_lstO, PL.x_dctO0, PL.x_frO, PL.x_cb, PL.x_noP, PL.x_iOf, PL.x_someP, PL.x_sl31, PL.x_sl32, PL.x_sl3, PL.x_slK1, PL.x_slK, PL.x_frF, PL.x_frS1, PL.x_frS2, PL.x_frS3, PL.x_cal1, PL.x_callF, PL.x_callO, PL.x_FMof, PL.x_cm1, PL.x_cm2, PL.x_cm3, PL.x_callM, PL.x_FMO, PL.x_cmo1, PL.x_cmo2, PL.x_callMO, PL.x_frzR, PL.x_itF, PL.x_rngF, PL.x_OLof, PL.x_lc2, PL.x_lc1, PL.x_lcO, PL.x_cat1, PL.x_catO, PL.x_cp1, PL.x_cp2, PL.x_cp3, PL.x_catPO, PL.x_SBn, PL.x_SBr, PL.x_skipS, PL.x_badS, PL.x_seqS, PL.x_nxO, PL.x_set1, PL.x_setS, PL.x_setO1f, PL.x_setO1l, PL.x_setO1d, PL.x_setOS, PL.x_ret1, PL.x_retO1, PL.x_exp1, PL.x_retS, PL.x_retOS, PL.x_exprS, PL.x_ifS, PL.x_if1t, PL.x_if1f, PL.x_asg1, PL.x_asgS, PL.x_argsP0, PL.x_ap1f, PL.x_ap1l, PL.x_ap1d, PL.x_ap2, PL.x_argsP, PL.x_par1, PL.x_parP, PL.x_putP0, PL.x_pp1, PL.x_putP, PL.x_app1, PL.x_app2, PL.x_nxB, PL.x_app3, PL.x_appS, PL.x_dp1, PL.x_dp2, PL.x_dp3, PL.x_dp4, PL.x_dputS, PL.x_keyI, PL.x_keyS, PL.x_up1, PL.x_up2, PL.x_up3, PL.x_updS, PL.x_for1, PL.x_forS, PL.x_RTr, PL.x_RTn, PL.x_rf1, PL.x_runF, PL.x_RMr, PL.x_RMn, PL.x_MIo, PL.x_ioOf, PL.x_rm1, PL.x_runM, PL.x_putR, PL.x_putR0f, PL.x_putR0l, PL.x_putR0d, PL.x_putR0n, PL.x_noIof, PL.x_noIol, PL.x_noIod, PL.x_noIon, PL.x_tgN, PL.x_tgT, PL.x_putAll0, PL.x_pa1, PL.x_putAll, PL.x_dAt, PL.x_dSlo, PL.x_dSli, PL.x_dPut, PL.x_dPuo, PL.x_dPui, PL.x_lAt, PL.x_lSl, PL.x_envOf, PL.x_envM, PL.x_toDl, PL.x_toDd, PL.x_toDf, PL.x_nof, PL.x_nol, PL.x_nod, PL.x_okW, PL.x_wipe0, PL.x_wipe, PL.x_yesT, PL.n_add, PL.n_mul, PL.n_mod, PL.n_div, PL.n_sub, PL.n_lt, PL.n_le, PL.n_eq, PL.d_t, PL.d_f, PL.y_add, PL.y_sub, PL.y_mod, PL.y_div, PL.y_mulL, PL.y_mulR, PL.y_lt, PL.y_le, PL.y_gt, PL.y_ge, PL.y_cmp, PL.y_eq, PL.y_ne, PL.y_int, PL.y_notD, PL.y_truB, PL.y_neg, PL.y_isi_n, PL.y_isi_b, PL.y_isi_i, PL.y_isi_s, PL.y_isi_l, PL.y_isi_t, PL.y_isi_d, PL.y_isi_c, PL.l_len, PL.l_lenT, PL.l_it, PL.l_itT, PL.l_tuple, PL.l_list, PL.l_listL, PL.l_ix, PL.l_ixT, PL.l_sum, PL.l_eq, PL.l_ne, PL.l_eq0, PL.l_ne0, PL.l_eqT, PL.l_in, PL.l_nin, PL.l_cat, PL.l_catT, PL.l_stp, PL.l_rng1, PL.l_rng2, PL.x_fb, PL.x_fb1, PL.l_eq00, PL.l_ne00, PL.l_eq01, PL.l_ne01, PL.l_lenS, PL.x_ODof, PL.x_dc2, PL.x_dc1, PL.x_dcO, PL.l_nin_tk, PL.l_in_tk, PL.l_min, PL.l_slT, PL.l_slL, PL.l_rng3, PL.x_rgl2, PL.x_rgl1, PL.x_rgList, PL.x_rgTup, PL.x_gp3, PL.x_gp2, PL.x_gp1, PL.x_getP, PL.x_mt2, PL.x_mt1, PL.x_meth1, PL.l_isL, PL.x_XRo, PL.x_XRe, PL.x_calX, PL.x_calXe, PL.x_callX, PL.x_rai1, PL.x_rai, PL.x_try3, PL.x_try2, PL.x_try2f, PL.x_try1, PL.x_try1r, PL.x_try1n, PL.x_tryR, PL.x_exu1, PL.x_exb1, PL.x_exc1, PL.x_exc2, PL.x_exm1, PL.x_exSB, PL.x_exr1, PL.x_exe1, PL.x_exi1, PL.x_exRT, PL.x_OL2, PL.x_l2b, PL.x_l2a, PL.x_lc2O, PL.l_enumT, PL.l_enumL, List.getElem?_cons_zero, List.getElem?_cons_succ, List.set_cons_zero, List.set_cons_succ, List.length_cons, List.length_nil, List.map_cons, List.map_nil, List.replicate_succ, List.replicate_zero, List.cons_append, List.nil_append, Nat.zero_add, Nat.add_zero, Nat.reduceAdd, Nat.reduceSub, Nat.reduceMul, Nat.reduceLT, Nat.reduceEqDiff, Bool.not_true, Bool.not_false, Bool.true_and, Bool.false_and, Bool.and_true, Bool.and_false, Bool.true_or, Bool.false_or, Bool.or_true, Bool.or_false, List.all_cons, List.all_nil, PL.nl_len, List.length_map, List.length_range, isiT, tyD, Option.map_some, Option.map_none, ne_eq, not_false_eq_true, not_true_eq_false, decide_true, decide_false, eq_self, implies_true, gt_iff_lt, ge_iff_le], rfl⟩
  rw [← hgs]
  simp -implicitDefEqProofs (disch := (first | omega | assumption)) only [PL.x_Rof, PL.x_cst, PL.x_var, PL.x_var1f, PL.x_var1l, PL.x_var1d, PL.x_pk, PL.x_pk1f, PL.x_pk1l, PL.x_pk1d, PL.x_pk1i, PL.x_pkF, PL.x_un1, PL.x_un, PL.x_truF, PL.x_bOf, PL.x_tstF, PL.x_notT, PL.x_bin1, PL.x_bin, PL.x_bp3, PL.x_bp2, PL.x_bp1, PL.x_binP, PL.x_andT, PL.x_orT, PL.x_and1t, PL.x_and1f, PL.x_or1t, PL.x_or1f, PL.x_andV, PL.x_orV, PL.x_andV1t, PL.x_andV1f, PL.x_orV1t, PL.x_orV1f, PL.x_ifE, PL.x_ifE1t, PL.x_ifE1f, PL.x_chainD, PL.x_ch1, PL.x_ch2, PL.x_ch3t, PL.x_ch3f, PL.x_nilA, PL.x_consA, PL.x_cons1, PL.x_cons2, PL.x_few, PL.x_mk1, PL.x_tupD, PL.x_lstD, PL.x_lstO, PL.x_dctO0, PL.x_frO, PL.x_cb, PL.x_noP, PL.x_iOf, PL.x_someP, PL.x_sl31, PL.x_sl32, PL.x_sl3, PL.x_slK1, PL.x_slK, PL.x_frF, PL.x_frS1, PL.x_frS2, PL.x_frS3, PL.x_cal1, PL.x_callF, PL.x_callO, PL.x_FMof, PL.x_cm1, PL.x_cm2, PL.x_cm3, PL.x_callM, PL.x_FMO, PL.x_cmo1, PL.x_cmo2, PL.x_callMO, PL.x_frzR, PL.x_itF, PL.x_rngF, PL.x_OLof, PL.x_lc2, PL.x_lc1, PL.x_lcO, PL.x_cat1, PL.x_catO, PL.x_cp1, PL.x_cp2, PL.x_cp3, PL.x_catPO, PL.x_SBn, PL.x_SBr, PL.x_skipS, PL.x_badS, PL.x_seqS, PL.x_nxO, PL.x_set1, PL.x_setS, PL.x_setO1f, PL.x_setO1l, PL.x_setO1d, PL.x_setOS, PL.x_ret1, PL.x_retO1, PL.x_exp1, PL.x_retS, PL.x_retOS, PL.x_exprS, PL.x_ifS, PL.x_if1t, PL.x_if1f, PL.x_asg1, PL.x_asgS, PL.x_argsP0, PL.x_ap1f, PL.x_ap1l, PL.x_ap1d, PL.x_ap2, PL.x_argsP, PL.x_par1, PL.x_parP, PL.x_putP0, PL.x_pp1, PL.x_putP, PL.x_app1, PL.x_app2, PL.x_nxB, PL.x_app3, PL.x_appS, PL.x_dp1, PL.x_dp2, PL.x_dp3, PL.x_dp4, PL.x_dputS, PL.x_keyI, PL.x_keyS, PL.x_up1, PL.x_up2, PL.x_up3, PL.x_updS, PL.x_for1, PL.x_forS, PL.x_RTr, PL.x_RTn, PL.x_rf1, PL.x_runF, PL.x_RMr, PL.x_RMn, PL.x_MIo, PL.x_ioOf, PL.x_rm1, PL.x_runM, PL.x_putR, PL.x_putR0f, PL.x_putR0l, PL.x_putR0d, PL.x_putR0n, PL.x_noIof, PL.x_noIol, PL.x_noIod, PL.x_noIon, PL.x_tgN, PL.x_tgT, PL.x_putAll0, PL.x_pa1, PL.x_putAll, PL.x_dAt, PL.x_dSlo, PL.x_dSli, PL.x_dPut, PL.x_dPuo, PL.x_dPui, PL.x_lAt, PL.x_lSl, PL.x_envOf, PL.x_envM, PL.x_toDl, PL.x_toDd, PL.x_toDf, PL.x_nof, PL.x_nol, PL.x_nod, PL.x_okW, PL.x_wipe0, PL.x_wipe, PL.x_yesT, PL.n_add, PL.n_mul, PL.n_mod, PL.n_div, PL.n_sub, PL.n_lt, PL.n_le, PL.n_eq, PL.d_t, PL.d_f, PL.y_add, PL.y_sub, PL.y_mod, PL.y_div, PL.y_mulL, PL.y_mulR, PL.y_lt, PL.y_le, PL.y_gt, PL.y_ge, PL.y_cmp, PL.y_eq, PL.y_ne, PL.y_int, PL.y_notD, PL.y_truB, PL.y_neg, PL.y_isi_n, PL.y_isi_b, PL.y_isi_i, PL.y_isi_s, PL.y_isi_l, PL.y_isi_t, PL.y_isi_d, PL.y_isi_c, PL.l_len, PL.l_lenT, PL.l_it, PL.l_itT, PL.l_tuple, PL.l_list, PL.l_listL, PL.l_ix, PL.l_ixT, PL.l_sum, PL.l_eq, PL.l_ne, PL.l_eq0, PL.l_ne0, PL.l_eqT, PL.l_in, PL.l_nin, PL.l_cat, PL.l_catT, PL.l_stp, PL.l_rng1, PL.l_rng2, PL.x_fb, PL.x_fb1, PL.l_eq00, PL.l_ne00, PL.l_eq01, PL.l_ne01, PL.l_lenS, PL.x_ODof, PL.x_dc2, PL.x_dc1, PL.x_dcO, PL.l_nin_tk, PL.l_in_tk, PL.l_min, PL.l_slT, PL.l_slL, PL.l_rng3, PL.x_rgl2, PL.x_rgl1, PL.x_rgList, PL.x_rgTup, PL.x_gp3, PL.x_gp2, PL.x_gp1, PL.x_getP, PL.x_mt2, PL.x_mt1, PL.x_meth1, PL.l_isL, PL.x_XRo, PL.x_XRe, PL.x_calX, PL.x_calXe, PL.x_callX, PL.x_rai1, PL.x_rai, PL.x_try3, PL.x_try2, PL.x_try2f, PL.x_try1, PL.x_try1r, PL.x_try1n, PL.x_tryR, PL.x_exu1, PL.x_exb1, PL.x_exc1, PL.x_exc2, PL.x_exm1, PL.x_exSB, PL.x_exr1, PL.x_exe1, PL.x_exi1, PL.x_exRT, PL.x_OL2, PL.x_l2b, PL.x_l2a, PL.x_lc2O, PL.l_enumT, PL.l_enumL, List.getElem?_cons_zero, List.getElem?_cons_succ, List.set_cons_zero, List.set_cons_succ, List.length_cons, List.length_nil, List.map_cons, List.map_nil, List.replicate_succ, List.replicate_zero, List.cons_append, List.nil_append, Nat.zero_add, Nat.add_zero, Nat.reduceAdd, Nat.reduceSub, Nat.reduceMul, Nat.reduceLT, Nat.reduceEqDiff, Bool.not_true, Bool.not_false, Bool.true_and, Bool.false_and, Bool.and_true, Bool.and_false, Bool.true_or, Bool.false_or, Bool.or_true, Bool.or_false, List.all_cons, List.all_nil, PL.nl_len, List.length_map, List.length_range, isiT, tyD, Option.map_some, Option.map_none, ne_eq, not_false_eq_true, not_true_eq_false, decide_true, decide_false, eq_self, implies_true, gt_iff_lt, ge_iff_le]
  rw [h1]
  simp -implicitDefEqProofs (disch := (first | omega | assumption)) only [PL.x_Rof, PL.x_cst, PL.x_var, PL.x_var1f, PL.x_var1l, PL.x_var1d, PL.x_pk, PL.x_pk1f, PL.x_pk1l, PL.x_pk1d, PL.x_pk1i, PL.x_pkF, PL.x_un1, PL.x_un, PL.x_truF, PL.x_bOf, PL.x_tstF, PL.x_notT, PL.x_bin1, PL.x_bin, PL.x_bp3, PL.x_bp2, PL.x_bp1, PL.x_binP, PL.x_andT, PL.x_orT, PL.x_and1t, PL.x_and1f, PL.x_or1t, PL.x_or1f, PL.x_andV, PL.x_orV, PL.x_andV1t, PL.x_andV1f, PL.x_orV1t, PL.x_orV1f, PL.x_ifE, PL.x_ifE1t, PL.x_ifE1f, PL.x_chainD, PL.x_ch1, PL.x_ch2, PL.x_ch3t, PL.x_ch3f, PL.x_nilA, PL.x_consA, PL.x_cons1, PL.x_cons2, PL.x_few, PL.x_mk1, PL.x_tupD, PL.x_lstD, PL.x_lstO, PL.x_dctO0, PL.x_frO, PL.x_cb, PL.x_noP, PL.x_iOf, PL.x_someP, PL.x_sl31, PL.x_sl32, PL.x_sl3, PL.x_slK1, PL.x_slK, PL.x_frF, PL.x_frS1, PL.x_frS2, PL.x_frS3, PL.x_cal1, PL.x_callF, PL.x_callO, PL.x_FMof, PL.x_cm1, PL.x_cm2, PL.x_cm3, PL.x_callM, PL.x_FMO, PL.x_cmo1, PL.x_cmo2, PL.x_callMO, PL.x_frzR, PL.x_itF, PL.x_rngF, PL.x_OLof, PL.x_lc2, PL.x_lc1, PL.x_lcO, PL.x_cat1, PL.x_catO, PL.x_cp1, PL.x_cp2, PL.x_cp3, PL.x_catPO, PL.x_SBn, PL.x_SBr, PL.x_skipS, PL.x_badS, PL.x_seqS, PL.x_nxO, PL.x_set1, PL.x_setS, PL.x_setO1f, PL.x_setO1l, PL.x_setO1d, PL.x_setOS, PL.x_ret1, PL.x_retO1, PL.x_exp1, PL.x_retS, PL.x_retOS, PL.x_exprS, PL.x_ifS, PL.x_if1t, PL.x_if1f, PL.x_asg1, PL.x_asgS, PL.x_argsP0, PL.x_ap1f, PL.x_ap1l, PL.x_ap1d, PL.x_ap2, PL.x_argsP, PL.x_par1, PL.x_parP, PL.x_putP0, PL.x_pp1, PL.x_putP, PL.x_app1, PL.x_app2, PL.x_nxB, PL.x_app3, PL.x_appS, PL.x_dp1, PL.x_dp2, PL.x_dp3, PL.x_dp4, PL.x_dputS, PL.x_keyI, PL.x_keyS, PL.x_up1, PL.x_up2, PL.x_up3, PL.x_updS, PL.x_for1, PL.x_forS, PL.x_RTr, PL.x_RTn, PL.x_rf1, PL.x_runF, PL.x_RMr, PL.x_RMn, PL.x_MIo, PL.x_ioOf, PL.x_rm1, PL.x_runM, PL.x_putR, PL.x_putR0f, PL.x_putR0l, PL.x_putR0d, PL.x_putR0n, PL.x_noIof, PL.x_noIol, PL.x_noIod, PL.x_noIon, PL.x_tgN, PL.x_tgT, PL.x_putAll0, PL.x_pa1, PL.x_putAll, PL.x_dAt, PL.x_dSlo, PL.x_dSli, PL.x_dPut, PL.x_dPuo, PL.x_dPui, PL.x_lAt, PL.x_lSl, PL.x_envOf, PL.x_envM, PL.x_toDl, PL.x_toDd, PL.x_toDf, PL.x_nof, PL.x_nol, PL.x_nod, PL.x_okW, PL.x_wipe0, PL.x_wipe, PL.x_yesT, PL.n_add, PL.n_mul, PL.n_mod, PL.n_div, PL.n_sub, PL.n_lt, PL.n_le, PL.n_eq, PL.d_t, PL.d_f, PL.y_add, PL.y_sub, PL.y_mod, PL.y_div, PL.y_mulL, PL.y_mulR, PL.y_lt, PL.y_le, PL.y_gt, PL.y_ge, PL.y_cmp, PL.y_eq, PL.y_ne, PL.y_int, PL.y_notD, PL.y_truB, PL.y_neg, PL.y_isi_n, PL.y_isi_b, PL.y_isi_i, PL.y_isi_s, PL.y_isi_l, PL.y_isi_t, PL.y_isi_d, PL.y_isi_c, PL.l_len, PL.l_lenT, PL.l_it, PL.l_itT, PL.l_tuple, PL.l_list, PL.l_listL, PL.l_ix, PL.l_ixT, PL.l_sum, PL.l_eq, PL.l_ne, PL.l_eq0, PL.l_ne0, PL.l_eqT, PL.l_in, PL.l_nin, PL.l_cat, PL.l_catT, PL.l_stp, PL.l_rng1, PL.l_rng2, PL.x_fb, PL.x_fb1, PL.l_eq00, PL.l_ne00, PL.l_eq01, PL.l_ne01, PL.l_lenS, PL.x_ODof, PL.x_dc2, PL.x_dc1, PL.x_dcO, PL.l_nin_tk, PL.l_in_tk, PL.l_min, PL.l_slT, PL.l_slL, PL.l_rng3, PL.x_rgl2, PL.x_rgl1, PL.x_rgList, PL.x_rgTup, PL.x_gp3, PL.x_gp2, PL.x_gp1, PL.x_getP, PL.x_mt2, PL.x_mt1, PL.x_meth1, PL.l_isL, PL.x_XRo, PL.x_XRe, PL.x_calX, PL.x_calXe, PL.x_callX, PL.x_rai1, PL.x_rai, PL.x_try3, PL.x_try2, PL.x_try2f, PL.x_try1, PL.x_try1r, PL.x_try1n, PL.x_tryR, PL.x_exu1, PL.x_exb1, PL.x_exc1, PL.x_exc2, PL.x_exm1, PL.x_exSB, PL.x_exr1, PL.x_exe1, PL.x_exi1, PL.x_exRT, PL.x_OL2, PL.x_l2b, PL.x_l2a, PL.x_lc2O, PL.l_enumT, PL.l_enumL, List.getElem?_cons_zero, List.getElem?_cons_succ, List.set_cons_zero, List.set_cons_succ, List.length_cons, List.length_nil, List.map_cons, List.map_nil, List.replicate_succ, List.replicate_zero, List.cons_append, List.nil_append, Nat.zero_add, Nat.add_zero, Nat.reduceAdd, Nat.reduceSub, Nat.reduceMul, Nat.reduceLT, Nat.reduceEqDiff, Bool.not_true, Bool.not_false, Bool.true_and, Bool.false_and, Bool.and_true, Bool.and_false, Bool.true_or, Bool.false_or, Bool.or_true, Bool.or_false, List.all_cons, List.all_nil, PL.nl_len, List.length_map, List.length_range, isiT, tyD, Option.map_some, Option.map_none, ne_eq, not_false_eq_true, not_true_eq_false, decide_true, decide_false, eq_self, implies_true, gt_iff_lt, ge_iff_le]
  rw [hdisp _ rfl]
  simp -implicitDefEqProofs (disch := (first | omega | assumption)) only [PL.x_Rof, PL.x_cst, PL.x_var, PL.x_var1f, PL.x_var1l, PL.x_var1d, PL.x_pk, PL.x_pk1f, PL.x_pk1l, PL.x_pk1d, PL.x_pk1i, PL.x_pkF, PL.x_un1, PL.x_un, PL.x_truF, PL.x_bOf, PL.x_tstF, PL.x_notT, PL.x_bin1, PL.x_bin, PL.x_bp3, PL.x_bp2, PL.x_bp1, PL.x_binP, PL.x_andT, PL.x_orT, PL.x_and1t, PL.x_and1f, PL.x_or1t, PL.x_or1f, PL.x_andV, PL.x_orV, PL.x_andV1t, PL.x_andV1f, PL.x_orV1t, PL.x_orV1f, PL.x_ifE, PL.x_ifE1t, PL.x_ifE1f, PL.x_chainD, PL.x_ch1, PL.x_ch2, PL.x_ch3t, PL.x_ch3f, PL.x_nilA, PL.x_consA, PL.x_cons1, PL.x_cons2, PL.x_few, PL.x_mk1, PL.x_tupD, PL.x_lstD, PL.x_lstO, PL.x_dctO0, PL.x_frO, PL.x_cb, PL.x_noP, PL.x_iOf, PL.x_someP, PL.x_sl31, PL.x_sl32, PL.x_sl3, PL.x_slK1, PL.x_slK, PL.x_frF, PL.x_frS1, PL.x_frS2, PL.x_frS3, PL.x_cal1, PL.x_callF, PL.x_callO, PL.x_FMof, PL.x_cm1, PL.x_cm2, PL.x_cm3, PL.x_callM, PL.x_FMO, PL.x_cmo1, PL.x_cmo2, PL.x_callMO, PL.x_frzR, PL.x_itF, PL.x_rngF, PL.x_OLof, PL.x_lc2, PL.x_lc1, PL.x_lcO, PL.x_cat1, PL.x_catO, PL.x_cp1, PL.x_cp2, PL.x_cp3, PL.x_catPO, PL.x_SBn, PL.x_SBr, PL.x_skipS, PL.x_badS, PL.x_seqS, PL.x_nxO, PL.x_set1, PL.x_setS, PL.x_setO1f, PL.x_setO1l, PL.x_setO1d, PL.x_setOS, PL.x_ret1, PL.x_retO1, PL.x_exp1, PL.x_retS, PL.x_retOS, PL.x_exprS, PL.x_ifS, PL.x_if1t, PL.x_if1f, PL.x_asg1, PL.x_asgS, PL.x_argsP0, PL.x_ap1f, PL.x_ap1l, PL.x_ap1d, PL.x_ap2, PL.x_argsP, PL.x_par1, PL.x_parP, PL.x_putP0, PL.x_pp1, PL.x_putP, PL.x_app1, PL.x_app2, PL.x_nxB, PL.x_app3, PL.x_appS, PL.x_dp1, PL.x_dp2, PL.x_dp3, PL.x_dp4, PL.x_dputS, PL.x_keyI, PL.x_keyS, PL.x_up1, PL.x_up2, PL.x_up3, PL.x_updS, PL.x_for1, PL.x_forS, PL.x_RTr, PL.x_RTn, PL.x_rf1, PL.x_runF, PL.x_RMr, PL.x_RMn, PL.x_MIo, PL.x_ioOf, PL.x_rm1, PL.x_runM, PL.x_putR, PL.x_putR0f, PL.x_putR0l, PL.x_putR0d, PL.x_putR0n, PL.x_noIof, PL.x_noIol, PL.x_noIod, PL.x_noIon, PL.x_tgN, PL.x_tgT, PL.x_putAll0, PL.x_pa1, PL.x_putAll, PL.x_dAt, PL.x_dSlo, PL.x_dSli, PL.x_dPut, PL.x_dPuo, PL.x_dPui, PL.x_lAt, PL.x_lSl, PL.x_envOf, PL.x_envM, PL.x_toDl, PL.x_toDd, PL.x_toDf, PL.x_nof, PL.x_nol, PL.x_nod, PL.x_okW, PL.x_wipe0, PL.x_wipe, PL.x_yesT, PL.n_add, PL.n_mul, PL.n_mod, PL.n_div, PL.n_sub, PL.n_lt, PL.n_le, PL.n_eq, PL.d_t, PL.d_f, PL.y_add, PL.y_sub, PL.y_mod, PL.y_div, PL.y_mulL, PL.y_mulR, PL.y_lt, PL.y_le, PL.y_gt, PL.y_ge, PL.y_cmp, PL.y_eq, PL.y_ne, PL.y_int, PL.y_notD, PL.y_truB, PL.y_neg, PL.y_isi_n, PL.y_isi_b, PL.y_isi_i, PL.y_isi_s, PL.y_isi_l, PL.y_isi_t, PL.y_isi_d, PL.y_isi_c, PL.l_len, PL.l_lenT, PL.l_it, PL.l_itT, PL.l_tuple, PL.l_list, PL.l_listL, PL.l_ix, PL.l_ixT, PL.l_sum, PL.l_eq, PL.l_ne, PL.l_eq0, PL.l_ne0, PL.l_eqT, PL.l_in, PL.l_nin, PL.l_cat, PL.l_catT, PL.l_stp, PL.l_rng1, PL.l_rng2, PL.x_fb, PL.x_fb1, PL.l_eq00, PL.l_ne00, PL.l_eq01, PL.l_ne01, PL.l_lenS, PL.x_ODof, PL.x_dc2, PL.x_dc1, PL.x_dcO, PL.l_nin_tk, PL.l_in_tk, PL.l_min, PL.l_slT, PL.l_slL, PL.l_rng3, PL.x_rgl2, PL.x_rgl1, PL.x_rgList, PL.x_rgTup, PL.x_gp3, PL.x_gp2, PL.x_gp1, PL.x_getP, PL.x_mt2, PL.x_mt1, PL.x_meth1, PL.l_isL, PL.x_XRo, PL.x_XRe, PL.x_calX, PL.x_calXe, PL.x_callX, PL.x_rai1, PL.x_rai, PL.x_try3, PL.x_try2, PL.x_try2f, PL.x_try1, PL.x_try1r, PL.x_try1n, PL.x_tryR, PL.x_exu1, PL.x_exb1, PL.x_exc1, PL.x_exc2, PL.x_exm1, PL.x_exSB, PL.x_exr1, PL.x_exe1, PL.x_exi1, PL.x_exRT, PL.x_OL2, PL.x_l2b, PL.x_l2a, PL.x_lc2O, PL.l_enumT, PL.l_enumL, List.getElem?_cons_zero, List.getElem?_cons_succ, List.set_cons_zero, List.set_cons_succ, List.length_cons, List.length_nil, List.map_cons, List.map_nil, List.replicate_succ, List.replicate_zero, List.cons_append, List.nil_append, Nat.zero_add, Nat.add_zero, Nat.reduceAdd, Nat.reduceSub, Nat.reduceMul, Nat.reduceLT, Nat.reduceEqDiff, Bool.not_true, Bool.not_false, Bool.true_and, Bool.false_and, Bool.and_true, Bool.and_false, Bool.true_or, Bool.false_or, Bool.or_true, Bool.or_false, List.all_cons, List.all_nil, PL.nl_len, List.length_map, List.length_range, isiT, tyD, Option.map_some, Option.map_none, ne_eq, not_false_eq_true, not_true_eq_false, decide_true, decide_false, eq_self, implies_true, gt_iff_lt, ge_iff_le]
theorem laps_ok (ns : List Int) (a c : Nat) : ∃ q : Nat, q ≤ a + c ∧ a ≤ q ∧ min2D [.int (ns.length : Nat), .int (c : Nat)] = some (.int (q - a : Nat)) ∧ a + (q - a) = q := by
  refine ⟨a + min ns.length c, by omega, by omega, ?_, by omega⟩
  show some (Dt.int (if (c : Int) < (ns.length : Int) then (c : Int) else (ns.length : Int))) = _
  congr 2
  split <;> omega
/-! closed facts: what the functions return can be told -/
def gd (r : FR) : Bool := match r with
  | .ok (.fr d) => plainD d && (toPy d).showable && decide ((toPy d).depth ≤ 5) && decide (wtD d ≤ 700000)
  | _ => false
structure Gd (r : FR) (d : Dt) : Prop where
  ok : r = .ok (.fr d)
  rk : ROk d 5 700000
theorem gd_ok {r : FR} (h : gd r = true) : ∃ d, Gd r d := by
  unfold gd at h
  split at h
  · rename_i d
    simp only [Bool.and_eq_true, decide_eq_true_eq] at h
    obtain ⟨⟨⟨h1, h2⟩, h3⟩, h4⟩ := h
    exact ⟨d, rfl, h1, h2, h3, h4⟩
  · cases h
def an (r : FR) (f : Dt → FR) : Bool := match r with
  | .ok (.fr d) => gd (f d)
  | _ => false
theorem an_ok {r : FR} {f : Dt → FR} {d : Dt} (h : an r f = true) (hr : Gd r d) : ∃ e, Gd (f d) e := by
  unfold an at h
  rw [hr.ok] at h
  exact gd_ok h
def chkN (n : Nat) : Bool := gd (m_residues_with [.int (n : Nat), .int (2 : Nat)]) && (gd (m_spread [.int (n : Nat)]) && (gd (m_greatest_period [.int (n : Nat)]) && (gd (m_bases_with [.int (n : Nat), .int (2 : Nat)]) && (gd (m_sum_denominators [.int (n : Nat), .int (12 : Nat)])))))
def chkB (b : Nat) : Bool := gd (m_denominators_with [.int (b : Nat), .int (6 : Nat), .int (50 : Nat)]) && (gd (m_need_seen [.int (b : Nat), .tup [.int (1 : Nat), .non]]) && (gd (m_fits [.int (b : Nat), .tup [.int (1 : Nat), .int (7 : Nat)], .tup [.int (1 : Nat), .non]]) && (gd (m_fitting [.int (b : Nat), .tup [.int (1 : Nat), .non], .int (9 : Nat)]) && (gd (m_simplest [.int (b : Nat), .tup [.int (1 : Nat), .non], .int (9 : Nat)]) && (gd (m_sure_digits [.int (b : Nat), .tup [.non], .int (7 : Nat), .int (5 : Nat)]) && (gd (m_block_sum [.int (b : Nat), .int (2 : Nat), .int (-((3 : Nat) : Int)), .int (12345 : Nat)])))))))
def chkP (b n : Nat) : Bool := gd (m_period_paper [.int (b : Nat), .int (n : Nat)]) && (an (m_period_paper [.int (b : Nat), .int (n : Nat)]) (fun sh => m_check_period [.int (b : Nat), .int (n : Nat), sh]) && (gd (m_sum_periods [.int (b : Nat), .int (n : Nat), .int (12 : Nat)]) && (gd (m_exponents [.int (b : Nat), .int (n : Nat), .int (2 : Nat)]) && (gd (m_exponent_paper [.int (b : Nat), .int (n : Nat), .int (2 : Nat)]) && (an (m_exponent_paper [.int (b : Nat), .int (n : Nat), .int (2 : Nat)]) (fun sh => m_check_exponent [.int (b : Nat), .int (n : Nat), .int (2 : Nat), sh]))))))
def chk0 : Bool := gd (m_sum_of [.tup [.int (1 : Nat), .int (7 : Nat)], .tup [.int (2 : Nat), .int (9 : Nat)]]) && (gd (m_sum_example [.int (3 : Nat), .int (9 : Nat), .int (9 : Nat)]) && (gd (m_digit_sum [.int (10 : Nat), .tup [.int (1 : Nat), .int (7 : Nat)]]) && (gd (m_digit_counts [.int (10 : Nat), .tup [.int (1 : Nat), .int (7 : Nat)]]) && (gd (m_all_counts [.int (10 : Nat), .int (13 : Nat)]) && (gd (m_keeps_remainders [.int (10 : Nat), .int (7 : Nat), .int (1 : Nat), .int (3 : Nat)]) && (gd (m_need_facts [.tup [.tup [.str "period", .int (6 : Nat)], .tup [.str "head", .int (0 : Nat)]]]) && (gd (m_is_satisfied [.int (10 : Nat), .int (7 : Nat), .tup [.tup [.str "period", .int (6 : Nat)], .tup [.str "head", .int (0 : Nat)]]]) && (gd (m_denominators_by [.int (10 : Nat), .tup [.tup [.str "period", .int (6 : Nat)], .tup [.str "head", .int (0 : Nat)]], .int (60 : Nat)]) && (gd (m_bases_by [.int (7 : Nat), .tup [.tup [.str "period", .int (6 : Nat)], .tup [.str "head", .int (0 : Nat)]], .int (30 : Nat)]))))))))))
theorem cN_1 : chkN 1 = true := by decide +kernel
theorem cN_7 : chkN 7 = true := by decide +kernel
theorem cN_12 : chkN 12 = true := by decide +kernel
theorem cN_21 : chkN 21 = true := by decide +kernel
theorem cN_40 : chkN 40 = true := by decide +kernel
theorem cN_81 : chkN 81 = true := by decide +kernel
theorem cB_2 : chkB 2 = true := by decide +kernel
theorem cB_3 : chkB 3 = true := by decide +kernel
theorem cB_10 : chkB 10 = true := by decide +kernel
theorem cB_12 : chkB 12 = true := by decide +kernel
theorem cB_60 : chkB 60 = true := by decide +kernel
theorem cP_2_1 : chkP 2 1 = true := by decide +kernel
theorem cP_2_7 : chkP 2 7 = true := by decide +kernel
theorem cP_2_12 : chkP 2 12 = true := by decide +kernel
theorem cP_2_21 : chkP 2 21 = true := by decide +kernel
theorem cP_2_40 : chkP 2 40 = true := by decide +kernel
theorem cP_2_81 : chkP 2 81 = true := by decide +kernel
theorem cP_3_1 : chkP 3 1 = true := by decide +kernel
theorem cP_3_7 : chkP 3 7 = true := by decide +kernel
theorem cP_3_12 : chkP 3 12 = true := by decide +kernel
theorem cP_3_21 : chkP 3 21 = true := by decide +kernel
theorem cP_3_40 : chkP 3 40 = true := by decide +kernel
theorem cP_3_81 : chkP 3 81 = true := by decide +kernel
theorem cP_10_1 : chkP 10 1 = true := by decide +kernel
theorem cP_10_7 : chkP 10 7 = true := by decide +kernel
theorem cP_10_12 : chkP 10 12 = true := by decide +kernel
theorem cP_10_21 : chkP 10 21 = true := by decide +kernel
theorem cP_10_40 : chkP 10 40 = true := by decide +kernel
theorem cP_10_81 : chkP 10 81 = true := by decide +kernel
theorem cP_12_1 : chkP 12 1 = true := by decide +kernel
theorem cP_12_7 : chkP 12 7 = true := by decide +kernel
theorem cP_12_12 : chkP 12 12 = true := by decide +kernel
theorem cP_12_21 : chkP 12 21 = true := by decide +kernel
theorem cP_12_40 : chkP 12 40 = true := by decide +kernel
theorem cP_12_81 : chkP 12 81 = true := by decide +kernel
theorem cP_60_1 : chkP 60 1 = true := by decide +kernel
theorem cP_60_7 : chkP 60 7 = true := by decide +kernel
theorem cP_60_12 : chkP 60 12 = true := by decide +kernel
theorem cP_60_21 : chkP 60 21 = true := by decide +kernel
theorem cP_60_40 : chkP 60 40 = true := by decide +kernel
theorem cP_60_81 : chkP 60 81 = true := by decide +kernel
theorem c0 : chk0 = true := by decide +kernel
theorem cN {n : Nat} (h : n ∈ [1, 7, 12, 21, 40, 81]) : chkN n = true := by
  simp only [List.mem_cons, List.not_mem_nil, or_false] at h
  rcases h with rfl | rfl | rfl | rfl | rfl | rfl
  · exact cN_1
  · exact cN_7
  · exact cN_12
  · exact cN_21
  · exact cN_40
  · exact cN_81
theorem cB {b : Nat} (h : b ∈ [2, 3, 10, 12, 60]) : chkB b = true := by
  simp only [List.mem_cons, List.not_mem_nil, or_false] at h
  rcases h with rfl | rfl | rfl | rfl | rfl
  · exact cB_2
  · exact cB_3
  · exact cB_10
  · exact cB_12
  · exact cB_60
theorem cP {b n : Nat} (h : b ∈ [2, 3, 10, 12, 60]) (g : n ∈ [1, 7, 12, 21, 40, 81]) : chkP b n = true := by
  simp only [List.mem_cons, List.not_mem_nil, or_false] at h g
  rcases h with rfl | rfl | rfl | rfl | rfl <;> rcases g with rfl | rfl | rfl | rfl | rfl | rfl
  · exact cP_2_1
  · exact cP_2_7
  · exact cP_2_12
  · exact cP_2_21
  · exact cP_2_40
  · exact cP_2_81
  · exact cP_3_1
  · exact cP_3_7
  · exact cP_3_12
  · exact cP_3_21
  · exact cP_3_40
  · exact cP_3_81
  · exact cP_10_1
  · exact cP_10_7
  · exact cP_10_12
  · exact cP_10_21
  · exact cP_10_40
  · exact cP_10_81
  · exact cP_12_1
  · exact cP_12_7
  · exact cP_12_12
  · exact cP_12_21
  · exact cP_12_40
  · exact cP_12_81
  · exact cP_60_1
  · exact cP_60_7
  · exact cP_60_12
  · exact cP_60_21
  · exact cP_60_40
  · exact cP_60_81
/-! by names and by place -/
theorem eqS (S : Str) : eqD (.str S) (.str S) = some (.bl true) := by
  show some (Dt.bl (decide (S = S))) = _
  rw [decide_eq_true rfl]
theorem kl_3_2 (a0 a1 a2 c0 c1 : Dt) : catL (.lst [a0, a1, a2]) (.lst [c0, c1]) = some (.ol [a0, a1, a2, c0, c1]) := rfl
theorem kl_5_2 (a0 a1 a2 a3 a4 c0 c1 : Dt) : catL (.lst [a0, a1, a2, a3, a4]) (.lst [c0, c1]) = some (.ol [a0, a1, a2, a3, a4, c0, c1]) := rfl
theorem kl_7_2 (a0 a1 a2 a3 a4 a5 a6 c0 c1 : Dt) : catL (.lst [a0, a1, a2, a3, a4, a5, a6]) (.lst [c0, c1]) = some (.ol [a0, a1, a2, a3, a4, a5, a6, c0, c1]) := rfl
theorem kl_10_2 (a0 a1 a2 a3 a4 a5 a6 a7 a8 a9 c0 c1 : Dt) : catL (.lst [a0, a1, a2, a3, a4, a5, a6, a7, a8, a9]) (.lst [c0, c1]) = some (.ol [a0, a1, a2, a3, a4, a5, a6, a7, a8, a9, c0, c1]) := rfl
theorem kl_12_2 (a0 a1 a2 a3 a4 a5 a6 a7 a8 a9 a10 a11 c0 c1 : Dt) : catL (.lst [a0, a1, a2, a3, a4, a5, a6, a7, a8, a9, a10, a11]) (.lst [c0, c1]) = some (.ol [a0, a1, a2, a3, a4, a5, a6, a7, a8, a9, a10, a11, c0, c1]) := rfl
theorem kl_5_4 (a0 a1 a2 a3 a4 c0 c1 c2 c3 : Dt) : catL (.lst [a0, a1, a2, a3, a4]) (.lst [c0, c1, c2, c3]) = some (.ol [a0, a1, a2, a3, a4, c0, c1, c2, c3]) := rfl
theorem kl_9_4 (a0 a1 a2 a3 a4 a5 a6 a7 a8 c0 c1 c2 c3 : Dt) : catL (.lst [a0, a1, a2, a3, a4, a5, a6, a7, a8]) (.lst [c0, c1, c2, c3]) = some (.ol [a0, a1, a2, a3, a4, a5, a6, a7, a8, c0, c1, c2, c3]) := rfl
theorem kl_2_2 (a0 a1 c0 c1 : Dt) : catL (.lst [a0, a1]) (.lst [c0, c1]) = some (.ol [a0, a1, c0, c1]) := rfl
theorem kl_9_2 (a0 a1 a2 a3 a4 a5 a6 a7 a8 c0 c1 : Dt) : catL (.lst [a0, a1, a2, a3, a4, a5, a6, a7, a8]) (.lst [c0, c1]) = some (.ol [a0, a1, a2, a3, a4, a5, a6, a7, a8, c0, c1]) := rfl
theorem kl_4_3 (a0 a1 a2 a3 c0 c1 c2 : Dt) : catL (.lst [a0, a1, a2, a3]) (.lst [c0, c1, c2]) = some (.ol [a0, a1, a2, a3, c0, c1, c2]) := rfl
theorem kl_7_3 (a0 a1 a2 a3 a4 a5 a6 c0 c1 c2 : Dt) : catL (.lst [a0, a1, a2, a3, a4, a5, a6]) (.lst [c0, c1, c2]) = some (.ol [a0, a1, a2, a3, a4, a5, a6, c0, c1, c2]) := rfl
theorem kl_10_3 (a0 a1 a2 a3 a4 a5 a6 a7 a8 a9 c0 c1 c2 : Dt) : catL (.lst [a0, a1, a2, a3, a4, a5, a6, a7, a8, a9]) (.lst [c0, c1, c2]) = some (.ol [a0, a1, a2, a3, a4, a5, a6, a7, a8, a9, c0, c1, c2]) := rfl
theorem periods_right {b n : Nat} (hb : b ∈ [2, 3, 10, 12, 60]) (hn : n ∈ [1, 7, 12, 21, 40, 81]) : m__law_periods_right [.int b, .int n] = .ok (.fr (.bl true)) := by
  have qN := cN hn
  unfold chkN at qN
  simp only [Bool.and_eq_true] at qN
  obtain ⟨q_residues_with, q_spread, q_greatest_period, q_bases_with, q_sum_denominators⟩ := qN
  have qB := cB hb
  unfold chkB at qB
  simp only [Bool.and_eq_true] at qB
  obtain ⟨q_denominators_with, q_need_seen, q_fits, q_fitting, q_simplest, q_sure_digits, q_block_sum⟩ := qB
  have qP := cP hb hn
  unfold chkP at qP
  simp only [Bool.and_eq_true] at qP
  obtain ⟨q_period_paper, q_check_period, q_sum_periods, q_exponents, q_exponent_paper, q_check_exponent⟩ := qP
  have q0 := c0
  unfold chk0 at q0
  simp only [Bool.and_eq_true] at q0
  obtain ⟨q_sum_of, q_sum_example, q_digit_sum, q_digit_counts, q_all_counts, q_keeps_remainders, q_need_facts, q_is_satisfied, q_denominators_by, q_bases_by⟩ := q0
  obtain ⟨d_residues_with, g_residues_with⟩ := gd_ok q_residues_with
  obtain ⟨d_spread, g_spread⟩ := gd_ok q_spread
  obtain ⟨d_greatest_period, g_greatest_period⟩ := gd_ok q_greatest_period
  obtain ⟨d_bases_with, g_bases_with⟩ := gd_ok q_bases_with
  obtain ⟨d_denominators_with, g_denominators_with⟩ := gd_ok q_denominators_with
  obtain ⟨d_period_paper, g_period_paper⟩ := gd_ok q_period_paper
  obtain ⟨d_check_period, g_check_period⟩ := an_ok q_check_period g_period_paper
  obtain ⟨d_sum_of, g_sum_of⟩ := gd_ok q_sum_of
  obtain ⟨d_sum_denominators, g_sum_denominators⟩ := gd_ok q_sum_denominators
  obtain ⟨d_sum_periods, g_sum_periods⟩ := gd_ok q_sum_periods
  obtain ⟨d_sum_example, g_sum_example⟩ := gd_ok q_sum_example
  obtain ⟨d_digit_sum, g_digit_sum⟩ := gd_ok q_digit_sum
  obtain ⟨d_digit_counts, g_digit_counts⟩ := gd_ok q_digit_counts
  obtain ⟨d_all_counts, g_all_counts⟩ := gd_ok q_all_counts
  have e_residues_with : m_residues_with [.int (n : Nat), .int (2 : Nat)] = .ok (.fr d_residues_with) := g_residues_with.ok
  have k_residues_with : kwF [1, 0] 2 m_residues_with [.int (2 : Nat), .int (n : Nat)] = .ok (.fr d_residues_with) := e_residues_with
  have e_spread : m_spread [.int (n : Nat)] = .ok (.fr d_spread) := g_spread.ok
  have k_spread : kwF [0] 1 m_spread [.int (n : Nat)] = .ok (.fr d_spread) := e_spread
  have e_greatest_period : m_greatest_period [.int (n : Nat)] = .ok (.fr d_greatest_period) := g_greatest_period.ok
  have k_greatest_period : kwF [0] 1 m_greatest_period [.int (n : Nat)] = .ok (.fr d_greatest_period) := e_greatest_period
  have e_bases_with : m_bases_with [.int (n : Nat), .int (2 : Nat)] = .ok (.fr d_bases_with) := g_bases_with.ok
  have k_bases_with : kwF [1, 0] 2 m_bases_with [.int (2 : Nat), .int (n : Nat)] = .ok (.fr d_bases_with) := e_bases_with
  have e_denominators_with : m_denominators_with [.int (b : Nat), .int (6 : Nat), .int (50 : Nat)] = .ok (.fr d_denominators_with) := g_denominators_with.ok
  have k_denominators_with : kwF [2, 1, 0] 3 m_denominators_with [.int (50 : Nat), .int (6 : Nat), .int (b : Nat)] = .ok (.fr d_denominators_with) := e_denominators_with
  have e_period_paper : m_period_paper [.int (b : Nat), .int (n : Nat)] = .ok (.fr d_period_paper) := g_period_paper.ok
  have k_period_paper : kwF [1, 0] 2 m_period_paper [.int (n : Nat), .int (b : Nat)] = .ok (.fr d_period_paper) := e_period_paper
  have e_check_period : m_check_period [.int (b : Nat), .int (n : Nat), d_period_paper] = .ok (.fr d_check_period) := g_check_period.ok
  have k_check_period : kwF [2, 1, 0] 3 m_check_period [d_period_paper, .int (n : Nat), .int (b : Nat)] = .ok (.fr d_check_period) := e_check_period
  have e_sum_of : m_sum_of [.tup [.int (1 : Nat), .int (7 : Nat)], .tup [.int (2 : Nat), .int (9 : Nat)]] = .ok (.fr d_sum_of) := g_sum_of.ok
  have k_sum_of : kwF [1, 0] 2 m_sum_of [.tup [.int (2 : Nat), .int (9 : Nat)], .tup [.int (1 : Nat), .int (7 : Nat)]] = .ok (.fr d_sum_of) := e_sum_of
  have e_sum_denominators : m_sum_denominators [.int (n : Nat), .int (12 : Nat)] = .ok (.fr d_sum_denominators) := g_sum_denominators.ok
  have k_sum_denominators : kwF [1, 0] 2 m_sum_denominators [.int (12 : Nat), .int (n : Nat)] = .ok (.fr d_sum_denominators) := e_sum_denominators
  have e_sum_periods : m_sum_periods [.int (b : Nat), .int (n : Nat), .int (12 : Nat)] = .ok (.fr d_sum_periods) := g_sum_periods.ok
  have k_sum_periods : kwF [2, 1, 0] 3 m_sum_periods [.int (12 : Nat), .int (n : Nat), .int (b : Nat)] = .ok (.fr d_sum_periods) := e_sum_periods
  have e_sum_example : m_sum_example [.int (3 : Nat), .int (9 : Nat), .int (9 : Nat)] = .ok (.fr d_sum_example) := g_sum_example.ok
  have k_sum_example : kwF [2, 1, 0] 3 m_sum_example [.int (9 : Nat), .int (9 : Nat), .int (3 : Nat)] = .ok (.fr d_sum_example) := e_sum_example
  have e_digit_sum : m_digit_sum [.int (10 : Nat), .tup [.int (1 : Nat), .int (7 : Nat)]] = .ok (.fr d_digit_sum) := g_digit_sum.ok
  have k_digit_sum : kwF [1, 0] 2 m_digit_sum [.tup [.int (1 : Nat), .int (7 : Nat)], .int (10 : Nat)] = .ok (.fr d_digit_sum) := e_digit_sum
  have e_digit_counts : m_digit_counts [.int (10 : Nat), .tup [.int (1 : Nat), .int (7 : Nat)]] = .ok (.fr d_digit_counts) := g_digit_counts.ok
  have k_digit_counts : kwF [1, 0] 2 m_digit_counts [.tup [.int (1 : Nat), .int (7 : Nat)], .int (10 : Nat)] = .ok (.fr d_digit_counts) := e_digit_counts
  have e_all_counts : m_all_counts [.int (10 : Nat), .int (13 : Nat)] = .ok (.fr d_all_counts) := g_all_counts.ok
  have k_all_counts : kwF [1, 0] 2 m_all_counts [.int (13 : Nat), .int (10 : Nat)] = .ok (.fr d_all_counts) := e_all_counts
  have r := (rok_lst (rok_cons g_residues_with.rk (rok_cons g_spread.rk (rok_cons g_greatest_period.rk (rok_cons g_bases_with.rk (rok_cons g_denominators_with.rk (rok_cons g_period_paper.rk (rok_cons g_check_period.rk (rok_cons g_sum_of.rk (rok_cons g_sum_denominators.rk (rok_cons g_sum_periods.rk (rok_cons g_sum_example.rk (rok_cons g_digit_sum.rk (rok_cons g_digit_counts.rk (rok_cons g_all_counts.rk (rok_nil 5)))))))))))))))).repr (by omega) (by omega)
  clear g_residues_with g_spread g_greatest_period g_bases_with g_denominators_with g_period_paper g_check_period g_sum_of g_sum_denominators g_sum_periods g_sum_example g_digit_sum g_digit_counts g_all_counts
  generalize (toPy (.lst [d_residues_with, d_spread, d_greatest_period, d_bases_with, d_denominators_with, d_period_paper, d_check_period, d_sum_of, d_sum_denominators, d_sum_periods, d_sum_example, d_digit_sum, d_digit_counts, d_all_counts])).shown = S at r
  have q := eqS S
  simp -implicitDefEqProofs (disch := (first | omega | assumption)) only [PL.x_Rof, PL.x_cst, PL.x_var, PL.x_var1f, PL.x_var1l, PL.x_var1d, PL.x_pk, PL.x_pk1f, PL.x_pk1l, PL.x_pk1d, PL.x_pk1i, PL.x_pkF, PL.x_un1, PL.x_un, PL.x_truF, PL.x_bOf, PL.x_tstF, PL.x_notT, PL.x_bin1, PL.x_bin, PL.x_bp3, PL.x_bp2, PL.x_bp1, PL.x_binP, PL.x_andT, PL.x_orT, PL.x_and1t, PL.x_and1f, PL.x_or1t, PL.x_or1f, PL.x_andV, PL.x_orV, PL.x_andV1t, PL.x_andV1f, PL.x_orV1t, PL.x_orV1f, PL.x_ifE, PL.x_ifE1t, PL.x_ifE1f, PL.x_chainD, PL.x_ch1, PL.x_ch2, PL.x_ch3t, PL.x_ch3f, PL.x_nilA, PL.x_consA, PL.x_cons1, PL.x_cons2, PL.x_few, PL.x_mk1, PL.x_tupD, PL.x_lstD, PL.x_lstO, PL.x_dctO0, PL.x_frO, PL.x_cb, PL.x_noP, PL.x_iOf, PL.x_someP, PL.x_sl31, PL.x_sl32, PL.x_sl3, PL.x_slK1, PL.x_slK, PL.x_frF, PL.x_frS1, PL.x_frS2, PL.x_frS3, PL.x_cal1, PL.x_callF, PL.x_callO, PL.x_FMof, PL.x_cm1, PL.x_cm2, PL.x_cm3, PL.x_callM, PL.x_FMO, PL.x_cmo1, PL.x_cmo2, PL.x_callMO, PL.x_frzR, PL.x_itF, PL.x_rngF, PL.x_OLof, PL.x_lc2, PL.x_lc1, PL.x_lcO, PL.x_cat1, PL.x_catO, PL.x_cp1, PL.x_cp2, PL.x_cp3, PL.x_catPO, PL.x_SBn, PL.x_SBr, PL.x_skipS, PL.x_badS, PL.x_seqS, PL.x_nxO, PL.x_set1, PL.x_setS, PL.x_setO1f, PL.x_setO1l, PL.x_setO1d, PL.x_setOS, PL.x_ret1, PL.x_retO1, PL.x_exp1, PL.x_retS, PL.x_retOS, PL.x_exprS, PL.x_ifS, PL.x_if1t, PL.x_if1f, PL.x_asg1, PL.x_asgS, PL.x_argsP0, PL.x_ap1f, PL.x_ap1l, PL.x_ap1d, PL.x_ap2, PL.x_argsP, PL.x_par1, PL.x_parP, PL.x_putP0, PL.x_pp1, PL.x_putP, PL.x_app1, PL.x_app2, PL.x_nxB, PL.x_app3, PL.x_appS, PL.x_dp1, PL.x_dp2, PL.x_dp3, PL.x_dp4, PL.x_dputS, PL.x_keyI, PL.x_keyS, PL.x_up1, PL.x_up2, PL.x_up3, PL.x_updS, PL.x_for1, PL.x_forS, PL.x_RTr, PL.x_RTn, PL.x_rf1, PL.x_runF, PL.x_RMr, PL.x_RMn, PL.x_MIo, PL.x_ioOf, PL.x_rm1, PL.x_runM, PL.x_putR, PL.x_putR0f, PL.x_putR0l, PL.x_putR0d, PL.x_putR0n, PL.x_noIof, PL.x_noIol, PL.x_noIod, PL.x_noIon, PL.x_tgN, PL.x_tgT, PL.x_putAll0, PL.x_pa1, PL.x_putAll, PL.x_dAt, PL.x_dSlo, PL.x_dSli, PL.x_dPut, PL.x_dPuo, PL.x_dPui, PL.x_lAt, PL.x_lSl, PL.x_envOf, PL.x_envM, PL.x_toDl, PL.x_toDd, PL.x_toDf, PL.x_nof, PL.x_nol, PL.x_nod, PL.x_okW, PL.x_wipe0, PL.x_wipe, PL.x_yesT, PL.n_add, PL.n_mul, PL.n_mod, PL.n_div, PL.n_sub, PL.n_lt, PL.n_le, PL.n_eq, PL.d_t, PL.d_f, PL.y_add, PL.y_sub, PL.y_mod, PL.y_div, PL.y_mulL, PL.y_mulR, PL.y_lt, PL.y_le, PL.y_gt, PL.y_ge, PL.y_cmp, PL.y_eq, PL.y_ne, PL.y_int, PL.y_notD, PL.y_truB, PL.y_neg, PL.y_isi_n, PL.y_isi_b, PL.y_isi_i, PL.y_isi_s, PL.y_isi_l, PL.y_isi_t, PL.y_isi_d, PL.y_isi_c, PL.l_len, PL.l_lenT, PL.l_it, PL.l_itT, PL.l_tuple, PL.l_list, PL.l_listL, PL.l_ix, PL.l_ixT, PL.l_sum, PL.l_eq, PL.l_ne, PL.l_eq0, PL.l_ne0, PL.l_eqT, PL.l_in, PL.l_nin, PL.l_cat, PL.l_catT, PL.l_stp, PL.l_rng1, PL.l_rng2, PL.x_fb, PL.x_fb1, PL.l_eq00, PL.l_ne00, PL.l_eq01, PL.l_ne01, PL.l_lenS, PL.x_ODof, PL.x_dc2, PL.x_dc1, PL.x_dcO, PL.l_nin_tk, PL.l_in_tk, PL.l_min, PL.l_slT, PL.l_slL, PL.l_rng3, PL.x_rgl2, PL.x_rgl1, PL.x_rgList, PL.x_rgTup, PL.x_gp3, PL.x_gp2, PL.x_gp1, PL.x_getP, PL.x_mt2, PL.x_mt1, PL.x_meth1, PL.l_isL, PL.x_XRo, PL.x_XRe, PL.x_calX, PL.x_calXe, PL.x_callX, PL.x_rai1, PL.x_rai, PL.x_try3, PL.x_try2, PL.x_try2f, PL.x_try1, PL.x_try1r, PL.x_try1n, PL.x_tryR, PL.x_exu1, PL.x_exb1, PL.x_exc1, PL.x_exc2, PL.x_exm1, PL.x_exSB, PL.x_exr1, PL.x_exe1, PL.x_exi1, PL.x_exRT, PL.x_OL2, PL.x_l2b, PL.x_l2a, PL.x_lc2O, PL.l_enumT, PL.l_enumL, List.getElem?_cons_zero, List.getElem?_cons_succ, List.set_cons_zero, List.set_cons_succ, List.length_cons, List.length_nil, List.map_cons, List.map_nil, List.replicate_succ, List.replicate_zero, List.cons_append, List.nil_append, Nat.zero_add, Nat.add_zero, Nat.reduceAdd, Nat.reduceSub, Nat.reduceMul, Nat.reduceLT, Nat.reduceEqDiff, Bool.not_true, Bool.not_false, Bool.true_and, Bool.false_and, Bool.and_true, Bool.and_false, Bool.true_or, Bool.false_or, Bool.or_true, Bool.or_false, List.all_cons, List.all_nil, PL.nl_len, List.length_map, List.length_range, isiT, tyD, Option.map_some, Option.map_none, ne_eq, not_false_eq_true, not_true_eq_false, decide_true, decide_false, eq_self, implies_true, gt_iff_lt, ge_iff_le, m__law_periods_right, b__law_periods_right, kl_3_2, kl_5_2, kl_7_2, kl_10_2, kl_12_2, kl_5_4, kl_9_4, kl_2_2, kl_9_2, kl_4_3, kl_7_3, kl_10_3, e_residues_with, k_residues_with, e_spread, k_spread, e_greatest_period, k_greatest_period, e_bases_with, k_bases_with, e_denominators_with, k_denominators_with, e_period_paper, k_period_paper, e_check_period, k_check_period, e_sum_of, k_sum_of, e_sum_denominators, k_sum_denominators, e_sum_periods, k_sum_periods, e_sum_example, k_sum_example, e_digit_sum, k_digit_sum, e_digit_counts, k_digit_counts, e_all_counts, k_all_counts, r, q]
theorem others_right {b n : Nat} (hb : b ∈ [2, 3, 10, 12, 60]) (hn : n ∈ [1, 7, 12, 21, 40, 81]) : m__law_others_right [.int b, .int n] = .ok (.fr (.bl true)) := by
  have qN := cN hn
  unfold chkN at qN
  simp only [Bool.and_eq_true] at qN
  obtain ⟨q_residues_with, q_spread, q_greatest_period, q_bases_with, q_sum_denominators⟩ := qN
  have qB := cB hb
  unfold chkB at qB
  simp only [Bool.and_eq_true] at qB
  obtain ⟨q_denominators_with, q_need_seen, q_fits, q_fitting, q_simplest, q_sure_digits, q_block_sum⟩ := qB
  have qP := cP hb hn
  unfold chkP at qP
  simp only [Bool.and_eq_true] at qP
  obtain ⟨q_period_paper, q_check_period, q_sum_periods, q_exponents, q_exponent_paper, q_check_exponent⟩ := qP
  have q0 := c0
  unfold chk0 at q0
  simp only [Bool.and_eq_true] at q0
  obtain ⟨q_sum_of, q_sum_example, q_digit_sum, q_digit_counts, q_all_counts, q_keeps_remainders, q_need_facts, q_is_satisfied, q_denominators_by, q_bases_by⟩ := q0
  obtain ⟨d_need_seen, g_need_seen⟩ := gd_ok q_need_seen
  obtain ⟨d_fits, g_fits⟩ := gd_ok q_fits
  obtain ⟨d_fitting, g_fitting⟩ := gd_ok q_fitting
  obtain ⟨d_simplest, g_simplest⟩ := gd_ok q_simplest
  obtain ⟨d_sure_digits, g_sure_digits⟩ := gd_ok q_sure_digits
  obtain ⟨d_block_sum, g_block_sum⟩ := gd_ok q_block_sum
  obtain ⟨d_exponents, g_exponents⟩ := gd_ok q_exponents
  obtain ⟨d_keeps_remainders, g_keeps_remainders⟩ := gd_ok q_keeps_remainders
  obtain ⟨d_exponent_paper, g_exponent_paper⟩ := gd_ok q_exponent_paper
  obtain ⟨d_check_exponent, g_check_exponent⟩ := an_ok q_check_exponent g_exponent_paper
  obtain ⟨d_need_facts, g_need_facts⟩ := gd_ok q_need_facts
  obtain ⟨d_is_satisfied, g_is_satisfied⟩ := gd_ok q_is_satisfied
  obtain ⟨d_denominators_by, g_denominators_by⟩ := gd_ok q_denominators_by
  obtain ⟨d_bases_by, g_bases_by⟩ := gd_ok q_bases_by
  have e_need_seen : m_need_seen [.int (b : Nat), .tup [.int (1 : Nat), .non]] = .ok (.fr d_need_seen) := g_need_seen.ok
  have k_need_seen : kwF [1, 0] 2 m_need_seen [.tup [.int (1 : Nat), .non], .int (b : Nat)] = .ok (.fr d_need_seen) := e_need_seen
  have e_fits : m_fits [.int (b : Nat), .tup [.int (1 : Nat), .int (7 : Nat)], .tup [.int (1 : Nat), .non]] = .ok (.fr d_fits) := g_fits.ok
  have k_fits : kwF [2, 1, 0] 3 m_fits [.tup [.int (1 : Nat), .non], .tup [.int (1 : Nat), .int (7 : Nat)], .int (b : Nat)] = .ok (.fr d_fits) := e_fits
  have e_fitting : m_fitting [.int (b : Nat), .tup [.int (1 : Nat), .non], .int (9 : Nat)] = .ok (.fr d_fitting) := g_fitting.ok
  have k_fitting : kwF [2, 1, 0] 3 m_fitting [.int (9 : Nat), .tup [.int (1 : Nat), .non], .int (b : Nat)] = .ok (.fr d_fitting) := e_fitting
  have e_simplest : m_simplest [.int (b : Nat), .tup [.int (1 : Nat), .non], .int (9 : Nat)] = .ok (.fr d_simplest) := g_simplest.ok
  have k_simplest : kwF [2, 1, 0] 3 m_simplest [.int (9 : Nat), .tup [.int (1 : Nat), .non], .int (b : Nat)] = .ok (.fr d_simplest) := e_simplest
  have e_sure_digits : m_sure_digits [.int (b : Nat), .tup [.non], .int (7 : Nat), .int (5 : Nat)] = .ok (.fr d_sure_digits) := g_sure_digits.ok
  have k_sure_digits : kwF [3, 2, 1, 0] 4 m_sure_digits [.int (5 : Nat), .int (7 : Nat), .tup [.non], .int (b : Nat)] = .ok (.fr d_sure_digits) := e_sure_digits
  have e_block_sum : m_block_sum [.int (b : Nat), .int (2 : Nat), .int (-((3 : Nat) : Int)), .int (12345 : Nat)] = .ok (.fr d_block_sum) := g_block_sum.ok
  have k_block_sum : kwF [3, 2, 1, 0] 4 m_block_sum [.int (12345 : Nat), .int (-((3 : Nat) : Int)), .int (2 : Nat), .int (b : Nat)] = .ok (.fr d_block_sum) := e_block_sum
  have e_exponents : m_exponents [.int (b : Nat), .int (n : Nat), .int (2 : Nat)] = .ok (.fr d_exponents) := g_exponents.ok
  have k_exponents : kwF [2, 1, 0] 3 m_exponents [.int (2 : Nat), .int (n : Nat), .int (b : Nat)] = .ok (.fr d_exponents) := e_exponents
  have e_keeps_remainders : m_keeps_remainders [.int (10 : Nat), .int (7 : Nat), .int (1 : Nat), .int (3 : Nat)] = .ok (.fr d_keeps_remainders) := g_keeps_remainders.ok
  have k_keeps_remainders : kwF [3, 2, 1, 0] 4 m_keeps_remainders [.int (3 : Nat), .int (1 : Nat), .int (7 : Nat), .int (10 : Nat)] = .ok (.fr d_keeps_remainders) := e_keeps_remainders
  have e_exponent_paper : m_exponent_paper [.int (b : Nat), .int (n : Nat), .int (2 : Nat)] = .ok (.fr d_exponent_paper) := g_exponent_paper.ok
  have k_exponent_paper : kwF [2, 1, 0] 3 m_exponent_paper [.int (2 : Nat), .int (n : Nat), .int (b : Nat)] = .ok (.fr d_exponent_paper) := e_exponent_paper
  have e_check_exponent : m_check_exponent [.int (b : Nat), .int (n : Nat), .int (2 : Nat), d_exponent_paper] = .ok (.fr d_check_exponent) := g_check_exponent.ok
  have k_check_exponent : kwF [3, 2, 1, 0] 4 m_check_exponent [d_exponent_paper, .int (2 : Nat), .int (n : Nat), .int (b : Nat)] = .ok (.fr d_check_exponent) := e_check_exponent
  have e_need_facts : m_need_facts [.tup [.tup [.str "period", .int (6 : Nat)], .tup [.str "head", .int (0 : Nat)]]] = .ok (.fr d_need_facts) := g_need_facts.ok
  have k_need_facts : kwF [0] 1 m_need_facts [.tup [.tup [.str "period", .int (6 : Nat)], .tup [.str "head", .int (0 : Nat)]]] = .ok (.fr d_need_facts) := e_need_facts
  have e_is_satisfied : m_is_satisfied [.int (10 : Nat), .int (7 : Nat), .tup [.tup [.str "period", .int (6 : Nat)], .tup [.str "head", .int (0 : Nat)]]] = .ok (.fr d_is_satisfied) := g_is_satisfied.ok
  have k_is_satisfied : kwF [2, 1, 0] 3 m_is_satisfied [.tup [.tup [.str "period", .int (6 : Nat)], .tup [.str "head", .int (0 : Nat)]], .int (7 : Nat), .int (10 : Nat)] = .ok (.fr d_is_satisfied) := e_is_satisfied
  have e_denominators_by : m_denominators_by [.int (10 : Nat), .tup [.tup [.str "period", .int (6 : Nat)], .tup [.str "head", .int (0 : Nat)]], .int (60 : Nat)] = .ok (.fr d_denominators_by) := g_denominators_by.ok
  have k_denominators_by : kwF [2, 1, 0] 3 m_denominators_by [.int (60 : Nat), .tup [.tup [.str "period", .int (6 : Nat)], .tup [.str "head", .int (0 : Nat)]], .int (10 : Nat)] = .ok (.fr d_denominators_by) := e_denominators_by
  have e_bases_by : m_bases_by [.int (7 : Nat), .tup [.tup [.str "period", .int (6 : Nat)], .tup [.str "head", .int (0 : Nat)]], .int (30 : Nat)] = .ok (.fr d_bases_by) := g_bases_by.ok
  have k_bases_by : kwF [2, 1, 0] 3 m_bases_by [.int (30 : Nat), .tup [.tup [.str "period", .int (6 : Nat)], .tup [.str "head", .int (0 : Nat)]], .int (7 : Nat)] = .ok (.fr d_bases_by) := e_bases_by
  have r := (rok_lst (rok_cons g_need_seen.rk (rok_cons g_fits.rk (rok_cons g_fitting.rk (rok_cons g_simplest.rk (rok_cons g_sure_digits.rk (rok_cons g_block_sum.rk (rok_cons g_exponents.rk (rok_cons g_keeps_remainders.rk (rok_cons g_exponent_paper.rk (rok_cons g_check_exponent.rk (rok_cons g_need_facts.rk (rok_cons g_is_satisfied.rk (rok_cons g_denominators_by.rk (rok_cons g_bases_by.rk (rok_nil 5)))))))))))))))).repr (by omega) (by omega)
  clear g_need_seen g_fits g_fitting g_simplest g_sure_digits g_block_sum g_exponents g_keeps_remainders g_exponent_paper g_check_exponent g_need_facts g_is_satisfied g_denominators_by g_bases_by
  generalize (toPy (.lst [d_need_seen, d_fits, d_fitting, d_simplest, d_sure_digits, d_block_sum, d_exponents, d_keeps_remainders, d_exponent_paper, d_check_exponent, d_need_facts, d_is_satisfied, d_denominators_by, d_bases_by])).shown = S at r
  have q := eqS S
  simp -implicitDefEqProofs (disch := (first | omega | assumption)) only [PL.x_Rof, PL.x_cst, PL.x_var, PL.x_var1f, PL.x_var1l, PL.x_var1d, PL.x_pk, PL.x_pk1f, PL.x_pk1l, PL.x_pk1d, PL.x_pk1i, PL.x_pkF, PL.x_un1, PL.x_un, PL.x_truF, PL.x_bOf, PL.x_tstF, PL.x_notT, PL.x_bin1, PL.x_bin, PL.x_bp3, PL.x_bp2, PL.x_bp1, PL.x_binP, PL.x_andT, PL.x_orT, PL.x_and1t, PL.x_and1f, PL.x_or1t, PL.x_or1f, PL.x_andV, PL.x_orV, PL.x_andV1t, PL.x_andV1f, PL.x_orV1t, PL.x_orV1f, PL.x_ifE, PL.x_ifE1t, PL.x_ifE1f, PL.x_chainD, PL.x_ch1, PL.x_ch2, PL.x_ch3t, PL.x_ch3f, PL.x_nilA, PL.x_consA, PL.x_cons1, PL.x_cons2, PL.x_few, PL.x_mk1, PL.x_tupD, PL.x_lstD, PL.x_lstO, PL.x_dctO0, PL.x_frO, PL.x_cb, PL.x_noP, PL.x_iOf, PL.x_someP, PL.x_sl31, PL.x_sl32, PL.x_sl3, PL.x_slK1, PL.x_slK, PL.x_frF, PL.x_frS1, PL.x_frS2, PL.x_frS3, PL.x_cal1, PL.x_callF, PL.x_callO, PL.x_FMof, PL.x_cm1, PL.x_cm2, PL.x_cm3, PL.x_callM, PL.x_FMO, PL.x_cmo1, PL.x_cmo2, PL.x_callMO, PL.x_frzR, PL.x_itF, PL.x_rngF, PL.x_OLof, PL.x_lc2, PL.x_lc1, PL.x_lcO, PL.x_cat1, PL.x_catO, PL.x_cp1, PL.x_cp2, PL.x_cp3, PL.x_catPO, PL.x_SBn, PL.x_SBr, PL.x_skipS, PL.x_badS, PL.x_seqS, PL.x_nxO, PL.x_set1, PL.x_setS, PL.x_setO1f, PL.x_setO1l, PL.x_setO1d, PL.x_setOS, PL.x_ret1, PL.x_retO1, PL.x_exp1, PL.x_retS, PL.x_retOS, PL.x_exprS, PL.x_ifS, PL.x_if1t, PL.x_if1f, PL.x_asg1, PL.x_asgS, PL.x_argsP0, PL.x_ap1f, PL.x_ap1l, PL.x_ap1d, PL.x_ap2, PL.x_argsP, PL.x_par1, PL.x_parP, PL.x_putP0, PL.x_pp1, PL.x_putP, PL.x_app1, PL.x_app2, PL.x_nxB, PL.x_app3, PL.x_appS, PL.x_dp1, PL.x_dp2, PL.x_dp3, PL.x_dp4, PL.x_dputS, PL.x_keyI, PL.x_keyS, PL.x_up1, PL.x_up2, PL.x_up3, PL.x_updS, PL.x_for1, PL.x_forS, PL.x_RTr, PL.x_RTn, PL.x_rf1, PL.x_runF, PL.x_RMr, PL.x_RMn, PL.x_MIo, PL.x_ioOf, PL.x_rm1, PL.x_runM, PL.x_putR, PL.x_putR0f, PL.x_putR0l, PL.x_putR0d, PL.x_putR0n, PL.x_noIof, PL.x_noIol, PL.x_noIod, PL.x_noIon, PL.x_tgN, PL.x_tgT, PL.x_putAll0, PL.x_pa1, PL.x_putAll, PL.x_dAt, PL.x_dSlo, PL.x_dSli, PL.x_dPut, PL.x_dPuo, PL.x_dPui, PL.x_lAt, PL.x_lSl, PL.x_envOf, PL.x_envM, PL.x_toDl, PL.x_toDd, PL.x_toDf, PL.x_nof, PL.x_nol, PL.x_nod, PL.x_okW, PL.x_wipe0, PL.x_wipe, PL.x_yesT, PL.n_add, PL.n_mul, PL.n_mod, PL.n_div, PL.n_sub, PL.n_lt, PL.n_le, PL.n_eq, PL.d_t, PL.d_f, PL.y_add, PL.y_sub, PL.y_mod, PL.y_div, PL.y_mulL, PL.y_mulR, PL.y_lt, PL.y_le, PL.y_gt, PL.y_ge, PL.y_cmp, PL.y_eq, PL.y_ne, PL.y_int, PL.y_notD, PL.y_truB, PL.y_neg, PL.y_isi_n, PL.y_isi_b, PL.y_isi_i, PL.y_isi_s, PL.y_isi_l, PL.y_isi_t, PL.y_isi_d, PL.y_isi_c, PL.l_len, PL.l_lenT, PL.l_it, PL.l_itT, PL.l_tuple, PL.l_list, PL.l_listL, PL.l_ix, PL.l_ixT, PL.l_sum, PL.l_eq, PL.l_ne, PL.l_eq0, PL.l_ne0, PL.l_eqT, PL.l_in, PL.l_nin, PL.l_cat, PL.l_catT, PL.l_stp, PL.l_rng1, PL.l_rng2, PL.x_fb, PL.x_fb1, PL.l_eq00, PL.l_ne00, PL.l_eq01, PL.l_ne01, PL.l_lenS, PL.x_ODof, PL.x_dc2, PL.x_dc1, PL.x_dcO, PL.l_nin_tk, PL.l_in_tk, PL.l_min, PL.l_slT, PL.l_slL, PL.l_rng3, PL.x_rgl2, PL.x_rgl1, PL.x_rgList, PL.x_rgTup, PL.x_gp3, PL.x_gp2, PL.x_gp1, PL.x_getP, PL.x_mt2, PL.x_mt1, PL.x_meth1, PL.l_isL, PL.x_XRo, PL.x_XRe, PL.x_calX, PL.x_calXe, PL.x_callX, PL.x_rai1, PL.x_rai, PL.x_try3, PL.x_try2, PL.x_try2f, PL.x_try1, PL.x_try1r, PL.x_try1n, PL.x_tryR, PL.x_exu1, PL.x_exb1, PL.x_exc1, PL.x_exc2, PL.x_exm1, PL.x_exSB, PL.x_exr1, PL.x_exe1, PL.x_exi1, PL.x_exRT, PL.x_OL2, PL.x_l2b, PL.x_l2a, PL.x_lc2O, PL.l_enumT, PL.l_enumL, List.getElem?_cons_zero, List.getElem?_cons_succ, List.set_cons_zero, List.set_cons_succ, List.length_cons, List.length_nil, List.map_cons, List.map_nil, List.replicate_succ, List.replicate_zero, List.cons_append, List.nil_append, Nat.zero_add, Nat.add_zero, Nat.reduceAdd, Nat.reduceSub, Nat.reduceMul, Nat.reduceLT, Nat.reduceEqDiff, Bool.not_true, Bool.not_false, Bool.true_and, Bool.false_and, Bool.and_true, Bool.and_false, Bool.true_or, Bool.false_or, Bool.or_true, Bool.or_false, List.all_cons, List.all_nil, PL.nl_len, List.length_map, List.length_range, isiT, tyD, Option.map_some, Option.map_none, ne_eq, not_false_eq_true, not_true_eq_false, decide_true, decide_false, eq_self, implies_true, gt_iff_lt, ge_iff_le, m__law_others_right, b__law_others_right, kl_3_2, kl_5_2, kl_7_2, kl_10_2, kl_12_2, kl_5_4, kl_9_4, kl_2_2, kl_9_2, kl_4_3, kl_7_3, kl_10_3, e_need_seen, k_need_seen, e_fits, k_fits, e_fitting, k_fitting, e_simplest, k_simplest, e_sure_digits, k_sure_digits, e_block_sum, k_block_sum, e_exponents, k_exponents, e_keeps_remainders, k_keeps_remainders, e_exponent_paper, k_exponent_paper, e_check_exponent, k_check_exponent, e_need_facts, k_need_facts, e_is_satisfied, k_is_satisfied, e_denominators_by, k_denominators_by, e_bases_by, k_bases_by, r, q]
/-! by hand -/
theorem h_1 : m_denominators_with [.int (10 : Nat), .int (2 : Nat), .int (40 : Nat)] = .ok (.fr (.tup [.int (11 : Nat), .int (33 : Nat)])) := by kernel_rfl
theorem h_2 : m_sum_example [.int (2 : Nat), .int (3 : Nat), .int (6 : Nat)] = .ok (.fr (.tup [.tup [.int (1 : Nat), .int (2 : Nat)], .tup [.int (1 : Nat), .int (3 : Nat)]])) := by kernel_rfl
theorem h_3 : m_block_sum [.int (10 : Nat), .int (3 : Nat), .int (-((1 : Nat) : Int)), .int (142857 : Nat)] = .ok (.fr (.int (715 : Nat))) := by kernel_rfl
theorem h_4 : m_exponents [.int (10 : Nat), .int (7 : Nat), .int (-((1 : Nat) : Int))] = .ok (.fr (.tup [.int (3 : Nat), .int (6 : Nat)])) := by kernel_rfl
theorem h_5 : m_keeps_remainders [.int (10 : Nat), .int (7 : Nat), .int (3 : Nat), .int (-((1 : Nat) : Int))] = .ok (.fr (.bl true)) := by kernel_rfl
def cut3 (r : FR) : Bool := match r with
  | .ok (.fr d) => match slD d none (some (3 : Nat)) with
    | some (.tup [.int (.ofNat 2), .int (.ofNat 5), .int (.ofNat 8)]) => true
    | _ => false
  | _ => false
theorem cut3_ok {r : FR} (h : cut3 r = true) : ∃ d, r = .ok (.fr d) ∧ slD d none (some (3 : Nat)) = some (.tup [.int (2 : Nat), .int (5 : Nat), .int (8 : Nat)]) := by
  unfold cut3 at h
  split at h
  · rename_i d
    refine ⟨d, rfl, ?_⟩
    split at h
    · rename_i e
      exact e
    · cases h
  · cases h
theorem h_6 : cut3 (m_bases_with [.int (3 : Nat), .int (2 : Nat)]) = true := by decide +kernel
theorem hand_eq : eqD (.lst [.tup [.int (11 : Nat), .int (33 : Nat)], .int (3 : Nat), .int (715 : Nat), .tup [.int (3 : Nat), .int (6 : Nat)], .bl true, .tup [.int (2 : Nat), .int (5 : Nat), .int (8 : Nat)]]) (.lst [.tup [.int (11 : Nat), .int (33 : Nat)], .int (3 : Nat), .int (715 : Nat), .tup [.int (3 : Nat), .int (6 : Nat)], .bl true, .tup [.int (2 : Nat), .int (5 : Nat), .int (8 : Nat)]]) = some (.bl true) := by kernel_rfl
theorem hand_ok : m__law_hand_right [] = .ok (.fr (.bl true)) := by
  have k1 : kwF [0, 1, 2] 3 m_denominators_with [.int (10 : Nat), .int (2 : Nat), .int (40 : Nat)] = _ := h_1
  have k2 : kwF [0, 1, 2] 3 m_sum_example [.int (2 : Nat), .int (3 : Nat), .int (6 : Nat)] = _ := h_2
  have k3 : kwF [0, 1, 2, 3] 4 m_block_sum [.int (10 : Nat), .int (3 : Nat), .int (-((1 : Nat) : Int)), .int (142857 : Nat)] = _ := h_3
  have k4 : kwF [0, 1, 2] 3 m_exponents [.int (10 : Nat), .int (7 : Nat), .int (-((1 : Nat) : Int))] = _ := h_4
  have k5 : kwF [0, 1, 2, 3] 4 m_keeps_remainders [.int (10 : Nat), .int (7 : Nat), .int (3 : Nat), .int (-((1 : Nat) : Int))] = _ := h_5
  obtain ⟨d, e6, hs⟩ := cut3_ok h_6
  have k6 : kwF [0, 1] 2 m_bases_with [.int (3 : Nat), .int (2 : Nat)] = .ok (.fr d) := e6
  simp -implicitDefEqProofs (disch := (first | omega | assumption)) only [PL.x_Rof, PL.x_cst, PL.x_var, PL.x_var1f, PL.x_var1l, PL.x_var1d, PL.x_pk, PL.x_pk1f, PL.x_pk1l, PL.x_pk1d, PL.x_pk1i, PL.x_pkF, PL.x_un1, PL.x_un, PL.x_truF, PL.x_bOf, PL.x_tstF, PL.x_notT, PL.x_bin1, PL.x_bin, PL.x_bp3, PL.x_bp2, PL.x_bp1, PL.x_binP, PL.x_andT, PL.x_orT, PL.x_and1t, PL.x_and1f, PL.x_or1t, PL.x_or1f, PL.x_andV, PL.x_orV, PL.x_andV1t, PL.x_andV1f, PL.x_orV1t, PL.x_orV1f, PL.x_ifE, PL.x_ifE1t, PL.x_ifE1f, PL.x_chainD, PL.x_ch1, PL.x_ch2, PL.x_ch3t, PL.x_ch3f, PL.x_nilA, PL.x_consA, PL.x_cons1, PL.x_cons2, PL.x_few, PL.x_mk1, PL.x_tupD, PL.x_lstD, PL.x_lstO, PL.x_dctO0, PL.x_frO, PL.x_cb, PL.x_noP, PL.x_iOf, PL.x_someP, PL.x_sl31, PL.x_sl32, PL.x_sl3, PL.x_slK1, PL.x_slK, PL.x_frF, PL.x_frS1, PL.x_frS2, PL.x_frS3, PL.x_cal1, PL.x_callF, PL.x_callO, PL.x_FMof, PL.x_cm1, PL.x_cm2, PL.x_cm3, PL.x_callM, PL.x_FMO, PL.x_cmo1, PL.x_cmo2, PL.x_callMO, PL.x_frzR, PL.x_itF, PL.x_rngF, PL.x_OLof, PL.x_lc2, PL.x_lc1, PL.x_lcO, PL.x_cat1, PL.x_catO, PL.x_cp1, PL.x_cp2, PL.x_cp3, PL.x_catPO, PL.x_SBn, PL.x_SBr, PL.x_skipS, PL.x_badS, PL.x_seqS, PL.x_nxO, PL.x_set1, PL.x_setS, PL.x_setO1f, PL.x_setO1l, PL.x_setO1d, PL.x_setOS, PL.x_ret1, PL.x_retO1, PL.x_exp1, PL.x_retS, PL.x_retOS, PL.x_exprS, PL.x_ifS, PL.x_if1t, PL.x_if1f, PL.x_asg1, PL.x_asgS, PL.x_argsP0, PL.x_ap1f, PL.x_ap1l, PL.x_ap1d, PL.x_ap2, PL.x_argsP, PL.x_par1, PL.x_parP, PL.x_putP0, PL.x_pp1, PL.x_putP, PL.x_app1, PL.x_app2, PL.x_nxB, PL.x_app3, PL.x_appS, PL.x_dp1, PL.x_dp2, PL.x_dp3, PL.x_dp4, PL.x_dputS, PL.x_keyI, PL.x_keyS, PL.x_up1, PL.x_up2, PL.x_up3, PL.x_updS, PL.x_for1, PL.x_forS, PL.x_RTr, PL.x_RTn, PL.x_rf1, PL.x_runF, PL.x_RMr, PL.x_RMn, PL.x_MIo, PL.x_ioOf, PL.x_rm1, PL.x_runM, PL.x_putR, PL.x_putR0f, PL.x_putR0l, PL.x_putR0d, PL.x_putR0n, PL.x_noIof, PL.x_noIol, PL.x_noIod, PL.x_noIon, PL.x_tgN, PL.x_tgT, PL.x_putAll0, PL.x_pa1, PL.x_putAll, PL.x_dAt, PL.x_dSlo, PL.x_dSli, PL.x_dPut, PL.x_dPuo, PL.x_dPui, PL.x_lAt, PL.x_lSl, PL.x_envOf, PL.x_envM, PL.x_toDl, PL.x_toDd, PL.x_toDf, PL.x_nof, PL.x_nol, PL.x_nod, PL.x_okW, PL.x_wipe0, PL.x_wipe, PL.x_yesT, PL.n_add, PL.n_mul, PL.n_mod, PL.n_div, PL.n_sub, PL.n_lt, PL.n_le, PL.n_eq, PL.d_t, PL.d_f, PL.y_add, PL.y_sub, PL.y_mod, PL.y_div, PL.y_mulL, PL.y_mulR, PL.y_lt, PL.y_le, PL.y_gt, PL.y_ge, PL.y_cmp, PL.y_eq, PL.y_ne, PL.y_int, PL.y_notD, PL.y_truB, PL.y_neg, PL.y_isi_n, PL.y_isi_b, PL.y_isi_i, PL.y_isi_s, PL.y_isi_l, PL.y_isi_t, PL.y_isi_d, PL.y_isi_c, PL.l_len, PL.l_lenT, PL.l_it, PL.l_itT, PL.l_tuple, PL.l_list, PL.l_listL, PL.l_ix, PL.l_ixT, PL.l_sum, PL.l_eq, PL.l_ne, PL.l_eq0, PL.l_ne0, PL.l_eqT, PL.l_in, PL.l_nin, PL.l_cat, PL.l_catT, PL.l_stp, PL.l_rng1, PL.l_rng2, PL.x_fb, PL.x_fb1, PL.l_eq00, PL.l_ne00, PL.l_eq01, PL.l_ne01, PL.l_lenS, PL.x_ODof, PL.x_dc2, PL.x_dc1, PL.x_dcO, PL.l_nin_tk, PL.l_in_tk, PL.l_min, PL.l_slT, PL.l_slL, PL.l_rng3, PL.x_rgl2, PL.x_rgl1, PL.x_rgList, PL.x_rgTup, PL.x_gp3, PL.x_gp2, PL.x_gp1, PL.x_getP, PL.x_mt2, PL.x_mt1, PL.x_meth1, PL.l_isL, PL.x_XRo, PL.x_XRe, PL.x_calX, PL.x_calXe, PL.x_callX, PL.x_rai1, PL.x_rai, PL.x_try3, PL.x_try2, PL.x_try2f, PL.x_try1, PL.x_try1r, PL.x_try1n, PL.x_tryR, PL.x_exu1, PL.x_exb1, PL.x_exc1, PL.x_exc2, PL.x_exm1, PL.x_exSB, PL.x_exr1, PL.x_exe1, PL.x_exi1, PL.x_exRT, PL.x_OL2, PL.x_l2b, PL.x_l2a, PL.x_lc2O, PL.l_enumT, PL.l_enumL, List.getElem?_cons_zero, List.getElem?_cons_succ, List.set_cons_zero, List.set_cons_succ, List.length_cons, List.length_nil, List.map_cons, List.map_nil, List.replicate_succ, List.replicate_zero, List.cons_append, List.nil_append, Nat.zero_add, Nat.add_zero, Nat.reduceAdd, Nat.reduceSub, Nat.reduceMul, Nat.reduceLT, Nat.reduceEqDiff, Bool.not_true, Bool.not_false, Bool.true_and, Bool.false_and, Bool.and_true, Bool.and_false, Bool.true_or, Bool.false_or, Bool.or_true, Bool.or_false, List.all_cons, List.all_nil, PL.nl_len, List.length_map, List.length_range, isiT, tyD, Option.map_some, Option.map_none, ne_eq, not_false_eq_true, not_true_eq_false, decide_true, decide_false, eq_self, implies_true, gt_iff_lt, ge_iff_le, m__law_hand_right, b__law_hand_right, k1, k2, k3, k4, k5, k6, hs, ↓hand_eq]


/-! the law -/
theorem law_true (ns : List Int) (hn : ns.length ≤ 63) : m_law [.scr ns] = .ok (.fr (.bl true)) := by
  obtain ⟨q, hq, hq1, hq2, hq3⟩ := laps_ok ns 2 4
  simp -implicitDefEqProofs (disch := (first | omega | assumption)) only [PL.x_Rof, PL.x_cst, PL.x_var, PL.x_var1f, PL.x_var1l, PL.x_var1d, PL.x_pk, PL.x_pk1f, PL.x_pk1l, PL.x_pk1d, PL.x_pk1i, PL.x_pkF, PL.x_un1, PL.x_un, PL.x_truF, PL.x_bOf, PL.x_tstF, PL.x_notT, PL.x_bin1, PL.x_bin, PL.x_bp3, PL.x_bp2, PL.x_bp1, PL.x_binP, PL.x_andT, PL.x_orT, PL.x_and1t, PL.x_and1f, PL.x_or1t, PL.x_or1f, PL.x_andV, PL.x_orV, PL.x_andV1t, PL.x_andV1f, PL.x_orV1t, PL.x_orV1f, PL.x_ifE, PL.x_ifE1t, PL.x_ifE1f, PL.x_chainD, PL.x_ch1, PL.x_ch2, PL.x_ch3t, PL.x_ch3f, PL.x_nilA, PL.x_consA, PL.x_cons1, PL.x_cons2, PL.x_few, PL.x_mk1, PL.x_tupD, PL.x_lstD, PL.x_lstO, PL.x_dctO0, PL.x_frO, PL.x_cb, PL.x_noP, PL.x_iOf, PL.x_someP, PL.x_sl31, PL.x_sl32, PL.x_sl3, PL.x_slK1, PL.x_slK, PL.x_frF, PL.x_frS1, PL.x_frS2, PL.x_frS3, PL.x_cal1, PL.x_callF, PL.x_callO, PL.x_FMof, PL.x_cm1, PL.x_cm2, PL.x_cm3, PL.x_callM, PL.x_FMO, PL.x_cmo1, PL.x_cmo2, PL.x_callMO, PL.x_frzR, PL.x_itF, PL.x_rngF, PL.x_OLof, PL.x_lc2, PL.x_lc1, PL.x_lcO, PL.x_cat1, PL.x_catO, PL.x_cp1, PL.x_cp2, PL.x_cp3, PL.x_catPO, PL.x_SBn, PL.x_SBr, PL.x_skipS, PL.x_badS, PL.x_seqS, PL.x_nxO, PL.x_set1, PL.x_setS, PL.x_setO1f, PL.x_setO1l, PL.x_setO1d, PL.x_setOS, PL.x_ret1, PL.x_retO1, PL.x_exp1, PL.x_retS, PL.x_retOS, PL.x_exprS, PL.x_ifS, PL.x_if1t, PL.x_if1f, PL.x_asg1, PL.x_asgS, PL.x_argsP0, PL.x_ap1f, PL.x_ap1l, PL.x_ap1d, PL.x_ap2, PL.x_argsP, PL.x_par1, PL.x_parP, PL.x_putP0, PL.x_pp1, PL.x_putP, PL.x_app1, PL.x_app2, PL.x_nxB, PL.x_app3, PL.x_appS, PL.x_dp1, PL.x_dp2, PL.x_dp3, PL.x_dp4, PL.x_dputS, PL.x_keyI, PL.x_keyS, PL.x_up1, PL.x_up2, PL.x_up3, PL.x_updS, PL.x_for1, PL.x_forS, PL.x_RTr, PL.x_RTn, PL.x_rf1, PL.x_runF, PL.x_RMr, PL.x_RMn, PL.x_MIo, PL.x_ioOf, PL.x_rm1, PL.x_runM, PL.x_putR, PL.x_putR0f, PL.x_putR0l, PL.x_putR0d, PL.x_putR0n, PL.x_noIof, PL.x_noIol, PL.x_noIod, PL.x_noIon, PL.x_tgN, PL.x_tgT, PL.x_putAll0, PL.x_pa1, PL.x_putAll, PL.x_dAt, PL.x_dSlo, PL.x_dSli, PL.x_dPut, PL.x_dPuo, PL.x_dPui, PL.x_lAt, PL.x_lSl, PL.x_envOf, PL.x_envM, PL.x_toDl, PL.x_toDd, PL.x_toDf, PL.x_nof, PL.x_nol, PL.x_nod, PL.x_okW, PL.x_wipe0, PL.x_wipe, PL.x_yesT, PL.n_add, PL.n_mul, PL.n_mod, PL.n_div, PL.n_sub, PL.n_lt, PL.n_le, PL.n_eq, PL.d_t, PL.d_f, PL.y_add, PL.y_sub, PL.y_mod, PL.y_div, PL.y_mulL, PL.y_mulR, PL.y_lt, PL.y_le, PL.y_gt, PL.y_ge, PL.y_cmp, PL.y_eq, PL.y_ne, PL.y_int, PL.y_notD, PL.y_truB, PL.y_neg, PL.y_isi_n, PL.y_isi_b, PL.y_isi_i, PL.y_isi_s, PL.y_isi_l, PL.y_isi_t, PL.y_isi_d, PL.y_isi_c, PL.l_len, PL.l_lenT, PL.l_it, PL.l_itT, PL.l_tuple, PL.l_list, PL.l_listL, PL.l_ix, PL.l_ixT, PL.l_sum, PL.l_eq, PL.l_ne, PL.l_eq0, PL.l_ne0, PL.l_eqT, PL.l_in, PL.l_nin, PL.l_cat, PL.l_catT, PL.l_stp, PL.l_rng1, PL.l_rng2, PL.x_fb, PL.x_fb1, PL.l_eq00, PL.l_ne00, PL.l_eq01, PL.l_ne01, PL.l_lenS, PL.x_ODof, PL.x_dc2, PL.x_dc1, PL.x_dcO, PL.l_nin_tk, PL.l_in_tk, PL.l_min, PL.l_slT, PL.l_slL, PL.l_rng3, PL.x_rgl2, PL.x_rgl1, PL.x_rgList, PL.x_rgTup, PL.x_gp3, PL.x_gp2, PL.x_gp1, PL.x_getP, PL.x_mt2, PL.x_mt1, PL.x_meth1, PL.l_isL, PL.x_XRo, PL.x_XRe, PL.x_calX, PL.x_calXe, PL.x_callX, PL.x_rai1, PL.x_rai, PL.x_try3, PL.x_try2, PL.x_try2f, PL.x_try1, PL.x_try1r, PL.x_try1n, PL.x_tryR, PL.x_exu1, PL.x_exb1, PL.x_exc1, PL.x_exc2, PL.x_exm1, PL.x_exSB, PL.x_exr1, PL.x_exe1, PL.x_exi1, PL.x_exRT, PL.x_OL2, PL.x_l2b, PL.x_l2a, PL.x_lc2O, PL.l_enumT, PL.l_enumL, List.getElem?_cons_zero, List.getElem?_cons_succ, List.set_cons_zero, List.set_cons_succ, List.length_cons, List.length_nil, List.map_cons, List.map_nil, List.replicate_succ, List.replicate_zero, List.cons_append, List.nil_append, Nat.zero_add, Nat.add_zero, Nat.reduceAdd, Nat.reduceSub, Nat.reduceMul, Nat.reduceLT, Nat.reduceEqDiff, Bool.not_true, Bool.not_false, Bool.true_and, Bool.false_and, Bool.and_true, Bool.and_false, Bool.true_or, Bool.false_or, Bool.or_true, Bool.or_false, List.all_cons, List.all_nil, PL.nl_len, List.length_map, List.length_range, isiT, tyD, Option.map_some, Option.map_none, ne_eq, not_false_eq_true, not_true_eq_false, decide_true, decide_false, eq_self, implies_true, gt_iff_lt, ge_iff_le, m_law, b_law, l_lenS, hq2, hq3]
  refine rt_for (fun k ρ => ∃ (e1 e2 e3 e4 e5 : Option Sl), ρ = [V (.scr ns), e1, e2, e3, e4, e5]) ⟨none, none, none, none, none, rfl⟩ ?_ ?_
  · rintro i t ρ hi ⟨e1, e2, e3, e4, e5, rfl⟩
    have hi2 := List.getElem?_eq_some_iff.mp hi
    have hil := hi2.1
    rw [List.length_range] at hil
    have ht : t = i := by
      have := hi2.2
      rw [List.getElem_range] at this
      omega
    subst ht
    obtain ⟨cs, l, sd, hc, hsd, hb⟩ := begun2_ok ns hn t (by omega)
    obtain ⟨b, l1, p1, h1, hbm, q1⟩ := of2_nl (l := l) (sd := sd) (p := 0) (ns := [2, 3, 10, 12, 60]) hc hsd (by omega) (fun z => nomatch z) (by decide)
    obtain ⟨n, l2, p2, h2, hnm, q2⟩ := of2_nl (l := l1) (sd := sd) (p := p1) (ns := [1, 7, 12, 21, 40, 81]) hc hsd (by omega) (fun z => nomatch z) (by decide)
    have h1' : m__law_of (ms2 l sd cs (0 : Nat)) [.lst [.int (2 : Nat), .int (3 : Nat), .int (10 : Nat), .int (12 : Nat), .int (60 : Nat)]] = .ok (.fr (.int (b : Nat))) (ms2 l1 sd cs p1) := h1
    have h2' : m__law_of (ms2 l1 sd cs p1) [.lst [.int (1 : Nat), .int (7 : Nat), .int (12 : Nat), .int (21 : Nat), .int (40 : Nat), .int (81 : Nat)]] = .ok (.fr (.int (n : Nat))) (ms2 l2 sd cs p2) := h2
    have r1 := periods_right hbm hnm
    have r2 := others_right hbm hnm
    obtain ⟨_, f1, e6, rfl⟩ := for_nl (tg := tgN 3) (bd := ifS (orT (notT (truF (callF m__law_periods_right (consA (var 4) (consA (var 5) (nilA)))))) (notT (truF (callF m__law_others_right (consA (var 4) (consA (var 5) (nilA))))))) (retS (cst (.bl false))) (skipS)) (ns := List.range 2) (ρ := [V (.scr ns), I t, some (.od (ms2 l2 sd cs p2)), e3, I b, I n]) (fun _ ρ => ∃ e, ρ = [V (.scr ns), I t, some (.od (ms2 l2 sd cs p2)), e, I b, I n]) ⟨e3, rfl⟩ (by
      rintro i x ρ _ ⟨e, rfl⟩
      exact ⟨[V (.scr ns), I t, some (.od (ms2 l2 sd cs p2)), I x, I b, I n], by simp -implicitDefEqProofs (disch := (first | omega | assumption)) only [PL.x_Rof, PL.x_cst, PL.x_var, PL.x_var1f, PL.x_var1l, PL.x_var1d, PL.x_pk, PL.x_pk1f, PL.x_pk1l, PL.x_pk1d, PL.x_pk1i, PL.x_pkF, PL.x_un1, PL.x_un, PL.x_truF, PL.x_bOf, PL.x_tstF, PL.x_notT, PL.x_bin1, PL.x_bin, PL.x_bp3, PL.x_bp2, PL.x_bp1, PL.x_binP, PL.x_andT, PL.x_orT, PL.x_and1t, PL.x_and1f, PL.x_or1t, PL.x_or1f, PL.x_andV, PL.x_orV, PL.x_andV1t, PL.x_andV1f, PL.x_orV1t, PL.x_orV1f, PL.x_ifE, PL.x_ifE1t, PL.x_ifE1f, PL.x_chainD, PL.x_ch1, PL.x_ch2, PL.x_ch3t, PL.x_ch3f, PL.x_nilA, PL.x_consA, PL.x_cons1, PL.x_cons2, PL.x_few, PL.x_mk1, PL.x_tupD, PL.x_lstD, PL.x_lstO, PL.x_dctO0, PL.x_frO, PL.x_cb, PL.x_noP, PL.x_iOf, PL.x_someP, PL.x_sl31, PL.x_sl32, PL.x_sl3, PL.x_slK1, PL.x_slK, PL.x_frF, PL.x_frS1, PL.x_frS2, PL.x_frS3, PL.x_cal1, PL.x_callF, PL.x_callO, PL.x_FMof, PL.x_cm1, PL.x_cm2, PL.x_cm3, PL.x_callM, PL.x_FMO, PL.x_cmo1, PL.x_cmo2, PL.x_callMO, PL.x_frzR, PL.x_itF, PL.x_rngF, PL.x_OLof, PL.x_lc2, PL.x_lc1, PL.x_lcO, PL.x_cat1, PL.x_catO, PL.x_cp1, PL.x_cp2, PL.x_cp3, PL.x_catPO, PL.x_SBn, PL.x_SBr, PL.x_skipS, PL.x_badS, PL.x_seqS, PL.x_nxO, PL.x_set1, PL.x_setS, PL.x_setO1f, PL.x_setO1l, PL.x_setO1d, PL.x_setOS, PL.x_ret1, PL.x_retO1, PL.x_exp1, PL.x_retS, PL.x_retOS, PL.x_exprS, PL.x_ifS, PL.x_if1t, PL.x_if1f, PL.x_asg1, PL.x_asgS, PL.x_argsP0, PL.x_ap1f, PL.x_ap1l, PL.x_ap1d, PL.x_ap2, PL.x_argsP, PL.x_par1, PL.x_parP, PL.x_putP0, PL.x_pp1, PL.x_putP, PL.x_app1, PL.x_app2, PL.x_nxB, PL.x_app3, PL.x_appS, PL.x_dp1, PL.x_dp2, PL.x_dp3, PL.x_dp4, PL.x_dputS, PL.x_keyI, PL.x_keyS, PL.x_up1, PL.x_up2, PL.x_up3, PL.x_updS, PL.x_for1, PL.x_forS, PL.x_RTr, PL.x_RTn, PL.x_rf1, PL.x_runF, PL.x_RMr, PL.x_RMn, PL.x_MIo, PL.x_ioOf, PL.x_rm1, PL.x_runM, PL.x_putR, PL.x_putR0f, PL.x_putR0l, PL.x_putR0d, PL.x_putR0n, PL.x_noIof, PL.x_noIol, PL.x_noIod, PL.x_noIon, PL.x_tgN, PL.x_tgT, PL.x_putAll0, PL.x_pa1, PL.x_putAll, PL.x_dAt, PL.x_dSlo, PL.x_dSli, PL.x_dPut, PL.x_dPuo, PL.x_dPui, PL.x_lAt, PL.x_lSl, PL.x_envOf, PL.x_envM, PL.x_toDl, PL.x_toDd, PL.x_toDf, PL.x_nof, PL.x_nol, PL.x_nod, PL.x_okW, PL.x_wipe0, PL.x_wipe, PL.x_yesT, PL.n_add, PL.n_mul, PL.n_mod, PL.n_div, PL.n_sub, PL.n_lt, PL.n_le, PL.n_eq, PL.d_t, PL.d_f, PL.y_add, PL.y_sub, PL.y_mod, PL.y_div, PL.y_mulL, PL.y_mulR, PL.y_lt, PL.y_le, PL.y_gt, PL.y_ge, PL.y_cmp, PL.y_eq, PL.y_ne, PL.y_int, PL.y_notD, PL.y_truB, PL.y_neg, PL.y_isi_n, PL.y_isi_b, PL.y_isi_i, PL.y_isi_s, PL.y_isi_l, PL.y_isi_t, PL.y_isi_d, PL.y_isi_c, PL.l_len, PL.l_lenT, PL.l_it, PL.l_itT, PL.l_tuple, PL.l_list, PL.l_listL, PL.l_ix, PL.l_ixT, PL.l_sum, PL.l_eq, PL.l_ne, PL.l_eq0, PL.l_ne0, PL.l_eqT, PL.l_in, PL.l_nin, PL.l_cat, PL.l_catT, PL.l_stp, PL.l_rng1, PL.l_rng2, PL.x_fb, PL.x_fb1, PL.l_eq00, PL.l_ne00, PL.l_eq01, PL.l_ne01, PL.l_lenS, PL.x_ODof, PL.x_dc2, PL.x_dc1, PL.x_dcO, PL.l_nin_tk, PL.l_in_tk, PL.l_min, PL.l_slT, PL.l_slL, PL.l_rng3, PL.x_rgl2, PL.x_rgl1, PL.x_rgList, PL.x_rgTup, PL.x_gp3, PL.x_gp2, PL.x_gp1, PL.x_getP, PL.x_mt2, PL.x_mt1, PL.x_meth1, PL.l_isL, PL.x_XRo, PL.x_XRe, PL.x_calX, PL.x_calXe, PL.x_callX, PL.x_rai1, PL.x_rai, PL.x_try3, PL.x_try2, PL.x_try2f, PL.x_try1, PL.x_try1r, PL.x_try1n, PL.x_tryR, PL.x_exu1, PL.x_exb1, PL.x_exc1, PL.x_exc2, PL.x_exm1, PL.x_exSB, PL.x_exr1, PL.x_exe1, PL.x_exi1, PL.x_exRT, PL.x_OL2, PL.x_l2b, PL.x_l2a, PL.x_lc2O, PL.l_enumT, PL.l_enumL, List.getElem?_cons_zero, List.getElem?_cons_succ, List.set_cons_zero, List.set_cons_succ, List.length_cons, List.length_nil, List.map_cons, List.map_nil, List.replicate_succ, List.replicate_zero, List.cons_append, List.nil_append, Nat.zero_add, Nat.add_zero, Nat.reduceAdd, Nat.reduceSub, Nat.reduceMul, Nat.reduceLT, Nat.reduceEqDiff, Bool.not_true, Bool.not_false, Bool.true_and, Bool.false_and, Bool.and_true, Bool.and_false, Bool.true_or, Bool.false_or, Bool.or_true, Bool.or_false, List.all_cons, List.all_nil, PL.nl_len, List.length_map, List.length_range, isiT, tyD, Option.map_some, Option.map_none, ne_eq, not_false_eq_true, not_true_eq_false, decide_true, decide_false, eq_self, implies_true, gt_iff_lt, ge_iff_le, x_fb, x_fb1, r1, r2], _, rfl⟩)
    refine ⟨[V (.scr ns), I t, some (.od (ms2 l2 sd cs p2)), e6, I b, I n], ?_, _, _, _, _, _, rfl⟩
    simp -implicitDefEqProofs (disch := (first | omega | assumption)) only [PL.x_Rof, PL.x_cst, PL.x_var, PL.x_var1f, PL.x_var1l, PL.x_var1d, PL.x_pk, PL.x_pk1f, PL.x_pk1l, PL.x_pk1d, PL.x_pk1i, PL.x_pkF, PL.x_un1, PL.x_un, PL.x_truF, PL.x_bOf, PL.x_tstF, PL.x_notT, PL.x_bin1, PL.x_bin, PL.x_bp3, PL.x_bp2, PL.x_bp1, PL.x_binP, PL.x_andT, PL.x_orT, PL.x_and1t, PL.x_and1f, PL.x_or1t, PL.x_or1f, PL.x_andV, PL.x_orV, PL.x_andV1t, PL.x_andV1f, PL.x_orV1t, PL.x_orV1f, PL.x_ifE, PL.x_ifE1t, PL.x_ifE1f, PL.x_chainD, PL.x_ch1, PL.x_ch2, PL.x_ch3t, PL.x_ch3f, PL.x_nilA, PL.x_consA, PL.x_cons1, PL.x_cons2, PL.x_few, PL.x_mk1, PL.x_tupD, PL.x_lstD, PL.x_lstO, PL.x_dctO0, PL.x_frO, PL.x_cb, PL.x_noP, PL.x_iOf, PL.x_someP, PL.x_sl31, PL.x_sl32, PL.x_sl3, PL.x_slK1, PL.x_slK, PL.x_frF, PL.x_frS1, PL.x_frS2, PL.x_frS3, PL.x_cal1, PL.x_callF, PL.x_callO, PL.x_FMof, PL.x_cm1, PL.x_cm2, PL.x_cm3, PL.x_callM, PL.x_FMO, PL.x_cmo1, PL.x_cmo2, PL.x_callMO, PL.x_frzR, PL.x_itF, PL.x_rngF, PL.x_OLof, PL.x_lc2, PL.x_lc1, PL.x_lcO, PL.x_cat1, PL.x_catO, PL.x_cp1, PL.x_cp2, PL.x_cp3, PL.x_catPO, PL.x_SBn, PL.x_SBr, PL.x_skipS, PL.x_badS, PL.x_seqS, PL.x_nxO, PL.x_set1, PL.x_setS, PL.x_setO1f, PL.x_setO1l, PL.x_setO1d, PL.x_setOS, PL.x_ret1, PL.x_retO1, PL.x_exp1, PL.x_retS, PL.x_retOS, PL.x_exprS, PL.x_ifS, PL.x_if1t, PL.x_if1f, PL.x_asg1, PL.x_asgS, PL.x_argsP0, PL.x_ap1f, PL.x_ap1l, PL.x_ap1d, PL.x_ap2, PL.x_argsP, PL.x_par1, PL.x_parP, PL.x_putP0, PL.x_pp1, PL.x_putP, PL.x_app1, PL.x_app2, PL.x_nxB, PL.x_app3, PL.x_appS, PL.x_dp1, PL.x_dp2, PL.x_dp3, PL.x_dp4, PL.x_dputS, PL.x_keyI, PL.x_keyS, PL.x_up1, PL.x_up2, PL.x_up3, PL.x_updS, PL.x_for1, PL.x_forS, PL.x_RTr, PL.x_RTn, PL.x_rf1, PL.x_runF, PL.x_RMr, PL.x_RMn, PL.x_MIo, PL.x_ioOf, PL.x_rm1, PL.x_runM, PL.x_putR, PL.x_putR0f, PL.x_putR0l, PL.x_putR0d, PL.x_putR0n, PL.x_noIof, PL.x_noIol, PL.x_noIod, PL.x_noIon, PL.x_tgN, PL.x_tgT, PL.x_putAll0, PL.x_pa1, PL.x_putAll, PL.x_dAt, PL.x_dSlo, PL.x_dSli, PL.x_dPut, PL.x_dPuo, PL.x_dPui, PL.x_lAt, PL.x_lSl, PL.x_envOf, PL.x_envM, PL.x_toDl, PL.x_toDd, PL.x_toDf, PL.x_nof, PL.x_nol, PL.x_nod, PL.x_okW, PL.x_wipe0, PL.x_wipe, PL.x_yesT, PL.n_add, PL.n_mul, PL.n_mod, PL.n_div, PL.n_sub, PL.n_lt, PL.n_le, PL.n_eq, PL.d_t, PL.d_f, PL.y_add, PL.y_sub, PL.y_mod, PL.y_div, PL.y_mulL, PL.y_mulR, PL.y_lt, PL.y_le, PL.y_gt, PL.y_ge, PL.y_cmp, PL.y_eq, PL.y_ne, PL.y_int, PL.y_notD, PL.y_truB, PL.y_neg, PL.y_isi_n, PL.y_isi_b, PL.y_isi_i, PL.y_isi_s, PL.y_isi_l, PL.y_isi_t, PL.y_isi_d, PL.y_isi_c, PL.l_len, PL.l_lenT, PL.l_it, PL.l_itT, PL.l_tuple, PL.l_list, PL.l_listL, PL.l_ix, PL.l_ixT, PL.l_sum, PL.l_eq, PL.l_ne, PL.l_eq0, PL.l_ne0, PL.l_eqT, PL.l_in, PL.l_nin, PL.l_cat, PL.l_catT, PL.l_stp, PL.l_rng1, PL.l_rng2, PL.x_fb, PL.x_fb1, PL.l_eq00, PL.l_ne00, PL.l_eq01, PL.l_ne01, PL.l_lenS, PL.x_ODof, PL.x_dc2, PL.x_dc1, PL.x_dcO, PL.l_nin_tk, PL.l_in_tk, PL.l_min, PL.l_slT, PL.l_slL, PL.l_rng3, PL.x_rgl2, PL.x_rgl1, PL.x_rgList, PL.x_rgTup, PL.x_gp3, PL.x_gp2, PL.x_gp1, PL.x_getP, PL.x_mt2, PL.x_mt1, PL.x_meth1, PL.l_isL, PL.x_XRo, PL.x_XRe, PL.x_calX, PL.x_calXe, PL.x_callX, PL.x_rai1, PL.x_rai, PL.x_try3, PL.x_try2, PL.x_try2f, PL.x_try1, PL.x_try1r, PL.x_try1n, PL.x_tryR, PL.x_exu1, PL.x_exb1, PL.x_exc1, PL.x_exc2, PL.x_exm1, PL.x_exSB, PL.x_exr1, PL.x_exe1, PL.x_exi1, PL.x_exRT, PL.x_OL2, PL.x_l2b, PL.x_l2a, PL.x_lc2O, PL.l_enumT, PL.l_enumL, List.getElem?_cons_zero, List.getElem?_cons_succ, List.set_cons_zero, List.set_cons_succ, List.length_cons, List.length_nil, List.map_cons, List.map_nil, List.replicate_succ, List.replicate_zero, List.cons_append, List.nil_append, Nat.zero_add, Nat.add_zero, Nat.reduceAdd, Nat.reduceSub, Nat.reduceMul, Nat.reduceLT, Nat.reduceEqDiff, Bool.not_true, Bool.not_false, Bool.true_and, Bool.false_and, Bool.and_true, Bool.and_false, Bool.true_or, Bool.false_or, Bool.or_true, Bool.or_false, List.all_cons, List.all_nil, PL.nl_len, List.length_map, List.length_range, isiT, tyD, Option.map_some, Option.map_none, ne_eq, not_false_eq_true, not_true_eq_false, decide_true, decide_false, eq_self, implies_true, gt_iff_lt, ge_iff_le, x_fb, x_fb1, hb, h1', h2', f1]
  · rintro ρ ⟨e1, e2, e3, e4, e5, rfl⟩
    simp -implicitDefEqProofs (disch := (first | omega | assumption)) only [PL.x_Rof, PL.x_cst, PL.x_var, PL.x_var1f, PL.x_var1l, PL.x_var1d, PL.x_pk, PL.x_pk1f, PL.x_pk1l, PL.x_pk1d, PL.x_pk1i, PL.x_pkF, PL.x_un1, PL.x_un, PL.x_truF, PL.x_bOf, PL.x_tstF, PL.x_notT, PL.x_bin1, PL.x_bin, PL.x_bp3, PL.x_bp2, PL.x_bp1, PL.x_binP, PL.x_andT, PL.x_orT, PL.x_and1t, PL.x_and1f, PL.x_or1t, PL.x_or1f, PL.x_andV, PL.x_orV, PL.x_andV1t, PL.x_andV1f, PL.x_orV1t, PL.x_orV1f, PL.x_ifE, PL.x_ifE1t, PL.x_ifE1f, PL.x_chainD, PL.x_ch1, PL.x_ch2, PL.x_ch3t, PL.x_ch3f, PL.x_nilA, PL.x_consA, PL.x_cons1, PL.x_cons2, PL.x_few, PL.x_mk1, PL.x_tupD, PL.x_lstD, PL.x_lstO, PL.x_dctO0, PL.x_frO, PL.x_cb, PL.x_noP, PL.x_iOf, PL.x_someP, PL.x_sl31, PL.x_sl32, PL.x_sl3, PL.x_slK1, PL.x_slK, PL.x_frF, PL.x_frS1, PL.x_frS2, PL.x_frS3, PL.x_cal1, PL.x_callF, PL.x_callO, PL.x_FMof, PL.x_cm1, PL.x_cm2, PL.x_cm3, PL.x_callM, PL.x_FMO, PL.x_cmo1, PL.x_cmo2, PL.x_callMO, PL.x_frzR, PL.x_itF, PL.x_rngF, PL.x_OLof, PL.x_lc2, PL.x_lc1, PL.x_lcO, PL.x_cat1, PL.x_catO, PL.x_cp1, PL.x_cp2, PL.x_cp3, PL.x_catPO, PL.x_SBn, PL.x_SBr, PL.x_skipS, PL.x_badS, PL.x_seqS, PL.x_nxO, PL.x_set1, PL.x_setS, PL.x_setO1f, PL.x_setO1l, PL.x_setO1d, PL.x_setOS, PL.x_ret1, PL.x_retO1, PL.x_exp1, PL.x_retS, PL.x_retOS, PL.x_exprS, PL.x_ifS, PL.x_if1t, PL.x_if1f, PL.x_asg1, PL.x_asgS, PL.x_argsP0, PL.x_ap1f, PL.x_ap1l, PL.x_ap1d, PL.x_ap2, PL.x_argsP, PL.x_par1, PL.x_parP, PL.x_putP0, PL.x_pp1, PL.x_putP, PL.x_app1, PL.x_app2, PL.x_nxB, PL.x_app3, PL.x_appS, PL.x_dp1, PL.x_dp2, PL.x_dp3, PL.x_dp4, PL.x_dputS, PL.x_keyI, PL.x_keyS, PL.x_up1, PL.x_up2, PL.x_up3, PL.x_updS, PL.x_for1, PL.x_forS, PL.x_RTr, PL.x_RTn, PL.x_rf1, PL.x_runF, PL.x_RMr, PL.x_RMn, PL.x_MIo, PL.x_ioOf, PL.x_rm1, PL.x_runM, PL.x_putR, PL.x_putR0f, PL.x_putR0l, PL.x_putR0d, PL.x_putR0n, PL.x_noIof, PL.x_noIol, PL.x_noIod, PL.x_noIon, PL.x_tgN, PL.x_tgT, PL.x_putAll0, PL.x_pa1, PL.x_putAll, PL.x_dAt, PL.x_dSlo, PL.x_dSli, PL.x_dPut, PL.x_dPuo, PL.x_dPui, PL.x_lAt, PL.x_lSl, PL.x_envOf, PL.x_envM, PL.x_toDl, PL.x_toDd, PL.x_toDf, PL.x_nof, PL.x_nol, PL.x_nod, PL.x_okW, PL.x_wipe0, PL.x_wipe, PL.x_yesT, PL.n_add, PL.n_mul, PL.n_mod, PL.n_div, PL.n_sub, PL.n_lt, PL.n_le, PL.n_eq, PL.d_t, PL.d_f, PL.y_add, PL.y_sub, PL.y_mod, PL.y_div, PL.y_mulL, PL.y_mulR, PL.y_lt, PL.y_le, PL.y_gt, PL.y_ge, PL.y_cmp, PL.y_eq, PL.y_ne, PL.y_int, PL.y_notD, PL.y_truB, PL.y_neg, PL.y_isi_n, PL.y_isi_b, PL.y_isi_i, PL.y_isi_s, PL.y_isi_l, PL.y_isi_t, PL.y_isi_d, PL.y_isi_c, PL.l_len, PL.l_lenT, PL.l_it, PL.l_itT, PL.l_tuple, PL.l_list, PL.l_listL, PL.l_ix, PL.l_ixT, PL.l_sum, PL.l_eq, PL.l_ne, PL.l_eq0, PL.l_ne0, PL.l_eqT, PL.l_in, PL.l_nin, PL.l_cat, PL.l_catT, PL.l_stp, PL.l_rng1, PL.l_rng2, PL.x_fb, PL.x_fb1, PL.l_eq00, PL.l_ne00, PL.l_eq01, PL.l_ne01, PL.l_lenS, PL.x_ODof, PL.x_dc2, PL.x_dc1, PL.x_dcO, PL.l_nin_tk, PL.l_in_tk, PL.l_min, PL.l_slT, PL.l_slL, PL.l_rng3, PL.x_rgl2, PL.x_rgl1, PL.x_rgList, PL.x_rgTup, PL.x_gp3, PL.x_gp2, PL.x_gp1, PL.x_getP, PL.x_mt2, PL.x_mt1, PL.x_meth1, PL.l_isL, PL.x_XRo, PL.x_XRe, PL.x_calX, PL.x_calXe, PL.x_callX, PL.x_rai1, PL.x_rai, PL.x_try3, PL.x_try2, PL.x_try2f, PL.x_try1, PL.x_try1r, PL.x_try1n, PL.x_tryR, PL.x_exu1, PL.x_exb1, PL.x_exc1, PL.x_exc2, PL.x_exm1, PL.x_exSB, PL.x_exr1, PL.x_exe1, PL.x_exi1, PL.x_exRT, PL.x_OL2, PL.x_l2b, PL.x_l2a, PL.x_lc2O, PL.l_enumT, PL.l_enumL, List.getElem?_cons_zero, List.getElem?_cons_succ, List.set_cons_zero, List.set_cons_succ, List.length_cons, List.length_nil, List.map_cons, List.map_nil, List.replicate_succ, List.replicate_zero, List.cons_append, List.nil_append, Nat.zero_add, Nat.add_zero, Nat.reduceAdd, Nat.reduceSub, Nat.reduceMul, Nat.reduceLT, Nat.reduceEqDiff, Bool.not_true, Bool.not_false, Bool.true_and, Bool.false_and, Bool.and_true, Bool.and_false, Bool.true_or, Bool.false_or, Bool.or_true, Bool.or_false, List.all_cons, List.all_nil, PL.nl_len, List.length_map, List.length_range, isiT, tyD, Option.map_some, Option.map_none, ne_eq, not_false_eq_true, not_true_eq_false, decide_true, decide_false, eq_self, implies_true, gt_iff_lt, ge_iff_le, hand_ok]
end LAW

section
open PySem PySem.Spec PyProof.Rows L2 DW
namespace LAW
def dd_is_integer : He.DefD := ⟨("is_integer", none), "is_integer", "is_integer", defArgs st_is_integer, defBody st_is_integer, defScope st_is_integer, [], []⟩
def dd_is_whole : He.DefD := ⟨("is_whole", none), "is_whole", "is_whole", defArgs st_is_whole, defBody st_is_whole, defScope st_is_whole, [], []⟩
def dd_need_base : He.DefD := ⟨("need_base", none), "need_base", "need_base", defArgs st_need_base, defBody st_need_base, defScope st_need_base, [], []⟩
def dd_prime_powers : He.DefD := ⟨("prime_powers", none), "prime_powers", "prime_powers", defArgs st_prime_powers, defBody st_prime_powers, defScope st_prime_powers, [], []⟩
def dd_primes_of : He.DefD := ⟨("primes_of", none), "primes_of", "primes_of", defArgs st_primes_of, defBody st_primes_of, defScope st_primes_of, [], []⟩
def dd_need_length : He.DefD := ⟨("need_length", none), "need_length", "need_length", defArgs st_need_length, defBody st_need_length, defScope st_need_length, [], []⟩
def dd_common_divisor : He.DefD := ⟨("common_divisor", none), "common_divisor", "common_divisor", defArgs st_common_divisor, defBody st_common_divisor, defScope st_common_divisor, [], []⟩
def dd_is_pure : He.DefD := ⟨("is_pure", none), "is_pure", "is_pure", defArgs st_is_pure, defBody st_is_pure, defScope st_is_pure, [], []⟩
def dd_power_rest : He.DefD := ⟨("power_rest", none), "power_rest", "power_rest", defArgs st_power_rest, defBody st_power_rest, defScope st_power_rest, [], []⟩
def dd_has_length : He.DefD := ⟨("has_length", none), "has_length", "has_length", defArgs st_has_length, defBody st_has_length, defScope st_has_length, [], []⟩
def dd_need_most : He.DefD := ⟨("need_most", none), "need_most", "need_most", defArgs st_need_most, defBody st_need_most, defScope st_need_most, [], []⟩
def dd_denominators_with : He.DefD := ⟨("denominators_with", none), "denominators_with", "denominators_with", defArgs st_denominators_with, defBody st_denominators_with, defScope st_denominators_with, [], []⟩
def dd_power : He.DefD := ⟨("power", none), "power", "power", defArgs st_power, defBody st_power, defScope st_power, [], []⟩
def dd_need_between : He.DefD := ⟨("need_between", none), "need_between", "need_between", defArgs st_need_between, defBody st_need_between, defScope st_need_between, [], []⟩
def dd_need_weight : He.DefD := ⟨("need_weight", none), "need_weight", "need_weight", defArgs st_need_weight, defBody st_need_weight, defScope st_need_weight, [], []⟩
def dd_block_sum : He.DefD := ⟨("block_sum", none), "block_sum", "block_sum", defArgs st_block_sum, defBody st_block_sum, defScope st_block_sum, [], []⟩
def dd_need_denominator : He.DefD := ⟨("need_denominator", none), "need_denominator", "need_denominator", defArgs st_need_denominator, defBody st_need_denominator, defScope st_need_denominator, [], []⟩
def dd_head_size : He.DefD := ⟨("head_size", none), "head_size", "head_size", defArgs st_head_size, defBody st_head_size, defScope st_head_size, [], []⟩
def dd_pure_part_of : He.DefD := ⟨("pure_part_of", none), "pure_part_of", "pure_part_of", defArgs st_pure_part_of, defBody st_pure_part_of, defScope st_pure_part_of, [], []⟩
def dd_period_of : He.DefD := ⟨("period_of", none), "period_of", "period_of", defArgs st_period_of, defBody st_period_of, defScope st_period_of, [], []⟩
def dd_remainders_of : He.DefD := ⟨("remainders_of", none), "remainders_of", "remainders_of", defArgs st_remainders_of, defBody st_remainders_of, defScope st_remainders_of, [], []⟩
def dd_exponents_in : He.DefD := ⟨("exponents_in", none), "exponents_in", "exponents_in", defArgs st_exponents_in, defBody st_exponents_in, defScope st_exponents_in, [], []⟩
def dd_exponents : He.DefD := ⟨("exponents", none), "exponents", "exponents", defArgs st_exponents, defBody st_exponents, defScope st_exponents, [], []⟩
def dd_keeps_remainders : He.DefD := ⟨("keeps_remainders", none), "keeps_remainders", "keeps_remainders", defArgs st_keeps_remainders, defBody st_keeps_remainders, defScope st_keeps_remainders, [], []⟩
def dd_common_multiple : He.DefD := ⟨("common_multiple", none), "common_multiple", "common_multiple", defArgs st_common_multiple, defBody st_common_multiple, defScope st_common_multiple, [], []⟩
def dd_greatest_of : He.DefD := ⟨("greatest_of", none), "greatest_of", "greatest_of", defArgs st_greatest_of, defBody st_greatest_of, defScope st_greatest_of, [], []⟩
def dd_length_of : He.DefD := ⟨("length_of", none), "length_of", "length_of", defArgs st_length_of, defBody st_length_of, defScope st_length_of, [], []⟩
def dd_lengths_of : He.DefD := ⟨("lengths_of", none), "lengths_of", "lengths_of", defArgs st_lengths_of, defBody st_lengths_of, defScope st_lengths_of, [], []⟩
def dd_residues_with : He.DefD := ⟨("residues_with", none), "residues_with", "residues_with", defArgs st_residues_with, defBody st_residues_with, defScope st_residues_with, [], []⟩
def dd_bases_with : He.DefD := ⟨("bases_with", none), "bases_with", "bases_with", defArgs st_bases_with, defBody st_bases_with, defScope st_bases_with, [], []⟩
def dd_lowest : He.DefD := ⟨("lowest", none), "lowest", "lowest", defArgs st_lowest, defBody st_lowest, defScope st_lowest, [], []⟩
def dd_sum_in : He.DefD := ⟨("sum_in", none), "sum_in", "sum_in", defArgs st_sum_in, defBody st_sum_in, defScope st_sum_in, [], []⟩
def dd_sum_example : He.DefD := ⟨("sum_example", none), "sum_example", "sum_example", defArgs st_sum_example, defBody st_sum_example, defScope st_sum_example, [], []⟩
def dd__law_hand_right : He.DefD := ⟨("_law_hand_right", none), "_law_hand_right", "_law_hand_right", defArgs st__law_hand_right, defBody st__law_hand_right, defScope st__law_hand_right, [], []⟩
def dd__law_begun : He.DefD := ⟨("_law_begun", none), "_law_begun", "_law_begun", defArgs st__law_begun, defBody st__law_begun, defScope st__law_begun, [], []⟩
def dd__law_draw : He.DefD := ⟨("_law_draw", none), "_law_draw", "_law_draw", defArgs st__law_draw, defBody st__law_draw, defScope st__law_draw, [], []⟩
def dd__law_of : He.DefD := ⟨("_law_of", none), "_law_of", "_law_of", defArgs st__law_of, defBody st__law_of, defScope st__law_of, [], []⟩
def dd_pairs_of : He.DefD := ⟨("pairs_of", none), "pairs_of", "pairs_of", defArgs st_pairs_of, defBody st_pairs_of, defScope st_pairs_of, [], []⟩
def dd_period_paper : He.DefD := ⟨("period_paper", none), "period_paper", "period_paper", defArgs st_period_paper, defBody st_period_paper, defScope st_period_paper, [], []⟩
def dd_spread : He.DefD := ⟨("spread", none), "spread", "spread", defArgs st_spread, defBody st_spread, defScope st_spread, [], []⟩
def dd_greatest_period : He.DefD := ⟨("greatest_period", none), "greatest_period", "greatest_period", defArgs st_greatest_period, defBody st_greatest_period, defScope st_greatest_period, [], []⟩
def dd_need_small : He.DefD := ⟨("need_small", none), "need_small", "need_small", defArgs st_need_small, defBody st_need_small, defScope st_need_small, [], []⟩
def dd_exponent_in : He.DefD := ⟨("exponent_in", none), "exponent_in", "exponent_in", defArgs st_exponent_in, defBody st_exponent_in, defScope st_exponent_in, [], []⟩
def dd_exponents_for : He.DefD := ⟨("exponents_for", none), "exponents_for", "exponents_for", defArgs st_exponents_for, defBody st_exponents_for, defScope st_exponents_for, [], []⟩
def dd_sums_of : He.DefD := ⟨("sums_of", none), "sums_of", "sums_of", defArgs st_sums_of, defBody st_sums_of, defScope st_sums_of, [], []⟩
def dd_sum_denominators : He.DefD := ⟨("sum_denominators", none), "sum_denominators", "sum_denominators", defArgs st_sum_denominators, defBody st_sum_denominators, defScope st_sum_denominators, [], []⟩
def dd_sum_periods : He.DefD := ⟨("sum_periods", none), "sum_periods", "sum_periods", defArgs st_sum_periods, defBody st_sum_periods, defScope st_sum_periods, [], []⟩
def dd_need_pure : He.DefD := ⟨("need_pure", none), "need_pure", "need_pure", defArgs st_need_pure, defBody st_need_pure, defScope st_need_pure, [], []⟩
def dd_counted : He.DefD := ⟨("counted", none), "counted", "counted", defArgs st_counted, defBody st_counted, defScope st_counted, [], []⟩
def dd_all_counts : He.DefD := ⟨("all_counts", none), "all_counts", "all_counts", defArgs st_all_counts, defBody st_all_counts, defScope st_all_counts, [], []⟩
def dd_are_pairs : He.DefD := ⟨("are_pairs", none), "are_pairs", "are_pairs", defArgs st_are_pairs, defBody st_are_pairs, defScope st_are_pairs, [], []⟩
def dd_check_period : He.DefD := ⟨("check_period", none), "check_period", "check_period", defArgs st_check_period, defBody st_check_period, defScope st_check_period, [], []⟩
def dd_is_fraction : He.DefD := ⟨("is_fraction", none), "is_fraction", "is_fraction", defArgs st_is_fraction, defBody st_is_fraction, defScope st_is_fraction, [], []⟩
def dd_need_fraction : He.DefD := ⟨("need_fraction", none), "need_fraction", "need_fraction", defArgs st_need_fraction, defBody st_need_fraction, defScope st_need_fraction, [], []⟩
def dd_sum_of : He.DefD := ⟨("sum_of", none), "sum_of", "sum_of", defArgs st_sum_of, defBody st_sum_of, defScope st_sum_of, [], []⟩
def dd_need_pure_fraction : He.DefD := ⟨("need_pure_fraction", none), "need_pure_fraction", "need_pure_fraction", defArgs st_need_pure_fraction, defBody st_need_pure_fraction, defScope st_need_pure_fraction, [], []⟩
def dd_wheel_of : He.DefD := ⟨("wheel_of", none), "wheel_of", "wheel_of", defArgs st_wheel_of, defBody st_wheel_of, defScope st_wheel_of, [], []⟩
def dd_digit_counts : He.DefD := ⟨("digit_counts", none), "digit_counts", "digit_counts", defArgs st_digit_counts, defBody st_digit_counts, defScope st_digit_counts, [], []⟩
def dd_digit_sum : He.DefD := ⟨("digit_sum", none), "digit_sum", "digit_sum", defArgs st_digit_sum, defBody st_digit_sum, defScope st_digit_sum, [], []⟩
def dd__law_periods_right : He.DefD := ⟨("_law_periods_right", none), "_law_periods_right", "_law_periods_right", defArgs st__law_periods_right, defBody st__law_periods_right, defScope st__law_periods_right, [], []⟩
def dd_exponent_paper : He.DefD := ⟨("exponent_paper", none), "exponent_paper", "exponent_paper", defArgs st_exponent_paper, defBody st_exponent_paper, defScope st_exponent_paper, [], []⟩
def dd_need_seen : He.DefD := ⟨("need_seen", none), "need_seen", "need_seen", defArgs st_need_seen, defBody st_need_seen, defScope st_need_seen, [], []⟩
def dd_does_fit : He.DefD := ⟨("does_fit", none), "does_fit", "does_fit", defArgs st_does_fit, defBody st_does_fit, defScope st_does_fit, [], []⟩
def dd_fits : He.DefD := ⟨("fits", none), "fits", "fits", defArgs st_fits, defBody st_fits, defScope st_fits, [], []⟩
def dd_fitting_in : He.DefD := ⟨("fitting_in", none), "fitting_in", "fitting_in", defArgs st_fitting_in, defBody st_fitting_in, defScope st_fitting_in, [], []⟩
def dd_digits_after : He.DefD := ⟨("digits_after", none), "digits_after", "digits_after", defArgs st_digits_after, defBody st_digits_after, defScope st_digits_after, [], []⟩
def dd_sure_digits : He.DefD := ⟨("sure_digits", none), "sure_digits", "sure_digits", defArgs st_sure_digits, defBody st_sure_digits, defScope st_sure_digits, [], []⟩
def dd_steps_of : He.DefD := ⟨("steps_of", none), "steps_of", "steps_of", defArgs st_steps_of, defBody st_steps_of, defScope st_steps_of, [], []⟩
def dd_is_balanced_by : He.DefD := ⟨("is_balanced_by", none), "is_balanced_by", "is_balanced_by", defArgs st_is_balanced_by, defBody st_is_balanced_by, defScope st_is_balanced_by, [], []⟩
def dd_wheels_in : He.DefD := ⟨("wheels_in", none), "wheels_in", "wheels_in", defArgs st_wheels_in, defBody st_wheels_in, defScope st_wheels_in, [], []⟩
def dd_holds : He.DefD := ⟨("holds", none), "holds", "holds", defArgs st_holds, defBody st_holds, defScope st_holds, [], []⟩
def dd_satisfy : He.DefD := ⟨("satisfy", none), "satisfy", "satisfy", defArgs st_satisfy, defBody st_satisfy, defScope st_satisfy, [], []⟩
def dd_is_fact : He.DefD := ⟨("is_fact", none), "is_fact", "is_fact", defArgs st_is_fact, defBody st_is_fact, defScope st_is_fact, [], []⟩
def dd_need_facts : He.DefD := ⟨("need_facts", none), "need_facts", "need_facts", defArgs st_need_facts, defBody st_need_facts, defScope st_need_facts, [], []⟩
def dd_is_satisfied : He.DefD := ⟨("is_satisfied", none), "is_satisfied", "is_satisfied", defArgs st_is_satisfied, defBody st_is_satisfied, defScope st_is_satisfied, [], []⟩
def dd_denominators_by : He.DefD := ⟨("denominators_by", none), "denominators_by", "denominators_by", defArgs st_denominators_by, defBody st_denominators_by, defScope st_denominators_by, [], []⟩
def dd_bases_by : He.DefD := ⟨("bases_by", none), "bases_by", "bases_by", defArgs st_bases_by, defBody st_bases_by, defScope st_bases_by, [], []⟩
def dd_fitting : He.DefD := ⟨("fitting", none), "fitting", "fitting", defArgs st_fitting, defBody st_fitting, defScope st_fitting, [], []⟩
def dd_simplest : He.DefD := ⟨("simplest", none), "simplest", "simplest", defArgs st_simplest, defBody st_simplest, defScope st_simplest, [], []⟩
def dd_is_right : He.DefD := ⟨("is_right", none), "is_right", "is_right", defArgs st_is_right, defBody st_is_right, defScope st_is_right, [], []⟩
def dd_check_exponent : He.DefD := ⟨("check_exponent", none), "check_exponent", "check_exponent", defArgs st_check_exponent, defBody st_check_exponent, defScope st_check_exponent, [], []⟩
def dd__law_others_right : He.DefD := ⟨("_law_others_right", none), "_law_others_right", "_law_others_right", defArgs st__law_others_right, defBody st__law_others_right, defScope st__law_others_right, [], []⟩
def dd_law : He.DefD := ⟨("law", none), "law", "law", defArgs st_law, defBody st_law, defScope st_law, [], []⟩
def fn_1 : List He.DefD := [dd_is_integer, dd_is_whole, dd_need_base, dd_prime_powers, dd_primes_of, dd_need_length, dd_common_divisor, dd_is_pure, dd_power_rest, dd_has_length, dd_need_most, dd_denominators_with, dd_power, dd_need_between, dd_need_weight, dd_block_sum, dd_need_denominator, dd_head_size, dd_pure_part_of, dd_period_of, dd_remainders_of, dd_exponents_in, dd_exponents, dd_keeps_remainders, dd_common_multiple, dd_greatest_of, dd_length_of, dd_lengths_of, dd_residues_with, dd_bases_with, dd_lowest, dd_sum_in, dd_sum_example, dd__law_hand_right, dd__law_begun, dd__law_draw, dd__law_of, dd_pairs_of, dd_period_paper, dd_spread, dd_greatest_period, dd_need_small, dd_exponent_in, dd_exponents_for, dd_sums_of]
def fn_2 : List He.DefD := [dd_sum_denominators, dd_sum_periods, dd_need_pure, dd_counted, dd_all_counts, dd_are_pairs, dd_check_period, dd_is_fraction, dd_need_fraction, dd_sum_of, dd_need_pure_fraction, dd_wheel_of, dd_digit_counts, dd_digit_sum, dd__law_periods_right, dd_exponent_paper, dd_need_seen, dd_does_fit, dd_fits, dd_fitting_in, dd_digits_after, dd_sure_digits, dd_steps_of, dd_is_balanced_by, dd_wheels_in, dd_holds, dd_satisfy, dd_is_fact, dd_need_facts, dd_is_satisfied, dd_denominators_by, dd_bases_by, dd_fitting, dd_simplest, dd_is_right, dd_check_exponent, dd__law_others_right, dd_law]
def fnL : List He.DefD := fn_1 ++ (fn_2)
def faL : List He.Fa := [.glo "is_integer", .glo "is_whole", .glo "need_base", .glo "prime_powers", .glo "primes_of", .glo "need_length", .glo "common_divisor", .glo "is_pure", .glo "power_rest", .glo "has_length", .glo "need_most", .glo "denominators_with", .glo "power", .glo "need_between", .glo "need_weight", .glo "block_sum", .glo "need_denominator", .glo "head_size", .glo "pure_part_of", .glo "period_of", .glo "remainders_of", .glo "exponents_in", .glo "exponents", .glo "keeps_remainders", .glo "common_multiple", .glo "greatest_of", .glo "length_of", .glo "lengths_of", .glo "residues_with", .glo "bases_with", .glo "lowest", .glo "sum_in", .glo "sum_example", .glo "_law_hand_right", .glo "_law_begun", .glo "_law_draw", .glo "_law_of", .glo "pairs_of", .glo "period_paper", .glo "spread", .glo "greatest_period", .glo "need_small", .glo "exponent_in", .glo "exponents_for", .glo "sums_of", .glo "sum_denominators", .glo "sum_periods", .glo "need_pure", .glo "counted", .glo "all_counts", .glo "are_pairs", .glo "check_period", .glo "is_fraction", .glo "need_fraction", .glo "sum_of", .glo "need_pure_fraction", .glo "wheel_of", .glo "digit_counts", .glo "digit_sum", .glo "_law_periods_right", .glo "exponent_paper", .glo "need_seen", .glo "does_fit", .glo "fits", .glo "fitting_in", .glo "digits_after", .glo "sure_digits", .glo "steps_of", .glo "is_balanced_by", .glo "wheels_in", .glo "holds", .glo "satisfy", .glo "is_fact", .glo "need_facts", .glo "is_satisfied", .glo "denominators_by", .glo "bases_by", .glo "fitting", .glo "simplest", .glo "is_right", .glo "check_exponent", .glo "_law_others_right", .glo "law", .free "isinstance", .free "bool", .free "int", .free "all", .free "tuple", .free "range", .free "len", .free "sorted", .free "list", .free "max", .free "zip", .free "sum", .free "repr", .free "str", .free "enumerate", .free "min", .int "MOST_BASE" 1000, .int "MOST_DENOMINATOR" 5000, .int "MOST_WEIGHT" 1000, .int "MOST_NUMBER" 1000000000000000000000000000000000000000000000000000000000000, .int "MOST_SIZE" 400, .str "EXPONENT" "exponent", .str "NEVER" "never", .int "MOST_SEEN" 20, .int "MOST_TRIED" 200, .int "MOST_SURE" 60, .str "WHEELS" "wheels", .str "POWER_facts" "power", .str "HEAD" "head", .str "PERIOD" "period", .str "BALANCED" "balanced", .int "MOST_FACTS" 10, .int "MOST_FOUND" 1000, .int "MOST_TOLD" 1000, .int "MOST_EXPONENT" 10000]
def names0 : List Str := ["WheelError", "BadBase", "BadDenominator", "BadFraction", "BadNumber", "BadPaper", "BadSeen", "BadFacts", "TooGreat", "Nothing", "MOST_BASE", "MOST_DENOMINATOR", "is_integer", "is_whole", "need_base", "need_denominator", "common_divisor", "is_fraction", "need_fraction", "lowest", "pure_part_of", "is_pure", "period_of", "head_size", "power", "power_rest", "need_pure", "need_pure_fraction", "digits_after", "steps_of"]
def names1 : List Str := ["is_balanced_by", "prime_powers", "need_length", "common_multiple", "greatest_of", "primes_of", "length_of", "lengths_of", "residues_with", "spread", "greatest_period", "bases_with", "need_small", "sum_in", "sum_of", "exponent_in", "exponents_for", "sums_of", "sum_denominators", "sum_periods", "sum_example", "MOST_SIZE", "MOST_WEIGHT", "MOST_NUMBER", "MOST_EXPONENT", "EXPONENT", "NEVER", "need_between", "need_weight", "block_sum"]
def names2 : List Str := ["keeps_remainders", "remainders_of", "exponents_in", "exponents", "exponent_paper", "is_right", "check_exponent", "wheel_of", "counted", "digit_counts", "digit_sum", "all_counts", "FORM", "POWER_lengths", "PAIRS", "need_most", "has_length", "denominators_with", "pairs_of", "period_paper", "are_pairs", "check_period", "MOST_FACTS", "MOST_FOUND", "PERIOD", "HEAD", "WHEELS", "BALANCED", "POWER_facts", "RANGES"]
def names3 : List Str := ["is_fact", "need_facts", "wheels_in", "holds", "satisfy", "is_satisfied", "denominators_by", "bases_by", "MOST_SEEN", "MOST_TRIED", "MOST_TOLD", "MOST_SURE", "need_seen", "does_fit", "fits", "fitting_in", "fitting", "simplest", "sure_digits", "_law_begun", "_law_draw", "_law_of", "_law_periods_right", "_law_others_right", "_law_hand_right"]
def names : List Str := names0 ++ names1 ++ names2 ++ names3
abbrev RR : PySem.W.OpenRow := PySem.W.OpenLaw.row PySem.Challenge.rw_wheelnines_k49_second_half_by_names
def xsL : List DWX.XD := []
def fileL : Str := PySem.Challenge.pw_wheelnines_k49_second_half_by_names.main.file
def tfL : List He.Defn := []
theorem tf_mem {n : Str} (h : n ∈ DW.lamNames) : ((n, none) : He.Defn) ∈ tfL := by
  have e : tfL = DW.lamNames.map fun n => ((n, none) : He.Defn) := rfl
  rw [e]
  exact List.mem_map.mpr ⟨n, h, rfl⟩
def exL : PySem.W.Frag → Bool := fun K => tabB "RANGES" tb_RANGES no_RANGES K
def tsL : List He.Tab := [(fun K => He.ga K "RANGES", ["period", "head", "wheels"])]
abbrev hk : PySem.W.Hook := DWX.hookE 5 faL fnL tsL tfL fileL xsL exL
def ob (s : PySem.W.SharedT) : DWX.AlE := DWX.obsE 5 faL fnL tsL tfL fileL xsL exL (HandSHeadRun.getT s)
theorem ob_eq (s : PySem.W.SharedT) : ob s = hk.obs s.abs := DWX.obsE_eq (HandSHeadRun.getT_eq s)
open PySem.W HandSHeadRun in
theorem pA_f (w : World) : ∀ os : OsState, (endF (stepQ (denQ tabQ) RR.prog (w.withFollow "special-get-raises" false)) 20000 RR.prog (w.withFollow "special-get-raises" false) os).map (fun s => (looksF RR.prog (boot_heap (w.withFollow "special-get-raises" false).params) s.abs, seenQ (PySem.W.view RR.prog [128]) names (importedModules RR.prog.main.body) (fun s => xlAt (PySem.W.view RR.prog [128]) [] s && recOk RR.toRowW.records s) s.abs)) = some (true, openGood (PySem.W.view RR.prog [128]) names) := by
  intro os
  kernel_rfl
open PySem.W HandSHeadRun in
theorem pB_f (w : World) : ∀ os : OsState, (endF (stepQ (denQ tabQ) RR.prog (w.withFollow "special-get-raises" false)) 20000 RR.prog (w.withFollow "special-get-raises" false) os).map (fun s => DWX.restOk faL tsL tfL fileL xsL exL (HandSHeadRun.getT s) (DWX.frE (HandSHeadRun.getT s) 5)) = some (true, true, tsL.map (fun t => some (He.keysIn (w.withFollow "special-get-raises" false).params t.2)), xsL.map DWX.XD.val) := by
  intro os
  kernel_rfl
open PySem.W HandSHeadRun in
theorem pC1_f (w : World) : ∀ os : OsState, (endF (stepQ (denQ tabQ) RR.prog (w.withFollow "special-get-raises" false)) 20000 RR.prog (w.withFollow "special-get-raises" false) os).map (fun s => DWX.fnsOk fn_1 (DWX.frE (HandSHeadRun.getT s) 5)) = some (true, fn_1.map He.DefD.val) := by
  intro os
  kernel_rfl
open PySem.W HandSHeadRun in
theorem pC2_f (w : World) : ∀ os : OsState, (endF (stepQ (denQ tabQ) RR.prog (w.withFollow "special-get-raises" false)) 20000 RR.prog (w.withFollow "special-get-raises" false) os).map (fun s => DWX.fnsOk fn_2 (DWX.frE (HandSHeadRun.getT s) 5)) = some (true, fn_2.map He.DefD.val) := by
  intro os
  kernel_rfl
set_option maxHeartbeats 4000000 in
theorem run_f (w : World) : HandSHeadRun.RunEq RR (PySem.W.view RR.prog [128]) hk ob 20000 names (w.withFollow "special-get-raises" false) := by
  intro os
  obtain ⟨s, e, hA⟩ := DWX.opt_some (pA_f w os)
  have hB := DWX.opt_at (pB_f w os) e
  have hC1 := DWX.opt_at (pC1_f w os) e
  have hC2 := DWX.opt_at (pC2_f w os) e
  have hC : DWX.fnsOk fnL (DWX.frE (HandSHeadRun.getT s) 5) = (true, fnL.map He.DefD.val) := (DWX.fns_app hC1 hC2)
  have hob : DWX.obsE 5 faL fnL tsL tfL fileL xsL exL (HandSHeadRun.getT s) = DWX.valE fnL tsL xsL ((w.withFollow "special-get-raises" false)) := DWX.obsE_of hB hC
  rw [e]
  exact congrArg some (Prod.ext (congrArg (·.1) hA) (Prod.ext (congrArg (·.2) hA) hob))
open PySem.W HandSHeadRun in
theorem pA_t (w : World) : ∀ os : OsState, (endF (stepQ (denQ tabQ) RR.prog (w.withFollow "special-get-raises" true)) 20000 RR.prog (w.withFollow "special-get-raises" true) os).map (fun s => (looksF RR.prog (boot_heap (w.withFollow "special-get-raises" true).params) s.abs, seenQ (PySem.W.view RR.prog [128]) names (importedModules RR.prog.main.body) (fun s => xlAt (PySem.W.view RR.prog [128]) [] s && recOk RR.toRowW.records s) s.abs)) = some (true, openGood (PySem.W.view RR.prog [128]) names) := by
  intro os
  kernel_rfl
open PySem.W HandSHeadRun in
theorem pB_t (w : World) : ∀ os : OsState, (endF (stepQ (denQ tabQ) RR.prog (w.withFollow "special-get-raises" true)) 20000 RR.prog (w.withFollow "special-get-raises" true) os).map (fun s => DWX.restOk faL tsL tfL fileL xsL exL (HandSHeadRun.getT s) (DWX.frE (HandSHeadRun.getT s) 5)) = some (true, true, tsL.map (fun t => some (He.keysIn (w.withFollow "special-get-raises" true).params t.2)), xsL.map DWX.XD.val) := by
  intro os
  kernel_rfl
open PySem.W HandSHeadRun in
theorem pC1_t (w : World) : ∀ os : OsState, (endF (stepQ (denQ tabQ) RR.prog (w.withFollow "special-get-raises" true)) 20000 RR.prog (w.withFollow "special-get-raises" true) os).map (fun s => DWX.fnsOk fn_1 (DWX.frE (HandSHeadRun.getT s) 5)) = some (true, fn_1.map He.DefD.val) := by
  intro os
  kernel_rfl
open PySem.W HandSHeadRun in
theorem pC2_t (w : World) : ∀ os : OsState, (endF (stepQ (denQ tabQ) RR.prog (w.withFollow "special-get-raises" true)) 20000 RR.prog (w.withFollow "special-get-raises" true) os).map (fun s => DWX.fnsOk fn_2 (DWX.frE (HandSHeadRun.getT s) 5)) = some (true, fn_2.map He.DefD.val) := by
  intro os
  kernel_rfl
set_option maxHeartbeats 4000000 in
theorem run_t (w : World) : HandSHeadRun.RunEq RR (PySem.W.view RR.prog [128]) hk ob 20000 names (w.withFollow "special-get-raises" true) := by
  intro os
  obtain ⟨s, e, hA⟩ := DWX.opt_some (pA_t w os)
  have hB := DWX.opt_at (pB_t w os) e
  have hC1 := DWX.opt_at (pC1_t w os) e
  have hC2 := DWX.opt_at (pC2_t w os) e
  have hC : DWX.fnsOk fnL (DWX.frE (HandSHeadRun.getT s) 5) = (true, fnL.map He.DefD.val) := (DWX.fns_app hC1 hC2)
  have hob : DWX.obsE 5 faL fnL tsL tfL fileL xsL exL (HandSHeadRun.getT s) = DWX.valE fnL tsL xsL ((w.withFollow "special-get-raises" true)) := DWX.obsE_of hB hC
  rw [e]
  exact congrArg some (Prod.ext (congrArg (·.1) hA) (Prod.ext (congrArg (·.2) hA) hob))
theorem run (w : World) : HandSHeadRun.RunEq RR (PySem.W.view RR.prog [128]) hk ob 20000 names w := PySem.W.byRow2 "special-get-raises" (P := fun w => HandSHeadRun.RunEq RR (PySem.W.view RR.prog [128]) hk ob 20000 names w) run_f run_t w
theorem facts {P : Program} {w : World} {K : PySem.W.Frag} {h : Heap} {mg : Str → Option Value} (X : K.In h) (G : h.Ns mainGlobals mg) (ce : DWX.SaysE faL fnL tsL tfL fileL xsL exL w h K) (hfile : (P.main.file : Str) = fileL) (htop : (P.main.scope.names.lookup ("super" : Str)).isSome = false) (base : Heap) {f : Addr} {fd : FuncData} (F : FunD K "law" "law" (defArgs st_law) (defBody st_law) (defScope st_law) [] [] f fd) : FnG P w K mg base CX0 10 f fd ["script"] (spF ⟨K, mg⟩ m_law) := by
  have c : He.SaysD faL fnL K := ce.t.d
  have T_RANGES : Tbl K w mg "RANGES" (tb_RANGES.map row2D) no_RANGES := tabB_ok X G (ce.t.tab 0) ce.ex
  have D_is_integer : IsDef K mg "is_integer" st_is_integer := by
    obtain ⟨fd, F⟩ := c.def_ 0 (d := dd_is_integer) rfl
    exact ⟨_, fd, F, He.glo_ok X G (c.fact 0 (f := .glo "is_integer") rfl)⟩
  have D_is_whole : IsDef K mg "is_whole" st_is_whole := by
    obtain ⟨fd, F⟩ := c.def_ 1 (d := dd_is_whole) rfl
    exact ⟨_, fd, F, He.glo_ok X G (c.fact 1 (f := .glo "is_whole") rfl)⟩
  have D_need_base : IsDef K mg "need_base" st_need_base := by
    obtain ⟨fd, F⟩ := c.def_ 2 (d := dd_need_base) rfl
    exact ⟨_, fd, F, He.glo_ok X G (c.fact 2 (f := .glo "need_base") rfl)⟩
  have D_prime_powers : IsDef K mg "prime_powers" st_prime_powers := by
    obtain ⟨fd, F⟩ := c.def_ 3 (d := dd_prime_powers) rfl
    exact ⟨_, fd, F, He.glo_ok X G (c.fact 3 (f := .glo "prime_powers") rfl)⟩
  have D_primes_of : IsDef K mg "primes_of" st_primes_of := by
    obtain ⟨fd, F⟩ := c.def_ 4 (d := dd_primes_of) rfl
    exact ⟨_, fd, F, He.glo_ok X G (c.fact 4 (f := .glo "primes_of") rfl)⟩
  have D_need_length : IsDef K mg "need_length" st_need_length := by
    obtain ⟨fd, F⟩ := c.def_ 5 (d := dd_need_length) rfl
    exact ⟨_, fd, F, He.glo_ok X G (c.fact 5 (f := .glo "need_length") rfl)⟩
  have D_common_divisor : IsDef K mg "common_divisor" st_common_divisor := by
    obtain ⟨fd, F⟩ := c.def_ 6 (d := dd_common_divisor) rfl
    exact ⟨_, fd, F, He.glo_ok X G (c.fact 6 (f := .glo "common_divisor") rfl)⟩
  have D_is_pure : IsDef K mg "is_pure" st_is_pure := by
    obtain ⟨fd, F⟩ := c.def_ 7 (d := dd_is_pure) rfl
    exact ⟨_, fd, F, He.glo_ok X G (c.fact 7 (f := .glo "is_pure") rfl)⟩
  have D_power_rest : IsDef K mg "power_rest" st_power_rest := by
    obtain ⟨fd, F⟩ := c.def_ 8 (d := dd_power_rest) rfl
    exact ⟨_, fd, F, He.glo_ok X G (c.fact 8 (f := .glo "power_rest") rfl)⟩
  have D_has_length : IsDef K mg "has_length" st_has_length := by
    obtain ⟨fd, F⟩ := c.def_ 9 (d := dd_has_length) rfl
    exact ⟨_, fd, F, He.glo_ok X G (c.fact 9 (f := .glo "has_length") rfl)⟩
  have D_need_most : IsDef K mg "need_most" st_need_most := by
    obtain ⟨fd, F⟩ := c.def_ 10 (d := dd_need_most) rfl
    exact ⟨_, fd, F, He.glo_ok X G (c.fact 10 (f := .glo "need_most") rfl)⟩
  have D_denominators_with : IsDef K mg "denominators_with" st_denominators_with := by
    obtain ⟨fd, F⟩ := c.def_ 11 (d := dd_denominators_with) rfl
    exact ⟨_, fd, F, He.glo_ok X G (c.fact 11 (f := .glo "denominators_with") rfl)⟩
  have D_power : IsDef K mg "power" st_power := by
    obtain ⟨fd, F⟩ := c.def_ 12 (d := dd_power) rfl
    exact ⟨_, fd, F, He.glo_ok X G (c.fact 12 (f := .glo "power") rfl)⟩
  have D_need_between : IsDef K mg "need_between" st_need_between := by
    obtain ⟨fd, F⟩ := c.def_ 13 (d := dd_need_between) rfl
    exact ⟨_, fd, F, He.glo_ok X G (c.fact 13 (f := .glo "need_between") rfl)⟩
  have D_need_weight : IsDef K mg "need_weight" st_need_weight := by
    obtain ⟨fd, F⟩ := c.def_ 14 (d := dd_need_weight) rfl
    exact ⟨_, fd, F, He.glo_ok X G (c.fact 14 (f := .glo "need_weight") rfl)⟩
  have D_block_sum : IsDef K mg "block_sum" st_block_sum := by
    obtain ⟨fd, F⟩ := c.def_ 15 (d := dd_block_sum) rfl
    exact ⟨_, fd, F, He.glo_ok X G (c.fact 15 (f := .glo "block_sum") rfl)⟩
  have D_need_denominator : IsDef K mg "need_denominator" st_need_denominator := by
    obtain ⟨fd, F⟩ := c.def_ 16 (d := dd_need_denominator) rfl
    exact ⟨_, fd, F, He.glo_ok X G (c.fact 16 (f := .glo "need_denominator") rfl)⟩
  have D_head_size : IsDef K mg "head_size" st_head_size := by
    obtain ⟨fd, F⟩ := c.def_ 17 (d := dd_head_size) rfl
    exact ⟨_, fd, F, He.glo_ok X G (c.fact 17 (f := .glo "head_size") rfl)⟩
  have D_pure_part_of : IsDef K mg "pure_part_of" st_pure_part_of := by
    obtain ⟨fd, F⟩ := c.def_ 18 (d := dd_pure_part_of) rfl
    exact ⟨_, fd, F, He.glo_ok X G (c.fact 18 (f := .glo "pure_part_of") rfl)⟩
  have D_period_of : IsDef K mg "period_of" st_period_of := by
    obtain ⟨fd, F⟩ := c.def_ 19 (d := dd_period_of) rfl
    exact ⟨_, fd, F, He.glo_ok X G (c.fact 19 (f := .glo "period_of") rfl)⟩
  have D_remainders_of : IsDef K mg "remainders_of" st_remainders_of := by
    obtain ⟨fd, F⟩ := c.def_ 20 (d := dd_remainders_of) rfl
    exact ⟨_, fd, F, He.glo_ok X G (c.fact 20 (f := .glo "remainders_of") rfl)⟩
  have D_exponents_in : IsDef K mg "exponents_in" st_exponents_in := by
    obtain ⟨fd, F⟩ := c.def_ 21 (d := dd_exponents_in) rfl
    exact ⟨_, fd, F, He.glo_ok X G (c.fact 21 (f := .glo "exponents_in") rfl)⟩
  have D_exponents : IsDef K mg "exponents" st_exponents := by
    obtain ⟨fd, F⟩ := c.def_ 22 (d := dd_exponents) rfl
    exact ⟨_, fd, F, He.glo_ok X G (c.fact 22 (f := .glo "exponents") rfl)⟩
  have D_keeps_remainders : IsDef K mg "keeps_remainders" st_keeps_remainders := by
    obtain ⟨fd, F⟩ := c.def_ 23 (d := dd_keeps_remainders) rfl
    exact ⟨_, fd, F, He.glo_ok X G (c.fact 23 (f := .glo "keeps_remainders") rfl)⟩
  have D_common_multiple : IsDef K mg "common_multiple" st_common_multiple := by
    obtain ⟨fd, F⟩ := c.def_ 24 (d := dd_common_multiple) rfl
    exact ⟨_, fd, F, He.glo_ok X G (c.fact 24 (f := .glo "common_multiple") rfl)⟩
  have D_greatest_of : IsDef K mg "greatest_of" st_greatest_of := by
    obtain ⟨fd, F⟩ := c.def_ 25 (d := dd_greatest_of) rfl
    exact ⟨_, fd, F, He.glo_ok X G (c.fact 25 (f := .glo "greatest_of") rfl)⟩
  have D_length_of : IsDef K mg "length_of" st_length_of := by
    obtain ⟨fd, F⟩ := c.def_ 26 (d := dd_length_of) rfl
    exact ⟨_, fd, F, He.glo_ok X G (c.fact 26 (f := .glo "length_of") rfl)⟩
  have D_lengths_of : IsDef K mg "lengths_of" st_lengths_of := by
    obtain ⟨fd, F⟩ := c.def_ 27 (d := dd_lengths_of) rfl
    exact ⟨_, fd, F, He.glo_ok X G (c.fact 27 (f := .glo "lengths_of") rfl)⟩
  have D_residues_with : IsDef K mg "residues_with" st_residues_with := by
    obtain ⟨fd, F⟩ := c.def_ 28 (d := dd_residues_with) rfl
    exact ⟨_, fd, F, He.glo_ok X G (c.fact 28 (f := .glo "residues_with") rfl)⟩
  have D_bases_with : IsDef K mg "bases_with" st_bases_with := by
    obtain ⟨fd, F⟩ := c.def_ 29 (d := dd_bases_with) rfl
    exact ⟨_, fd, F, He.glo_ok X G (c.fact 29 (f := .glo "bases_with") rfl)⟩
  have D_lowest : IsDef K mg "lowest" st_lowest := by
    obtain ⟨fd, F⟩ := c.def_ 30 (d := dd_lowest) rfl
    exact ⟨_, fd, F, He.glo_ok X G (c.fact 30 (f := .glo "lowest") rfl)⟩
  have D_sum_in : IsDef K mg "sum_in" st_sum_in := by
    obtain ⟨fd, F⟩ := c.def_ 31 (d := dd_sum_in) rfl
    exact ⟨_, fd, F, He.glo_ok X G (c.fact 31 (f := .glo "sum_in") rfl)⟩
  have D_sum_example : IsDef K mg "sum_example" st_sum_example := by
    obtain ⟨fd, F⟩ := c.def_ 32 (d := dd_sum_example) rfl
    exact ⟨_, fd, F, He.glo_ok X G (c.fact 32 (f := .glo "sum_example") rfl)⟩
  have D__law_hand_right : IsDef K mg "_law_hand_right" st__law_hand_right := by
    obtain ⟨fd, F⟩ := c.def_ 33 (d := dd__law_hand_right) rfl
    exact ⟨_, fd, F, He.glo_ok X G (c.fact 33 (f := .glo "_law_hand_right") rfl)⟩
  have D__law_begun : IsDef K mg "_law_begun" st__law_begun := by
    obtain ⟨fd, F⟩ := c.def_ 34 (d := dd__law_begun) rfl
    exact ⟨_, fd, F, He.glo_ok X G (c.fact 34 (f := .glo "_law_begun") rfl)⟩
  have D__law_draw : IsDef K mg "_law_draw" st__law_draw := by
    obtain ⟨fd, F⟩ := c.def_ 35 (d := dd__law_draw) rfl
    exact ⟨_, fd, F, He.glo_ok X G (c.fact 35 (f := .glo "_law_draw") rfl)⟩
  have D__law_of : IsDef K mg "_law_of" st__law_of := by
    obtain ⟨fd, F⟩ := c.def_ 36 (d := dd__law_of) rfl
    exact ⟨_, fd, F, He.glo_ok X G (c.fact 36 (f := .glo "_law_of") rfl)⟩
  have D_pairs_of : IsDef K mg "pairs_of" st_pairs_of := by
    obtain ⟨fd, F⟩ := c.def_ 37 (d := dd_pairs_of) rfl
    exact ⟨_, fd, F, He.glo_ok X G (c.fact 37 (f := .glo "pairs_of") rfl)⟩
  have D_period_paper : IsDef K mg "period_paper" st_period_paper := by
    obtain ⟨fd, F⟩ := c.def_ 38 (d := dd_period_paper) rfl
    exact ⟨_, fd, F, He.glo_ok X G (c.fact 38 (f := .glo "period_paper") rfl)⟩
  have D_spread : IsDef K mg "spread" st_spread := by
    obtain ⟨fd, F⟩ := c.def_ 39 (d := dd_spread) rfl
    exact ⟨_, fd, F, He.glo_ok X G (c.fact 39 (f := .glo "spread") rfl)⟩
  have D_greatest_period : IsDef K mg "greatest_period" st_greatest_period := by
    obtain ⟨fd, F⟩ := c.def_ 40 (d := dd_greatest_period) rfl
    exact ⟨_, fd, F, He.glo_ok X G (c.fact 40 (f := .glo "greatest_period") rfl)⟩
  have D_need_small : IsDef K mg "need_small" st_need_small := by
    obtain ⟨fd, F⟩ := c.def_ 41 (d := dd_need_small) rfl
    exact ⟨_, fd, F, He.glo_ok X G (c.fact 41 (f := .glo "need_small") rfl)⟩
  have D_exponent_in : IsDef K mg "exponent_in" st_exponent_in := by
    obtain ⟨fd, F⟩ := c.def_ 42 (d := dd_exponent_in) rfl
    exact ⟨_, fd, F, He.glo_ok X G (c.fact 42 (f := .glo "exponent_in") rfl)⟩
  have D_exponents_for : IsDef K mg "exponents_for" st_exponents_for := by
    obtain ⟨fd, F⟩ := c.def_ 43 (d := dd_exponents_for) rfl
    exact ⟨_, fd, F, He.glo_ok X G (c.fact 43 (f := .glo "exponents_for") rfl)⟩
  have D_sums_of : IsDef K mg "sums_of" st_sums_of := by
    obtain ⟨fd, F⟩ := c.def_ 44 (d := dd_sums_of) rfl
    exact ⟨_, fd, F, He.glo_ok X G (c.fact 44 (f := .glo "sums_of") rfl)⟩
  have D_sum_denominators : IsDef K mg "sum_denominators" st_sum_denominators := by
    obtain ⟨fd, F⟩ := c.def_ 45 (d := dd_sum_denominators) rfl
    exact ⟨_, fd, F, He.glo_ok X G (c.fact 45 (f := .glo "sum_denominators") rfl)⟩
  have D_sum_periods : IsDef K mg "sum_periods" st_sum_periods := by
    obtain ⟨fd, F⟩ := c.def_ 46 (d := dd_sum_periods) rfl
    exact ⟨_, fd, F, He.glo_ok X G (c.fact 46 (f := .glo "sum_periods") rfl)⟩
  have D_need_pure : IsDef K mg "need_pure" st_need_pure := by
    obtain ⟨fd, F⟩ := c.def_ 47 (d := dd_need_pure) rfl
    exact ⟨_, fd, F, He.glo_ok X G (c.fact 47 (f := .glo "need_pure") rfl)⟩
  have D_counted : IsDef K mg "counted" st_counted := by
    obtain ⟨fd, F⟩ := c.def_ 48 (d := dd_counted) rfl
    exact ⟨_, fd, F, He.glo_ok X G (c.fact 48 (f := .glo "counted") rfl)⟩
  have D_all_counts : IsDef K mg "all_counts" st_all_counts := by
    obtain ⟨fd, F⟩ := c.def_ 49 (d := dd_all_counts) rfl
    exact ⟨_, fd, F, He.glo_ok X G (c.fact 49 (f := .glo "all_counts") rfl)⟩
  have D_are_pairs : IsDef K mg "are_pairs" st_are_pairs := by
    obtain ⟨fd, F⟩ := c.def_ 50 (d := dd_are_pairs) rfl
    exact ⟨_, fd, F, He.glo_ok X G (c.fact 50 (f := .glo "are_pairs") rfl)⟩
  have D_check_period : IsDef K mg "check_period" st_check_period := by
    obtain ⟨fd, F⟩ := c.def_ 51 (d := dd_check_period) rfl
    exact ⟨_, fd, F, He.glo_ok X G (c.fact 51 (f := .glo "check_period") rfl)⟩
  have D_is_fraction : IsDef K mg "is_fraction" st_is_fraction := by
    obtain ⟨fd, F⟩ := c.def_ 52 (d := dd_is_fraction) rfl
    exact ⟨_, fd, F, He.glo_ok X G (c.fact 52 (f := .glo "is_fraction") rfl)⟩
  have D_need_fraction : IsDef K mg "need_fraction" st_need_fraction := by
    obtain ⟨fd, F⟩ := c.def_ 53 (d := dd_need_fraction) rfl
    exact ⟨_, fd, F, He.glo_ok X G (c.fact 53 (f := .glo "need_fraction") rfl)⟩
  have D_sum_of : IsDef K mg "sum_of" st_sum_of := by
    obtain ⟨fd, F⟩ := c.def_ 54 (d := dd_sum_of) rfl
    exact ⟨_, fd, F, He.glo_ok X G (c.fact 54 (f := .glo "sum_of") rfl)⟩
  have D_need_pure_fraction : IsDef K mg "need_pure_fraction" st_need_pure_fraction := by
    obtain ⟨fd, F⟩ := c.def_ 55 (d := dd_need_pure_fraction) rfl
    exact ⟨_, fd, F, He.glo_ok X G (c.fact 55 (f := .glo "need_pure_fraction") rfl)⟩
  have D_wheel_of : IsDef K mg "wheel_of" st_wheel_of := by
    obtain ⟨fd, F⟩ := c.def_ 56 (d := dd_wheel_of) rfl
    exact ⟨_, fd, F, He.glo_ok X G (c.fact 56 (f := .glo "wheel_of") rfl)⟩
  have D_digit_counts : IsDef K mg "digit_counts" st_digit_counts := by
    obtain ⟨fd, F⟩ := c.def_ 57 (d := dd_digit_counts) rfl
    exact ⟨_, fd, F, He.glo_ok X G (c.fact 57 (f := .glo "digit_counts") rfl)⟩
  have D_digit_sum : IsDef K mg "digit_sum" st_digit_sum := by
    obtain ⟨fd, F⟩ := c.def_ 58 (d := dd_digit_sum) rfl
    exact ⟨_, fd, F, He.glo_ok X G (c.fact 58 (f := .glo "digit_sum") rfl)⟩
  have D__law_periods_right : IsDef K mg "_law_periods_right" st__law_periods_right := by
    obtain ⟨fd, F⟩ := c.def_ 59 (d := dd__law_periods_right) rfl
    exact ⟨_, fd, F, He.glo_ok X G (c.fact 59 (f := .glo "_law_periods_right") rfl)⟩
  have D_exponent_paper : IsDef K mg "exponent_paper" st_exponent_paper := by
    obtain ⟨fd, F⟩ := c.def_ 60 (d := dd_exponent_paper) rfl
    exact ⟨_, fd, F, He.glo_ok X G (c.fact 60 (f := .glo "exponent_paper") rfl)⟩
  have D_need_seen : IsDef K mg "need_seen" st_need_seen := by
    obtain ⟨fd, F⟩ := c.def_ 61 (d := dd_need_seen) rfl
    exact ⟨_, fd, F, He.glo_ok X G (c.fact 61 (f := .glo "need_seen") rfl)⟩
  have D_does_fit : IsDef K mg "does_fit" st_does_fit := by
    obtain ⟨fd, F⟩ := c.def_ 62 (d := dd_does_fit) rfl
    exact ⟨_, fd, F, He.glo_ok X G (c.fact 62 (f := .glo "does_fit") rfl)⟩
  have D_fits : IsDef K mg "fits" st_fits := by
    obtain ⟨fd, F⟩ := c.def_ 63 (d := dd_fits) rfl
    exact ⟨_, fd, F, He.glo_ok X G (c.fact 63 (f := .glo "fits") rfl)⟩
  have D_fitting_in : IsDef K mg "fitting_in" st_fitting_in := by
    obtain ⟨fd, F⟩ := c.def_ 64 (d := dd_fitting_in) rfl
    exact ⟨_, fd, F, He.glo_ok X G (c.fact 64 (f := .glo "fitting_in") rfl)⟩
  have D_digits_after : IsDef K mg "digits_after" st_digits_after := by
    obtain ⟨fd, F⟩ := c.def_ 65 (d := dd_digits_after) rfl
    exact ⟨_, fd, F, He.glo_ok X G (c.fact 65 (f := .glo "digits_after") rfl)⟩
  have D_sure_digits : IsDef K mg "sure_digits" st_sure_digits := by
    obtain ⟨fd, F⟩ := c.def_ 66 (d := dd_sure_digits) rfl
    exact ⟨_, fd, F, He.glo_ok X G (c.fact 66 (f := .glo "sure_digits") rfl)⟩
  have D_steps_of : IsDef K mg "steps_of" st_steps_of := by
    obtain ⟨fd, F⟩ := c.def_ 67 (d := dd_steps_of) rfl
    exact ⟨_, fd, F, He.glo_ok X G (c.fact 67 (f := .glo "steps_of") rfl)⟩
  have D_is_balanced_by : IsDef K mg "is_balanced_by" st_is_balanced_by := by
    obtain ⟨fd, F⟩ := c.def_ 68 (d := dd_is_balanced_by) rfl
    exact ⟨_, fd, F, He.glo_ok X G (c.fact 68 (f := .glo "is_balanced_by") rfl)⟩
  have D_wheels_in : IsDef K mg "wheels_in" st_wheels_in := by
    obtain ⟨fd, F⟩ := c.def_ 69 (d := dd_wheels_in) rfl
    exact ⟨_, fd, F, He.glo_ok X G (c.fact 69 (f := .glo "wheels_in") rfl)⟩
  have D_holds : IsDef K mg "holds" st_holds := by
    obtain ⟨fd, F⟩ := c.def_ 70 (d := dd_holds) rfl
    exact ⟨_, fd, F, He.glo_ok X G (c.fact 70 (f := .glo "holds") rfl)⟩
  have D_satisfy : IsDef K mg "satisfy" st_satisfy := by
    obtain ⟨fd, F⟩ := c.def_ 71 (d := dd_satisfy) rfl
    exact ⟨_, fd, F, He.glo_ok X G (c.fact 71 (f := .glo "satisfy") rfl)⟩
  have D_is_fact : IsDef K mg "is_fact" st_is_fact := by
    obtain ⟨fd, F⟩ := c.def_ 72 (d := dd_is_fact) rfl
    exact ⟨_, fd, F, He.glo_ok X G (c.fact 72 (f := .glo "is_fact") rfl)⟩
  have D_need_facts : IsDef K mg "need_facts" st_need_facts := by
    obtain ⟨fd, F⟩ := c.def_ 73 (d := dd_need_facts) rfl
    exact ⟨_, fd, F, He.glo_ok X G (c.fact 73 (f := .glo "need_facts") rfl)⟩
  have D_is_satisfied : IsDef K mg "is_satisfied" st_is_satisfied := by
    obtain ⟨fd, F⟩ := c.def_ 74 (d := dd_is_satisfied) rfl
    exact ⟨_, fd, F, He.glo_ok X G (c.fact 74 (f := .glo "is_satisfied") rfl)⟩
  have D_denominators_by : IsDef K mg "denominators_by" st_denominators_by := by
    obtain ⟨fd, F⟩ := c.def_ 75 (d := dd_denominators_by) rfl
    exact ⟨_, fd, F, He.glo_ok X G (c.fact 75 (f := .glo "denominators_by") rfl)⟩
  have D_bases_by : IsDef K mg "bases_by" st_bases_by := by
    obtain ⟨fd, F⟩ := c.def_ 76 (d := dd_bases_by) rfl
    exact ⟨_, fd, F, He.glo_ok X G (c.fact 76 (f := .glo "bases_by") rfl)⟩
  have D_fitting : IsDef K mg "fitting" st_fitting := by
    obtain ⟨fd, F⟩ := c.def_ 77 (d := dd_fitting) rfl
    exact ⟨_, fd, F, He.glo_ok X G (c.fact 77 (f := .glo "fitting") rfl)⟩
  have D_simplest : IsDef K mg "simplest" st_simplest := by
    obtain ⟨fd, F⟩ := c.def_ 78 (d := dd_simplest) rfl
    exact ⟨_, fd, F, He.glo_ok X G (c.fact 78 (f := .glo "simplest") rfl)⟩
  have D_is_right : IsDef K mg "is_right" st_is_right := by
    obtain ⟨fd, F⟩ := c.def_ 79 (d := dd_is_right) rfl
    exact ⟨_, fd, F, He.glo_ok X G (c.fact 79 (f := .glo "is_right") rfl)⟩
  have D_check_exponent : IsDef K mg "check_exponent" st_check_exponent := by
    obtain ⟨fd, F⟩ := c.def_ 80 (d := dd_check_exponent) rfl
    exact ⟨_, fd, F, He.glo_ok X G (c.fact 80 (f := .glo "check_exponent") rfl)⟩
  have D__law_others_right : IsDef K mg "_law_others_right" st__law_others_right := by
    obtain ⟨fd, F⟩ := c.def_ 81 (d := dd__law_others_right) rfl
    exact ⟨_, fd, F, He.glo_ok X G (c.fact 81 (f := .glo "_law_others_right") rfl)⟩
  have n_isinstance : mg "isinstance" = none := He.free_ok X G (c.fact 83 (f := .free "isinstance") rfl)
  have n_bool : mg "bool" = none := He.free_ok X G (c.fact 84 (f := .free "bool") rfl)
  have n_int : mg "int" = none := He.free_ok X G (c.fact 85 (f := .free "int") rfl)
  have n_all : mg "all" = none := He.free_ok X G (c.fact 86 (f := .free "all") rfl)
  have n_tuple : mg "tuple" = none := He.free_ok X G (c.fact 87 (f := .free "tuple") rfl)
  have n_range : mg "range" = none := He.free_ok X G (c.fact 88 (f := .free "range") rfl)
  have n_len : mg "len" = none := He.free_ok X G (c.fact 89 (f := .free "len") rfl)
  have n_sorted : mg "sorted" = none := He.free_ok X G (c.fact 90 (f := .free "sorted") rfl)
  have n_list : mg "list" = none := He.free_ok X G (c.fact 91 (f := .free "list") rfl)
  have n_max : mg "max" = none := He.free_ok X G (c.fact 92 (f := .free "max") rfl)
  have n_zip : mg "zip" = none := He.free_ok X G (c.fact 93 (f := .free "zip") rfl)
  have n_sum : mg "sum" = none := He.free_ok X G (c.fact 94 (f := .free "sum") rfl)
  have n_repr : mg "repr" = none := He.free_ok X G (c.fact 95 (f := .free "repr") rfl)
  have n_str : mg "str" = none := He.free_ok X G (c.fact 96 (f := .free "str") rfl)
  have n_enumerate : mg "enumerate" = none := He.free_ok X G (c.fact 97 (f := .free "enumerate") rfl)
  have n_min : mg "min" = none := He.free_ok X G (c.fact 98 (f := .free "min") rfl)
  have g_MOST_BASE : ∃ t, mg "MOST_BASE" = some (.int 1000 t) := He.int_ok X G (c.fact 99 (f := .int "MOST_BASE" 1000) rfl)
  have g_MOST_DENOMINATOR : ∃ t, mg "MOST_DENOMINATOR" = some (.int 5000 t) := He.int_ok X G (c.fact 100 (f := .int "MOST_DENOMINATOR" 5000) rfl)
  have g_MOST_WEIGHT : ∃ t, mg "MOST_WEIGHT" = some (.int 1000 t) := He.int_ok X G (c.fact 101 (f := .int "MOST_WEIGHT" 1000) rfl)
  have g_MOST_NUMBER : ∃ t, mg "MOST_NUMBER" = some (.int 1000000000000000000000000000000000000000000000000000000000000 t) := He.int_ok X G (c.fact 102 (f := .int "MOST_NUMBER" 1000000000000000000000000000000000000000000000000000000000000) rfl)
  have g_MOST_SIZE : ∃ t, mg "MOST_SIZE" = some (.int 400 t) := He.int_ok X G (c.fact 103 (f := .int "MOST_SIZE" 400) rfl)
  have g_EXPONENT : ∃ t, mg "EXPONENT" = some (.str "exponent" t) := He.str_ok X G (c.fact 104 (f := .str "EXPONENT" "exponent") rfl)
  have g_NEVER : ∃ t, mg "NEVER" = some (.str "never" t) := He.str_ok X G (c.fact 105 (f := .str "NEVER" "never") rfl)
  have g_MOST_SEEN : ∃ t, mg "MOST_SEEN" = some (.int 20 t) := He.int_ok X G (c.fact 106 (f := .int "MOST_SEEN" 20) rfl)
  have g_MOST_TRIED : ∃ t, mg "MOST_TRIED" = some (.int 200 t) := He.int_ok X G (c.fact 107 (f := .int "MOST_TRIED" 200) rfl)
  have g_MOST_SURE : ∃ t, mg "MOST_SURE" = some (.int 60 t) := He.int_ok X G (c.fact 108 (f := .int "MOST_SURE" 60) rfl)
  have g_WHEELS : ∃ t, mg "WHEELS" = some (.str "wheels" t) := He.str_ok X G (c.fact 109 (f := .str "WHEELS" "wheels") rfl)
  have g_POWER_facts : ∃ t, mg "POWER_facts" = some (.str "power" t) := He.str_ok X G (c.fact 110 (f := .str "POWER_facts" "power") rfl)
  have g_HEAD : ∃ t, mg "HEAD" = some (.str "head" t) := He.str_ok X G (c.fact 111 (f := .str "HEAD" "head") rfl)
  have g_PERIOD : ∃ t, mg "PERIOD" = some (.str "period" t) := He.str_ok X G (c.fact 112 (f := .str "PERIOD" "period") rfl)
  have g_BALANCED : ∃ t, mg "BALANCED" = some (.str "balanced" t) := He.str_ok X G (c.fact 113 (f := .str "BALANCED" "balanced") rfl)
  have g_MOST_FACTS : ∃ t, mg "MOST_FACTS" = some (.int 10 t) := He.int_ok X G (c.fact 114 (f := .int "MOST_FACTS" 10) rfl)
  have g_MOST_FOUND : ∃ t, mg "MOST_FOUND" = some (.int 1000 t) := He.int_ok X G (c.fact 115 (f := .int "MOST_FOUND" 1000) rfl)
  have g_MOST_TOLD : ∃ t, mg "MOST_TOLD" = some (.int 1000 t) := He.int_ok X G (c.fact 116 (f := .int "MOST_TOLD" 1000) rfl)
  have g_MOST_EXPONENT : ∃ t, mg "MOST_EXPONENT" = some (.int 10000 t) := He.int_ok X G (c.fact 117 (f := .int "MOST_EXPONENT" 10000) rfl)
  have h_is_integer := p_is_integer (P := P) (w := w) (base := base) D_is_integer n_isinstance n_bool n_int
  have h_is_whole := p_is_whole (P := P) (w := w) (base := base) D_is_whole h_is_integer
  have h_need_base := p_need_base (P := P) (w := w) (base := base) D_need_base h_is_whole g_MOST_BASE
  have h_prime_powers := p_prime_powers (P := P) (w := w) (base := base) D_prime_powers
  have h_primes_of := p_primes_of (P := P) (w := w) (base := base) D_primes_of h_prime_powers
  have h_need_length := p_need_length (P := P) (w := w) (base := base) D_need_length h_is_whole g_MOST_DENOMINATOR
  have h_common_divisor := p_common_divisor (P := P) (w := w) (base := base) D_common_divisor
  have h_is_pure := p_is_pure (P := P) (w := w) (base := base) D_is_pure h_common_divisor
  have h_power_rest := p_power_rest (P := P) (w := w) (base := base) D_power_rest
  have h_has_length := p_has_length (P := P) (w := w) (base := base) D_has_length h_power_rest n_all
  have h_need_most := p_need_most (P := P) (w := w) (base := base) D_need_most h_is_whole
  have l_denominators_with := p_denominators_with (P := P) (w := w) (base := base) D_denominators_with h_has_length h_need_most h_is_pure h_need_length h_primes_of h_need_base n_tuple n_range g_MOST_DENOMINATOR
  have h_denominators_with := l_denominators_with.has
  have h_power := p_power (P := P) (w := w) (base := base) D_power
  have h_need_between := p_need_between (P := P) (w := w) (base := base) D_need_between h_is_whole
  have h_need_weight := p_need_weight (P := P) (w := w) (base := base) D_need_weight h_need_between g_MOST_WEIGHT
  have l_block_sum := p_block_sum (P := P) (w := w) (base := base) D_block_sum h_need_between h_need_weight h_need_base h_power g_MOST_NUMBER g_MOST_SIZE
  have h_block_sum := l_block_sum.has
  have h_need_denominator := p_need_denominator (P := P) (w := w) (base := base) D_need_denominator h_is_whole g_MOST_DENOMINATOR
  have h_head_size := p_head_size (P := P) (w := w) (base := base) D_head_size h_common_divisor h_need_denominator h_need_base
  have h_pure_part_of := p_pure_part_of (P := P) (w := w) (base := base) D_pure_part_of h_common_divisor
  have h_period_of := p_period_of (P := P) (w := w) (base := base) D_period_of h_pure_part_of
  have h_remainders_of := p_remainders_of (P := P) (w := w) (base := base) D_remainders_of h_period_of h_head_size n_len
  have h_exponents_in := p_exponents_in (P := P) (w := w) (base := base) D_exponents_in h_head_size h_period_of h_remainders_of
  have l_exponents := p_exponents (P := P) (w := w) (base := base) D_exponents h_need_weight h_exponents_in h_need_denominator h_need_base
  have h_exponents := l_exponents.has
  have l_keeps_remainders := p_keeps_remainders (P := P) (w := w) (base := base) D_keeps_remainders h_need_weight h_power_rest h_need_between h_need_denominator h_need_base g_MOST_SIZE
  have h_keeps_remainders := l_keeps_remainders.has
  have h_common_multiple := p_common_multiple (P := P) (w := w) (base := base) D_common_multiple h_common_divisor
  have h_greatest_of := p_greatest_of (P := P) (w := w) (base := base) D_greatest_of h_prime_powers h_common_multiple
  have h_length_of := p_length_of (P := P) (w := w) (base := base) D_length_of h_power_rest
  have h_lengths_of := p_lengths_of (P := P) (w := w) (base := base) D_lengths_of h_length_of h_common_divisor h_primes_of h_greatest_of n_range
  have l_residues_with := p_residues_with (P := P) (w := w) (base := base) D_residues_with h_lengths_of h_need_length h_need_denominator n_tuple
  have h_residues_with := l_residues_with.has
  have l_bases_with := p_bases_with (P := P) (w := w) (base := base) D_bases_with h_residues_with n_range n_tuple g_MOST_BASE
  have h_bases_with := l_bases_with.has
  have h_lowest := p_lowest (P := P) (w := w) (base := base) D_lowest h_common_divisor
  have h_sum_in := p_sum_in (P := P) (w := w) (base := base) D_sum_in h_lowest
  have l_sum_example := p_sum_example (P := P) (w := w) (base := base) D_sum_example h_sum_in h_common_divisor h_lowest h_need_denominator n_range
  have h_sum_example := l_sum_example.has
  have h__law_hand_right := p__law_hand_right (P := P) (w := w) (base := base) D__law_hand_right l_bases_with l_keeps_remainders l_exponents l_block_sum l_sum_example l_denominators_with
  have h__law_begun := p__law_begun (P := P) (w := w) (base := base) D__law_begun n_int
  have h__law_draw := p__law_draw (P := P) (w := w) (base := base) D__law_draw n_int n_len
  have h__law_of := p__law_of (P := P) (w := w) (base := base) D__law_of h__law_draw n_len
  have h_pairs_of := p_pairs_of (P := P) (w := w) (base := base) D_pairs_of h_primes_of h_power_rest n_tuple
  have l_period_paper := p_period_paper (P := P) (w := w) (base := base) D_period_paper h_pure_part_of h_pairs_of h_need_denominator h_need_base h_period_of
  have h_period_paper := l_period_paper.has
  have l_spread := p_spread (P := P) (w := w) (base := base) D_spread h_need_denominator h_lengths_of n_sorted n_tuple
  have h_spread := l_spread.has
  have l_greatest_period := p_greatest_period (P := P) (w := w) (base := base) D_greatest_period h_need_denominator h_greatest_of
  have h_greatest_period := l_greatest_period.has
  have h_need_small := p_need_small (P := P) (w := w) (base := base) D_need_small g_MOST_DENOMINATOR
  have h_exponent_in := p_exponent_in (P := P) (w := w) (base := base) D_exponent_in h_prime_powers
  have h_exponents_for := p_exponents_for (P := P) (w := w) (base := base) D_exponents_for h_exponent_in n_list n_range n_max
  have h_sums_of := p_sums_of (P := P) (w := w) (base := base) D_sums_of h_need_small h_common_multiple h_primes_of h_exponents_for h_power n_sorted n_max
  have l_sum_denominators := p_sum_denominators (P := P) (w := w) (base := base) D_sum_denominators h_sums_of h_need_denominator n_tuple
  have h_sum_denominators := l_sum_denominators.has
  have l_sum_periods := p_sum_periods (P := P) (w := w) (base := base) D_sum_periods h_sum_denominators h_period_of h_need_base n_sorted n_tuple
  have h_sum_periods := l_sum_periods.has
  have h_need_pure := p_need_pure (P := P) (w := w) (base := base) D_need_pure h_need_denominator h_need_base h_is_pure
  have h_counted := p_counted (P := P) (w := w) (base := base) D_counted n_sorted n_tuple
  have l_all_counts := p_all_counts (P := P) (w := w) (base := base) D_all_counts h_counted h_common_divisor h_need_pure n_range
  have h_all_counts := l_all_counts.has
  have h_are_pairs := p_are_pairs (P := P) (w := w) (base := base) D_are_pairs h_is_whole n_zip n_len n_isinstance n_tuple n_all
  have l_check_period := p_check_period (P := P) (w := w) (base := base) D_check_period h_pairs_of h_are_pairs h_power_rest h_is_whole h_need_denominator h_need_base h_pure_part_of n_isinstance n_tuple n_len g_MOST_DENOMINATOR
  have h_check_period := l_check_period.has
  have h_is_fraction := p_is_fraction (P := P) (w := w) (base := base) D_is_fraction h_common_divisor h_is_whole n_len n_isinstance n_tuple g_MOST_DENOMINATOR
  have h_need_fraction := p_need_fraction (P := P) (w := w) (base := base) D_need_fraction h_is_fraction
  have l_sum_of := p_sum_of (P := P) (w := w) (base := base) D_sum_of h_need_small h_need_fraction h_sum_in
  have h_sum_of := l_sum_of.has
  have h_need_pure_fraction := p_need_pure_fraction (P := P) (w := w) (base := base) D_need_pure_fraction h_need_fraction h_is_pure h_need_base
  have h_wheel_of := p_wheel_of (P := P) (w := w) (base := base) D_wheel_of
  have l_digit_counts := p_digit_counts (P := P) (w := w) (base := base) D_digit_counts h_wheel_of h_counted h_need_pure_fraction
  have h_digit_counts := l_digit_counts.has
  have l_digit_sum := p_digit_sum (P := P) (w := w) (base := base) D_digit_sum h_digit_counts n_sum
  have h_digit_sum := l_digit_sum.has
  have h__law_periods_right := p__law_periods_right (P := P) (w := w) (base := base) D__law_periods_right h_all_counts h_digit_counts h_digit_sum h_sum_example h_sum_periods h_sum_denominators h_sum_of h_check_period h_period_paper h_denominators_with h_bases_with h_greatest_period h_spread h_residues_with l_all_counts l_digit_counts l_digit_sum l_sum_example l_sum_periods l_sum_denominators l_sum_of l_check_period l_period_paper l_denominators_with l_bases_with l_greatest_period l_spread l_residues_with n_repr
  have l_exponent_paper := p_exponent_paper (P := P) (w := w) (base := base) D_exponent_paper h_remainders_of h_exponents n_tuple g_EXPONENT g_NEVER
  have h_exponent_paper := l_exponent_paper.has
  have l_need_seen := p_need_seen (P := P) (w := w) (base := base) D_need_seen h_is_whole h_need_base n_all n_len n_isinstance n_tuple g_MOST_SEEN
  have h_need_seen := l_need_seen.has
  have h_does_fit := p_does_fit (P := P) (w := w) (base := base) D_does_fit
  have l_fits := p_fits (P := P) (w := w) (base := base) D_fits h_does_fit h_need_seen h_need_fraction h_need_base
  have h_fits := l_fits.has
  have h_fitting_in := p_fitting_in (P := P) (w := w) (base := base) D_fitting_in h_need_most h_does_fit h_common_divisor h_need_seen n_range g_MOST_TRIED
  have h_digits_after := p_digits_after (P := P) (w := w) (base := base) D_digits_after n_tuple n_range
  have l_sure_digits := p_sure_digits (P := P) (w := w) (base := base) D_sure_digits h_digits_after h_fitting_in h_is_whole h_need_most h_need_seen n_tuple n_zip n_list g_MOST_SURE g_MOST_TRIED
  have h_sure_digits := l_sure_digits.has
  have h_steps_of := p_steps_of (P := P) (w := w) (base := base) D_steps_of h_period_of h_power_rest n_len
  have h_is_balanced_by := p_is_balanced_by (P := P) (w := w) (base := base) D_is_balanced_by h_steps_of n_sum
  have h_wheels_in := p_wheels_in (P := P) (w := w) (base := base) D_wheels_in h_period_of h_prime_powers
  have h_holds := p_holds (P := P) (w := w) (base := base) D_holds h_is_balanced_by h_period_of h_wheels_in h_is_pure h_power_rest h_head_size g_WHEELS g_POWER_facts g_HEAD g_PERIOD
  have h_satisfy := p_satisfy (P := P) (w := w) (base := base) D_satisfy h_holds
  have h_is_fact := p_is_fact (P := P) (w := w) (base := base) D_is_fact h_is_whole T_RANGES n_isinstance n_bool n_len n_str n_tuple g_MOST_DENOMINATOR g_POWER_facts g_BALANCED
  have l_need_facts := p_need_facts (P := P) (w := w) (base := base) D_need_facts h_is_fact n_enumerate n_len n_isinstance n_tuple g_MOST_FACTS
  have h_need_facts := l_need_facts.has
  have l_is_satisfied := p_is_satisfied (P := P) (w := w) (base := base) D_is_satisfied h_need_facts h_satisfy h_need_denominator h_need_base
  have h_is_satisfied := l_is_satisfied.has
  have l_denominators_by := p_denominators_by (P := P) (w := w) (base := base) D_denominators_by h_satisfy h_need_most h_need_facts h_need_base n_tuple n_list n_range g_MOST_FOUND
  have h_denominators_by := l_denominators_by.has
  have l_bases_by := p_bases_by (P := P) (w := w) (base := base) D_bases_by h_satisfy h_need_most h_need_facts h_need_denominator n_tuple n_list n_range g_MOST_BASE
  have h_bases_by := l_bases_by.has
  have l_fitting := p_fitting (P := P) (w := w) (base := base) D_fitting h_fitting_in n_tuple n_len g_MOST_TOLD
  have h_fitting := l_fitting.has
  have l_simplest := p_simplest (P := P) (w := w) (base := base) D_simplest h_fitting_in
  have h_simplest := l_simplest.has
  have h_is_right := p_is_right (P := P) (w := w) (base := base) D_is_right h_is_whole h_remainders_of h_power_rest n_list n_all n_isinstance n_tuple g_EXPONENT g_MOST_EXPONENT
  have l_check_exponent := p_check_exponent (P := P) (w := w) (base := base) D_check_exponent h_is_right h_need_weight h_need_denominator h_need_base n_isinstance n_str n_len n_tuple g_NEVER g_EXPONENT
  have h_check_exponent := l_check_exponent.has
  have h__law_others_right := p__law_others_right (P := P) (w := w) (base := base) D__law_others_right h_bases_by h_denominators_by h_is_satisfied h_need_facts h_check_exponent h_exponent_paper h_keeps_remainders h_exponents h_block_sum h_sure_digits h_simplest h_fitting h_fits h_need_seen l_bases_by l_denominators_by l_is_satisfied l_need_facts l_check_exponent l_exponent_paper l_keeps_remainders l_exponents l_block_sum l_sure_digits l_simplest l_fitting l_fits l_need_seen n_repr
  have h_law := p_law (P := P) (w := w) (base := base) F h__law_hand_right h__law_others_right h__law_periods_right h__law_of h__law_begun n_len n_min n_range
  exact h_law
end LAW
end
open PySem PySem.W PySem.Calls PyProof.Rows
set_option maxRecDepth 100000 in
set_option maxHeartbeats 0 in
theorem PySem.Challenge.cw_wheelnines_k49_second_half_by_names_holds : PySem.Challenge.rw_wheelnines_k49_second_half_by_names.Holds := by
  w_on; o_law
  refine HandSHeadRun.head_any (r := OpenLaw.row PySem.Challenge.rw_wheelnines_k49_second_half_by_names) (q := view (OpenLaw.row PySem.Challenge.rw_wheelnines_k49_second_half_by_names).prog [128]) (H := LAW.hk) (ob := LAW.ob) (M := 20000) (loose := LAW.names) (d := HandSHeadRun.topDef (OpenLaw.row PySem.Challenge.rw_wheelnines_k49_second_half_by_names).prog 128) (kwd := []) LAW.ob_eq
    (by kernel_rfl) (fun s => by kernel_rfl) LAW.run (by kernel_rfl) (by kernel_rfl) (by kernel_rfl) (by rfl) (by first | assumption | decide +kernel) (by decide +kernel) ⟨rfl, rfl, rfl, rfl, rfl, by decide +kernel⟩ ?hw ?hc
  case hw => w_witness2
  case hc =>
    refine DW.walkG (l := PySem.Challenge.rw_wheelnines_k49_second_half_by_names) (n := 63) (k := 10) (x := "script") (CX := L2.CX0) rfl (by decide) (by kernel_rfl) ⟨rfl, by decide, by decide⟩ ?F (fun _ _ _ _ z => z)
    intro w mg fa h Y G hmg0
    obtain ⟨K, KX, ce⟩ := Y
    have c := ce.t.d
    have hmg : mg ("law" : PySem.Str) = some (.ref fa) := by
      have e : (HandSHeadRun.topDef (OpenLaw.row PySem.Challenge.rw_wheelnines_k49_second_half_by_names).prog 128).name = ("law" : PySem.Str) := by kernel_rfl
      rw [← e]
      exact hmg0
    obtain ⟨fd, F⟩ := c.def_ 82 (d := LAW.dd_law) rfl
    have hga : mg ("law" : PySem.Str) = some (.ref (He.fAd K ("law", none))) := He.glo_ok KX G (c.fact 82 (f := .glo "law") rfl)
    rw [hmg] at hga
    have hfa : fa = He.fAd K ("law", none) := by cases hga; rfl
    have b := L2.FunD.bindsA (ps := ["script"]) F fun _ _ _ _ _ _ us hl => match us, hl with | [_], _ => rfl
    rw [hfa]
    exact ⟨K, fd, DW.spF ⟨K, mg⟩ LAW.m_law, KX, fun s v => b s [v] rfl, fun H a ns hl hS => DW.law_sp LAW.law_true H a ns hl hS (fun p hp => nomatch (show p ∈ ([] : List _) from hp)), fun base _ _ => LAW.facts (P := (PySem.Challenge.rw_wheelnines_k49_second_half_by_names).prog) (w := w) KX G ce rfl (by kernel_rfl) base F⟩

