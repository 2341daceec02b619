import PyProof.Rows.All
import Wide.All
import OpenK.AllK
import Wide.FinOn
import HandS.ForMost
import HandS.Walk
import HandS.Wide
import HandS.IsInst
import HandS.DictComp
import HandS.Flow
import HandS.Style
import HandS.Exc
import HandS.TupAny
import HandS.TupMul
import HandS.SortInts
import HandS.FStr
import HandS.ListItems
import HandS.Conv
import HandS.Lambda
import HandS.HeadHook4
import KE.KSortedM
import PyProof.DictUpdate
import PyProof.WalksMore
import PyProof.TupleIter
import PyProof.ConsumeWalk
import HandS.Defaults
import HandS.HeadEnd
import HandS.Head0
import HandS.Head1
import HandS.Head2
import HandS.HeadHook1
import HandS.HeadHook2
import KE.KStateDown
import HandS.RaiseMore
import HandS.ExcValue
import HandS.DictTup
import HandS.SortRule
import HandS.SetFor
import HandS.Strs
import HandS.ForExc
import HandS.ExcField
import KE.KExcSuper
import PyProof.Rows.StrOr
import PyProof.ReprRoads
import PySem.Challenge.RW_wheelnines_k45_whole_block_sums
/-! DW0: the defs of the law that make lambdas (printed per law by gen.py) -/
namespace DW
def lamNames : List PySem.Str := []
end DW

set_option Elab.async false
set_option linter.all false
set_option maxRecDepth 100000
set_option maxHeartbeats 4000000
/-! DW1: data without the heap, environments of data, the judgements over data -/
namespace DW
open PySem L2

/-! ### data -/
inductive Dt where
  | non | bl (b : Bool) | int (i : Int) | str (x : Str) | lst (xs : List Dt) | tup (xs : List Dt) | dct (kvs : List (Key × Dt)) | scr (ns : List Int) | xo (cls fld : Str) (val : Dt)
/-- an error object of the class cls, its dict at dd -/
def ExV (a : Addr) (cls : Value) (dd : Addr) : HO := .ext fun h => ∃ (oe : Obj) (vs : Array Value), h.get? a = some oe ∧ Zc cls (some dd) oe ∧ oe.data = .fields vs

mutual
inductive Da (K : PySem.W.Frag) (H : Hp) : V → Dt → Prop
  | non : Da K H .non .non
  | bl (b : Bool) : Da K H (.bl b) (.bl b)
  | int (i : Int) : Da K H (.int i) (.int i)
  | str (x : Str) : Da K H (.str x) (.str x)
  | lst {a : Addr} {xs : List V} {ds : List Dt} : H a = some (.lst xs) → DaAll K H xs ds → Da K H (.ref a) (.lst ds)
  | tup {a : Addr} {xs : List V} {ds : List Dt} : SqT K H a xs → DaAll K H xs ds → Da K H (.ref a) (.tup ds)
  | dct {a : Addr} {ks : List (Key × V)} {kvs : List (Key × Dt)} : H a = some (.dK ks) → DaKv K H ks kvs → Da K H (.ref a) (.dct kvs)
  | scr {a : Addr} {ns : List Int} : SqL K H a (ns.map V.int) → Da K H (.ref a) (.scr ns)
  | xo {a dd : Addr} {cls fld : Str} {v : V} {d : Dt} : H a = some (ExV a (.ref (He.ga K cls)) dd) → H dd = some (.xd [(fld, v)]) → Da K H v d → Da K H (.ref a) (.xo cls fld d)
inductive DaAll (K : PySem.W.Frag) (H : Hp) : List V → List Dt → Prop
  | nil : DaAll K H [] []
  | cons {v : V} {vs : List V} {d : Dt} {ds : List Dt} : Da K H v d → DaAll K H vs ds → DaAll K H (v :: vs) (d :: ds)
inductive DaKv (K : PySem.W.Frag) (H : Hp) : List (Key × V) → List (Key × Dt) → Prop
  | nil : DaKv K H [] []
  | cons {k : Key} {v : V} {ks : List (Key × V)} {d : Dt} {kvs : List (Key × Dt)} : Da K H v d → DaKv K H ks kvs → DaKv K H ((k, v) :: ks) ((k, d) :: kvs)
end

theorem seqL_mono {K : PySem.W.Frag} {H H' : Hp} {a : Addr} {xs : List V} (e : Same H H') (h : SqL K H a xs) : SqL K H' a xs := e.seq h
theorem seqT_mono {K : PySem.W.Frag} {H H' : Hp} {a : Addr} {xs : List V} (e : Same H H') (h : SqT K H a xs) : SqT K H' a xs := by
  rcases h with (h | ⟨o, h⟩) | h
  · exact .inl (.inl (e _ _ h))
  · exact .inl (.inr ⟨o, e _ _ h⟩)
  · exact .inr h

mutual
theorem Da.mono {K : PySem.W.Frag} {H H' : Hp} (e : Same H H') : ∀ {v : V} {d : Dt}, Da K H v d → Da K H' v d
  | _, _, .non => .non
  | _, _, .bl b => .bl b
  | _, _, .int i => .int i
  | _, _, .str x => .str x
  | _, _, .lst h1 h2 => .lst (e _ _ h1) (DaAll.mono e h2)
  | _, _, .scr h1 => .scr (seqL_mono e h1)
  | _, _, .xo h1 h2 h3 => .xo (e _ _ h1) (e _ _ h2) (Da.mono e h3)
  | _, _, .tup h1 h2 => .tup (seqT_mono e h1) (DaAll.mono e h2)
  | _, _, .dct h1 h2 => .dct (e _ _ h1) (DaKv.mono e h2)
theorem DaAll.mono {K : PySem.W.Frag} {H H' : Hp} (e : Same H H') : ∀ {v : List V} {d : List Dt}, DaAll K H v d → DaAll K H' v d
  | _, _, .nil => .nil
  | _, _, .cons h1 h2 => .cons (Da.mono e h1) (DaAll.mono e h2)
theorem DaKv.mono {K : PySem.W.Frag} {H H' : Hp} (e : Same H H') : ∀ {v : List (Key × V)} {d : List (Key × Dt)}, DaKv K H v d → DaKv K H' v d
  | _, _, .nil => .nil
  | _, _, .cons h1 h2 => .cons (Da.mono e h1) (DaKv.mono e h2)
end

theorem DaAll.length {K : PySem.W.Frag} {H : Hp} : ∀ {vs : List V} {ds : List Dt}, DaAll K H vs ds → vs.length = ds.length
  | _, _, .nil => rfl
  | _, _, .cons _ h => congrArg (· + 1) h.length
theorem DaAll.get {K : PySem.W.Frag} {H : Hp} : ∀ {vs : List V} {ds : List Dt} {i : Nat} {d : Dt}, DaAll K H vs ds → ds[i]? = some d → ∃ v, vs[i]? = some v ∧ Da K H v d
  | _, _, _, _, .nil, e => by simp at e
  | _, _, 0, _, .cons h _, e => by
    simp at e
    subst e
    exact ⟨_, rfl, h⟩
  | _, _, i + 1, _, .cons _ h, e => by
    simp at e
    obtain ⟨v, h1, h2⟩ := h.get e
    exact ⟨v, by simpa using h1, h2⟩
theorem DaAll.getV {K : PySem.W.Frag} {H : Hp} : ∀ {vs : List V} {ds : List Dt} {i : Nat} {v : V}, DaAll K H vs ds → vs[i]? = some v → ∃ d, ds[i]? = some d ∧ Da K H v d
  | _, _, _, _, .nil, e => by simp at e
  | _, _, 0, _, .cons h _, e => by
    simp at e
    subst e
    exact ⟨_, rfl, h⟩
  | _, _, i + 1, _, .cons _ h, e => by
    simp at e
    obtain ⟨v, h1, h2⟩ := h.getV e
    exact ⟨v, by simpa using h1, h2⟩
theorem DaAll.append {K : PySem.W.Frag} {H : Hp} : ∀ {vs ws : List V} {ds es : List Dt}, DaAll K H vs ds → DaAll K H ws es → DaAll K H (vs ++ ws) (ds ++ es)
  | _, _, _, _, .nil, h => h
  | _, _, _, _, .cons h1 h2, h => .cons h1 (h2.append h)
theorem DaAll.take {K : PySem.W.Frag} {H : Hp} : ∀ {vs : List V} {ds : List Dt} (n : Nat), DaAll K H vs ds → DaAll K H (vs.take n) (ds.take n)
  | _, _, 0, _ => .nil
  | _, _, _ + 1, .nil => .nil
  | _, _, n + 1, .cons h1 h2 => .cons h1 (h2.take n)
theorem DaAll.drop {K : PySem.W.Frag} {H : Hp} : ∀ {vs : List V} {ds : List Dt} (n : Nat), DaAll K H vs ds → DaAll K H (vs.drop n) (ds.drop n)
  | _, _, 0, h => h
  | _, _, _ + 1, .nil => .nil
  | _, _, n + 1, .cons h1 h2 => h2.drop n
theorem DaAll.ints {K : PySem.W.Frag} {H : Hp} : ∀ {vs : List V} {ns : List Int}, DaAll K H vs (ns.map Dt.int) → vs = ns.map V.int
  | _, [], h => by cases h; rfl
  | _, n :: ns, h => by
    cases h with
    | cons h1 h2 =>
      cases h1
      rw [h2.ints]
      rfl
theorem daInts {K : PySem.W.Frag} {H : Hp} : ∀ (ns : List Int), DaAll K H (ns.map V.int) (ns.map Dt.int)
  | [] => .nil
  | n :: ns => .cons (.int n) (daInts ns)
theorem DaAll.bls {K : PySem.W.Frag} {H : Hp} : ∀ {vs : List V} {ns : List Bool}, DaAll K H vs (ns.map Dt.bl) → vs = ns.map V.bl
  | _, [], h => by cases h; rfl
  | _, n :: ns, h => by
    cases h with
    | cons h1 h2 =>
      cases h1
      rw [h2.bls]
      rfl

/-! ### environments -/
inductive Sl where
  | fr (d : Dt) | ol (xs : List Dt) | od (kvs : List (Key × Dt)) | io (kvs : List (Key × Dt))
def Sl.own : Sl → Bool
  | .ol _ => true
  | .od _ => true
  | _ => false
def Sl.mut : Sl → Bool
  | .fr _ => false
  | _ => true
theorem Sl.mut_of_own {s : Sl} (h : s.own = true) : s.mut = true := by cases s <;> first | rfl | cases h
abbrev Rho := List (Option Sl)
structure Xc where
  cls : Str
  fld : Str
  val : Dt
inductive R (α : Type) where
  | ok (a : α) (ρ : Rho) | ex (e : Xc) (ρ : Rho) | bad
def R.bind {α β : Type} (r : R α) (g : α → Rho → R β) : R β := match r with
  | .ok a ρ => g a ρ
  | .ex e ρ => .ex e ρ
  | .bad => .bad
inductive SR where
  | nx (ρ : Rho) | rt (s : Sl) (ρ : Rho) | bk (ρ : Rho) | ct (ρ : Rho) | ex (e : Xc) (ρ : Rho) | bad
def R.bindS {α : Type} (r : R α) (g : α → Rho → SR) : SR := match r with
  | .ok a ρ => g a ρ
  | .ex e ρ => .ex e ρ
  | .bad => .bad

/-- where a body began: the base, the heap, the dict that it may change -/
structure Fm where
  H0 : Hp
  H : Hp
  io : Option Addr
structure Gr (F : Fm) (H0 H : Hp) : Prop where
  b0 : Same F.H0 H0
  keep : ∀ a o, F.H a = some o → F.io ≠ some a → H a = some o
  off : ∀ a, F.H a ≠ none → F.H0 a = none → H0 a = none
/-- not a table of code objects -/
def NT (o : HO) : Prop := ∀ ps, o ≠ .tbl ps
theorem nt_lst (xs : List V) : NT (.lst xs) := fun _ z => nomatch z
theorem nt_dK (xs : List (Key × V)) : NT (.dK xs) := fun _ z => nomatch z
/-- the tables of the defs that make lambdas -/
def tT (K : PySem.W.Frag) : List (Addr × Str) := lamNames.map fun n => ((He.cT K (n, none)).2, n ++ ".<locals>." ++ "<lambda>")
def TbOk (K : PySem.W.Frag) (H0 H : Hp) : Prop := ∀ p ∈ tT K, H0 p.1 = none ∧ LamX.TabS H p.1 p.2
/-- as Gr, but tables may have grown -/
structure Gw (F : Fm) (H0 H : Hp) : Prop where
  b0 : Same F.H0 H0
  keep : ∀ a o, F.H a = some o → NT o → F.io ≠ some a → H a = some o
  off : ∀ a, F.H a ≠ none → F.H0 a = none → H0 a = none
  st : ∀ a, F.H a ≠ none → H a ≠ none
theorem tab_away {K : PySem.W.Frag} {H0 H H0' H' : Hp} (t : TbOk K H0 H) (k : ∀ a o, H a = some o → (∀ xs, o ≠ .lst xs) → (∀ xs, o ≠ .dK xs) → H' a = some o) (f : ∀ a, H a ≠ none → H0 a = none → (∀ xs, H a ≠ some (.lst xs)) → (∀ xs, H a ≠ some (.dK xs)) → H0' a = none) : TbOk K H0' H' := fun p hp => by
  obtain ⟨h1, ps, h2, h3, h4⟩ := t p hp
  refine ⟨f p.1 (by rw [h2]; exact fun z => nomatch z) h1 (fun xs z => by rw [h2] at z; cases z) (fun xs z => by rw [h2] at z; cases z), ps, k _ _ h2 (fun _ z => nomatch z) (fun _ z => nomatch z), h3, fun pos cv hc => ?_⟩
  obtain ⟨c, e1, e2⟩ := h4 pos cv hc
  exact ⟨c, e1, k _ _ e2 (fun _ z => nomatch z) (fun _ z => nomatch z)⟩
def SlR (K : PySem.W.Frag) (F : Fm) (H0 H : Hp) (v : V) : Sl → Prop
  | .fr d => Da K H0 v d
  | .ol ds => ∃ a vs, v = .ref a ∧ H0 a = none ∧ F.H a = none ∧ H a = some (.lst vs) ∧ DaAll K H0 vs ds
  | .od kvs => ∃ a ks, v = .ref a ∧ H0 a = none ∧ F.H a = none ∧ H a = some (.dK ks) ∧ DaKv K H0 ks kvs
  | .io kvs => ∃ a ks, v = .ref a ∧ H0 a = none ∧ F.io = some a ∧ H a = some (.dK ks) ∧ DaKv K H0 ks kvs
structure En (K : PySem.W.Frag) (F : Fm) (H0 H : Hp) (σ : L2.St) (ρ : Rho) : Prop where
  gr : Gw F H0 H
  tb : TbOk K H0 H
  ex : Same H0 H
  len : σ.length = ρ.length
  sl : ∀ (i : Nat) (s : Sl), ρ[i]? = some (some s) → ∃ v, σ[i]? = some (some v) ∧ SlR K F H0 H v s
  sep : ∀ (i j : Nat) (s t : Sl) (a : Addr), i ≠ j → ρ[i]? = some (some s) → ρ[j]? = some (some t) → s.own = true → t.own = true → σ[i]? = some (some (.ref a)) → σ[j]? ≠ some (some (.ref a))
  io : ∀ a, F.io = some a → σ[0]? = some (some (.ref a)) ∧ (∃ kvs, ρ[0]? = some (some (.io kvs))) ∧ F.H a ≠ none
  io1 : ∀ (i : Nat) (kvs : List (Key × Dt)), ρ[i]? = some (some (.io kvs)) → i = 0

section
variable {K : PySem.W.Frag} {F : Fm} {H0 H H0' H' : Hp} {σ : L2.St} {ρ : Rho} {v : V} {d : Dt} {s : Sl} {i : Nat} {a p : Addr} {o : HO}

theorem En.ioAt (E : En K F H0 H σ ρ) (h : F.io = some a) : H0 a = none ∧ ∃ ks, H a = some (.dK ks) := by
  obtain ⟨h1, ⟨kvs, h2⟩, _⟩ := E.io a h
  obtain ⟨v, h3, b, ks, rfl, h4, h5, h6, _⟩ := E.sl 0 _ h2
  rw [h1] at h3
  cases h3
  exact ⟨h4, ks, h6⟩
/-- what stood at the beginning stands -/
theorem En.still (E : En K F H0 H σ ρ) (h : F.H a ≠ none) : H a ≠ none := E.gr.st a h
theorem Gw.refl (H0 H : Hp) (io : Option Addr) : Gw ⟨H0, H, io⟩ H0 H := ⟨Same.refl _, fun _ _ h _ _ => h, fun _ _ h => h, fun _ h => h⟩
theorem Gr.refl (H0 H : Hp) (io : Option Addr) (F : Fm := ⟨H0, H, io⟩) (e : F = ⟨H0, H, io⟩ := by rfl) : Gr F H0 H := by
  subst e
  exact ⟨Same.refl _, fun _ _ h _ => h, fun _ _ h => h⟩
theorem Gr.w (g : Gr ⟨H0, H, none⟩ H0' H') : Gw ⟨H0, H, none⟩ H0' H' := ⟨g.b0, fun a o h _ hi => g.keep a o h hi, g.off, fun a h => by
  have h : H a ≠ none := h
  cases e : H a with
  | none => exact absurd e h
  | some o =>
    rw [g.keep a o e (fun z => nomatch z)]
    exact fun z => nomatch z⟩
theorem Gr.tb (g : Gr ⟨H0, H, none⟩ H0' H') (t : TbOk K H0 H) : TbOk K H0' H' := tab_away t (fun a o h _ _ => g.keep a o h (fun z => nomatch z)) (fun a h h0 _ _ => g.off a h h0)
theorem SlR.grow (g : Gw ⟨H0, H, none⟩ H0' H') (h : SlR K F H0 H v s) : SlR K F H0' H' v s := by
  cases s with
  | fr d => exact Da.mono g.b0 h
  | ol ds =>
    obtain ⟨a, vs, rfl, h1, h2, h3, h4⟩ := h
    exact ⟨a, vs, rfl, g.off a (by show H a ≠ none; rw [h3]; exact fun z => nomatch z) h1, h2, g.keep a _ h3 (nt_lst _) (fun z => nomatch z), h4.mono g.b0⟩
  | od ds =>
    obtain ⟨a, vs, rfl, h1, h2, h3, h4⟩ := h
    exact ⟨a, vs, rfl, g.off a (by show H a ≠ none; rw [h3]; exact fun z => nomatch z) h1, h2, g.keep a _ h3 (nt_dK _) (fun z => nomatch z), h4.mono g.b0⟩
  | io ds =>
    obtain ⟨a, vs, rfl, h1, h2, h3, h4⟩ := h
    exact ⟨a, vs, rfl, g.off a (by show H a ≠ none; rw [h3]; exact fun z => nomatch z) h1, h2, g.keep a _ h3 (nt_dK _) (fun z => nomatch z), h4.mono g.b0⟩
/-- something was made, nothing was changed -/
theorem En.growW (E : En K F H0 H σ ρ) (g : Gw ⟨H0, H, none⟩ H0' H') (t : TbOk K H0' H') (e : Same H0' H') : En K F H0' H' σ ρ where
  gr := ⟨E.gr.b0.trans g.b0, fun a o h n hi => g.keep a o (E.gr.keep a o h n hi) n (fun z => nomatch z), fun a h h' => g.off a (E.still h) (E.gr.off a h h'), fun a h => g.st a (E.gr.st a h)⟩
  tb := t
  ex := e
  len := E.len
  sl := fun i s h => by
    obtain ⟨v, h1, h2⟩ := E.sl i s h
    exact ⟨v, h1, h2.grow g⟩
  sep := E.sep
  io := E.io
  io1 := E.io1
theorem En.grow (E : En K F H0 H σ ρ) (g : Gr ⟨H0, H, none⟩ H0' H') (e : Same H0' H') : En K F H0' H' σ ρ := E.growW g.w (g.tb E.tb) e
theorem gr_new (hp : H p = none) (e : Same H0 H) : Gr ⟨H0, H, none⟩ (upd H0 p o) (upd H p o) where
  b0 := fun a u h => by
    rw [upd_ne (ne_of_none (e a u h) hp)]
    exact h
  keep := fun a u h _ => by
    rw [upd_ne (ne_of_none h hp)]
    exact h
  off := fun a h h0 => by
    have : a ≠ p := fun z => h (z ▸ hp)
    rw [upd_ne this]
    exact h0
theorem same_new (hp : H p = none) (e : Same H0 H) : Same (upd H0 p o) (upd H p o) := fun a u h => by
  by_cases ha : a = p
  · subst ha
    rw [upd_same] at h ⊢
    exact h
  · rw [upd_ne ha] at h ⊢
    exact e a u h
theorem En.new (E : En K F H0 H σ ρ) (hp : H p = none) : En K F (upd H0 p o) (upd H p o) σ ρ := E.grow (gr_new hp E.ex) (same_new hp E.ex)
theorem En.newB0 (E : En K F H0 H σ ρ) (hp : H p = none) : Same H0 (upd H0 p o) := (gr_new (o := o) hp E.ex).b0
/-- new, not laid into the base -/
theorem gr_newO (hp : H p = none) : Gr ⟨H0, H, none⟩ H0 (upd H p o) where
  b0 := Same.refl _
  keep := fun a u h _ => by
    rw [upd_ne (ne_of_none h hp)]
    exact h
  off := fun a h h0 => h0
theorem same_newO (hp : H p = none) (e : Same H0 H) : Same H0 (upd H p o) := fun a u h => by
  rw [upd_ne (ne_of_none (e a u h) hp)]
  exact e a u h

/-- the address of a slot's own object -/
def OwnAt (σ : L2.St) (ρ : Rho) (a : Addr) : Prop := ∃ (i : Nat) (s : Sl), ρ[i]? = some (some s) ∧ s.mut = true ∧ σ[i]? = some (some (.ref a))
/-- one expression's doing -/
structure Mw (σ : L2.St) (ρ : Rho) (σ' : L2.St) (ρ' : Rho) (H0 H H0' H' : Hp) : Prop where
  b0 : Same H0 H0'
  keep : ∀ a o, H a = some o → NT o → ¬ OwnAt σ ρ a → H' a = some o
  off : ∀ a, H a ≠ none → H0 a = none → ¬ OwnAt σ ρ a → H0' a = none
  sub : ∀ a, OwnAt σ' ρ' a → OwnAt σ ρ a
  st : ∀ a, H a ≠ none → H' a ≠ none
abbrev Mv (σ : L2.St) (ρ ρ' : Rho) (H0 H H0' H' : Hp) : Prop := Mw σ ρ σ ρ' H0 H H0' H'
theorem Mv.refl : Mv σ ρ ρ H0 H H0 H := ⟨Same.refl _, fun _ _ h _ _ => h, fun _ _ h _ => h, fun _ h => h, fun _ h => h⟩
theorem Mw.fresh {p : Addr} {σ' : L2.St} {ρ' : Rho} (m : Mw σ ρ σ' ρ' H0 H H0' H') (hp : H' p = none) : H p = none := by
  cases e : H p with
  | none => rfl
  | some o => exact absurd hp (m.st p (by rw [e]; exact fun z => nomatch z))
theorem Mw.trans {σ1 σ2 : L2.St} {ρ1 ρ2 : Rho} {B0 B C0 C : Hp} (m : Mw σ ρ σ1 ρ1 H0 H B0 B) (n : Mw σ1 ρ1 σ2 ρ2 B0 B C0 C) : Mw σ ρ σ2 ρ2 H0 H C0 C where
  b0 := m.b0.trans n.b0
  keep := fun a o h t ho => n.keep a o (m.keep a o h t ho) t fun z => ho (m.sub a z)
  off := fun a h h0 ho => n.off a (m.st a h) (m.off a h h0 ho) fun z => ho (m.sub a z)
  sub := fun a h => m.sub a (n.sub a h)
  st := fun a h => n.st a (m.st a h)
theorem Mw.kl {σ' : L2.St} {ρ' : Rho} {xs : List V} (m : Mw σ ρ σ' ρ' H0 H H0' H') (a : Addr) (h : H a = some (.lst xs)) (n : ¬ OwnAt σ ρ a) : H' a = some (.lst xs) := m.keep a _ h (nt_lst xs) n
theorem Mw.kd {σ' : L2.St} {ρ' : Rho} {xs : List (Key × V)} (m : Mw σ ρ σ' ρ' H0 H H0' H') (a : Addr) (h : H a = some (.dK xs)) (n : ¬ OwnAt σ ρ a) : H' a = some (.dK xs) := m.keep a _ h (nt_dK xs) n
theorem Gw.mv (g : Gw ⟨H0, H, none⟩ H0' H') : Mv σ ρ ρ H0 H H0' H' := ⟨g.b0, fun a o h t _ => g.keep a o h t (fun z => nomatch z), fun a h h0 _ => g.off a h h0, fun _ h => h, fun a h => g.st a h⟩
theorem Gr.mv (g : Gr ⟨H0, H, none⟩ H0' H') : Mv σ ρ ρ H0 H H0' H' := g.w.mv
theorem gw_upd {ks : List (Key × V)} {ks' : List (Key × V)} (hH : H a = some (.dK ks)) : Gw ⟨H0, H, some a⟩ H0 (upd H a (.dK ks')) := ⟨Same.refl _, fun b o hb _ hn => by
  have nb : b ≠ a := fun z => hn (by rw [z])
  rw [upd_ne nb]
  exact hb, fun _ _ h => h, fun b hb => by
  by_cases z : b = a
  · rw [z, upd_same]
    exact fun z => nomatch z
  · rw [upd_ne z]
    exact hb⟩
theorem tb_upd {ks : List (Key × V)} (t : TbOk K H0 H) (hH : H a = some (.dK ks)) : TbOk K H0 (upd H a o) := tab_away t (fun b u hb _ n2 => by
  have nb : b ≠ a := fun z => n2 ks (by rw [z, hH] at hb; exact (Option.some.inj hb).symm)
  rw [upd_ne nb]
  exact hb) (fun _ _ h _ _ => h)

/-! ### the judgements -/
structure Gx where
  K : PySem.W.Frag
  mg : Str → Option Value
abbrev gx (X : Cx) : Gx := ⟨X.K, X.mg⟩
abbrev WX := Value → Option Addr → L2.St → Hp → Prop
/-- an exception e: its class, its own dict -/
def XR (g : Gx) (F : Fm) (H0 H : Hp) (e : Xc) (c : Value) (da : Option Addr) : Prop := ∃ p v, g.mg e.cls = some c ∧ da = some p ∧ F.H p = none ∧ H p = some (.xd [(e.fld, v)]) ∧ Da g.K H0 v e.val
def XW (g : Gx) (F : Fm) (W : WX) (σ : L2.St) (e : Xc) (ρ' : Rho) : Prop := ∀ c da H0' H', XR g F H0' H' e c da → En g.K F H0' H' σ ρ' → W c da σ H'
def tD (g : Gx) (F : Fm) (W : WX) (f : Rho → R Dt) : TE := fun σ H Q => ∃ H0 ρ, En g.K F H0 H σ ρ ∧ match f ρ with
  | .ok d ρ' => ∀ v H0' H', En g.K F H0' H' σ ρ' → Mv σ ρ ρ' H0 H H0' H' → Da g.K H0' v d → Q v H'
  | .ex e ρ' => XW g F W σ e ρ'
  | .bad => False
def tO (g : Gx) (F : Fm) (W : WX) (f : Rho → R Sl) : TE := fun σ H Q => ∃ H0 ρ, En g.K F H0 H σ ρ ∧ match f ρ with
  | .ok s ρ' => ∀ v H0' H', En g.K F H0' H' σ ρ' → Mv σ ρ ρ' H0 H H0' H' → SlR g.K F H0' H' v s → (s.own = true → ∀ a, v = .ref a → H a = none) → Q v H'
  | .ex e ρ' => XW g F W σ e ρ'
  | .bad => False
def tDT (g : Gx) (F : Fm) (W : WX) (f : Rho → R Bool) : TT := fun σ H Q => ∃ H0 ρ, En g.K F H0 H σ ρ ∧ match f ρ with
  | .ok b ρ' => ∀ H0' H', En g.K F H0' H' σ ρ' → Mv σ ρ ρ' H0 H H0' H' → Q b H'
  | .ex e ρ' => XW g F W σ e ρ'
  | .bad => False
def tDA (g : Gx) (F : Fm) (W : WX) (f : Rho → R (List Dt)) : TA := fun σ H Q => ∃ H0 ρ, En g.K F H0 H σ ρ ∧ match f ρ with
  | .ok ds ρ' => ∀ vs H0' H', En g.K F H0' H' σ ρ' → Mv σ ρ ρ' H0 H H0' H' → DaAll g.K H0' vs ds → Q vs H'
  | .ex e ρ' => XW g F W σ e ρ'
  | .bad => False
def PostS (g : Gx) (F : Fm) (W : WX) (D : Ends) (H0 : Hp) : SR → Prop
  | .nx ρ' => ∀ σ' H0' H', En g.K F H0' H' σ' ρ' → Same H0 H0' → D.nx σ' H'
  | .rt s ρ' => ∀ v σ' H0' H', En g.K F H0' H' σ' ρ' → SlR g.K F H0' H' v s → D.rt v H'
  | .bk ρ' => ∀ σ' H0' H', En g.K F H0' H' σ' ρ' → Same H0 H0' → D.bk σ' H'
  | .ct ρ' => ∀ σ' H0' H', En g.K F H0' H' σ' ρ' → Same H0 H0' → D.ct σ' H'
  | .ex e ρ' => ∀ σ', XW g F W σ' e ρ'
  | .bad => False
def tS (g : Gx) (F : Fm) (W : WX) (f : Rho → SR) : TS := fun D σ H => ∃ H0 ρ, En g.K F H0 H σ ρ ∧ PostS g F W D H0 (f ρ)
theorem PostS.mono {g : Gx} {F : Fm} {W : WX} {D : Ends} {H0 H0' : Hp} {r : SR} (s : Same H0 H0') (h : PostS g F W D H0 r) : PostS g F W D H0' r := by
  cases r with
  | nx ρ' => exact fun σ' C0 C E t => h σ' C0 C E (s.trans t)
  | rt s ρ' => exact h
  | bk ρ' => exact fun σ' C0 C E t => h σ' C0 C E (s.trans t)
  | ct ρ' => exact fun σ' C0 C E t => h σ' C0 C E (s.trans t)
  | ex _ _ => exact h
  | bad => exact h
def DE (X : Cx) (W : WX) (e : Expr) (f : Rho → R Dt) : Prop := ∀ F, PE X e (tD (gx X) F W f)
def DO (X : Cx) (W : WX) (e : Expr) (f : Rho → R Sl) : Prop := ∀ F, PE X e (tO (gx X) F W f)
def DT (X : Cx) (W : WX) (e : Expr) (f : Rho → R Bool) : Prop := ∀ F, PT X e (tDT (gx X) F W f)
def DW' (X : Cx) (W : WX) (e : Expr) (f : Rho → R Bool) : Prop := ∀ F, PW X e (tDT (gx X) F W f)
def DA (X : Cx) (W : WX) (es : List Expr) (f : Rho → R (List Dt)) : Prop := ∀ F, PA X es (tDA (gx X) F W f)
def DS (X : Cx) (W : WX) (st : Stmt) (f : Rho → SR) : Prop := ∀ F, PS X st (tS (gx X) F W f)
def DSs (X : Cx) (W : WX) (st : List Stmt) (f : Rho → SR) : Prop := ∀ F, PSs X st (tS (gx X) F W f)
end

section
variable {X : Cx} {W : WX}
theorem PE.wk {e : Expr} {t u : TE} (h : PE X e t) (k : ∀ σ H Q, u σ H Q → t σ H Q) : PE X e u := ⟨fun pins s σ H Q I q => h.run pins s σ H Q I (k σ H Q q)⟩
theorem PT.wk {e : Expr} {t u : TT} (h : PT X e t) (k : ∀ σ H Q, u σ H Q → t σ H Q) : PT X e u := ⟨fun pins s σ H Q I q => h.run pins s σ H Q I (k σ H Q q)⟩
theorem PW.wk {e : Expr} {t u : TT} (h : PW X e t) (k : ∀ σ H Q, u σ H Q → t σ H Q) : PW X e u := ⟨fun w pins s σ H Q I q => h.run w pins s σ H Q I (k σ H Q q)⟩
theorem PA.wk {e : List Expr} {t u : TA} (h : PA X e t) (k : ∀ σ H Q, u σ H Q → t σ H Q) : PA X e u := ⟨fun p pins s σ H Q I q => h.run p pins s σ H Q I (k σ H Q q)⟩
theorem PS.wk {e : Stmt} {t u : TS} (h : PS X e t) (k : ∀ D σ H, u D σ H → t D σ H) : PS X e u := ⟨fun pins s σ H D I q => h.run pins s σ H D I (k D σ H q)⟩
theorem PSs.wk {e : List Stmt} {t u : TS} (h : PSs X e t) (k : ∀ D σ H, u D σ H → t D σ H) : PSs X e u := ⟨fun pins s σ H D I q => h.run pins s σ H D I (k D σ H q)⟩
end
end DW

set_option Elab.async false
set_option linter.all false
set_option maxRecDepth 100000
set_option maxHeartbeats 4000000
/-! DW2: expressions, tests, arguments, statements over data -/
namespace DW
open PySem L2

section
variable {K : PySem.W.Frag} {F : Fm} {H0 H H0' H' : Hp} {σ : L2.St} {ρ : Rho} {v : V} {d : Dt} {s : Sl} {i : Nat} {a p : Addr} {o : HO}
theorem set_get {α : Type} {l : List α} {i j : Nat} {x y : α} (h : (l.set i x)[j]? = some y) : (j = i ∧ y = x) ∨ (j ≠ i ∧ l[j]? = some y) := by
  by_cases e : i = j
  · subst e
    have hl : i < (l.set i x).length := by
      cases q : (l.set i x)[i]? with
      | none => rw [q] at h; cases h
      | some z => exact (List.getElem?_eq_some_iff.mp q).1
    rw [List.length_set] at hl
    rw [List.getElem?_set_self hl] at h
    exact .inl ⟨rfl, (Option.some.inj h).symm⟩
  · rw [List.getElem?_set_ne e] at h
    exact .inr ⟨Ne.symm e, h⟩
theorem lt_of_get {α : Type} {l : List α} {i : Nat} {x : α} (h : l[i]? = some x) : i < l.length := (List.getElem?_eq_some_iff.mp h).1

def noIo (ρ : Rho) : Bool := match (ρ[0]? : Option (Option Sl)) with
  | some (some (.io _)) => false
  | _ => true
def putR (i : Nat) (s : Sl) (ρ : Rho) : Option Rho := if i = 0 ∧ noIo ρ = false then none else some (ρ.set i (some s))
/-- a slot is stored -/
theorem En.put (E : En K F H0 H σ ρ) (hs : SlR K F H0 H v s) (hio : ∀ kvs, s ≠ .io kvs) (hsep : s.own = true → ∀ a, v = .ref a → ¬ OwnAt σ ρ a) {ρ' : Rho} (h : putR i s ρ = some ρ') : En K F H0 H (σ.set i (some v)) ρ' := by
  unfold putR at h
  split at h
  · cases h
  · rename_i hn
    cases h
    refine ⟨E.gr, E.tb, E.ex, by rw [List.length_set, List.length_set, E.len], fun j t e => ?_, fun j k t u b hjk e1 e2 o1 o2 h1 h2 => ?_, fun b hb => ?_, fun j kvs e => ?_⟩
    · rcases set_get e with ⟨rfl, e2⟩ | ⟨hne, e2⟩
      · cases e2
        have hl : j < σ.length := by
          rw [E.len]
          have := lt_of_get e
          rw [List.length_set] at this
          exact this
        exact ⟨v, List.getElem?_set_self hl, hs⟩
      · obtain ⟨w, h1, h2⟩ := E.sl j t e2
        exact ⟨w, by rw [List.getElem?_set_ne (Ne.symm hne)]; exact h1, h2⟩
    · rcases set_get e1 with ⟨rfl, z1⟩ | ⟨n1, z1⟩
      · cases z1
        rcases set_get e2 with ⟨rfl, z2⟩ | ⟨n2, z2⟩
        · exact hjk rfl
        · rcases set_get h1 with ⟨_, y1⟩ | ⟨n, _⟩
          · cases y1
            rcases set_get h2 with ⟨e, _⟩ | ⟨_, y2⟩
            · exact n2 e
            · exact hsep o1 b rfl ⟨k, u, z2, Sl.mut_of_own o2, y2⟩
          · exact n rfl
      · rcases set_get e2 with ⟨rfl, z2⟩ | ⟨n2, z2⟩
        · cases z2
          rcases set_get h2 with ⟨_, y2⟩ | ⟨n, _⟩
          · cases y2
            rcases set_get h1 with ⟨e, _⟩ | ⟨_, y1⟩
            · exact n1 e
            · exact hsep o2 b rfl ⟨j, t, z1, Sl.mut_of_own o1, y1⟩
          · exact n rfl
        · rcases set_get h1 with ⟨e, _⟩ | ⟨_, y1⟩
          · exact n1 e
          · rcases set_get h2 with ⟨e, _⟩ | ⟨_, y2⟩
            · exact n2 e
            · exact E.sep j k t u b hjk z1 z2 o1 o2 y1 y2
    · obtain ⟨h1, ⟨kvs, h2⟩, h3⟩ := E.io b hb
      have hi : i ≠ 0 := fun z => hn ⟨z, by unfold noIo; rw [h2]⟩
      exact ⟨by rw [List.getElem?_set_ne hi]; exact h1, ⟨kvs, by rw [List.getElem?_set_ne hi]; exact h2⟩, h3⟩
    · rcases set_get e with ⟨rfl, e2⟩ | ⟨hne, e2⟩
      · exact absurd (Option.some.inj e2).symm (hio kvs)
      · exact E.io1 j kvs e2
theorem En.putFr (E : En K F H0 H σ ρ) (hs : Da K H0 v d) {ρ' : Rho} (h : putR i (.fr d) ρ = some ρ') : En K F H0 H (σ.set i (some v)) ρ' := E.put (s := .fr d) hs (fun _ z => nomatch z) (fun z => nomatch z) h

/-- a list of one's own is changed -/
theorem En.mutL (E : En K F H0 H σ ρ) {ds ds' : List Dt} {vs' : List V} (hi : ρ[i]? = some (some (.ol ds))) (hv : σ[i]? = some (some (.ref a))) (hd : DaAll K H0 vs' ds') :
    En K F H0 (upd H a (.lst vs')) σ (ρ.set i (some (.ol ds'))) := by
  obtain ⟨v, h1, b, vs, rfl, h3, h4, h5, h6⟩ := E.sl i _ hi
  rw [hv] at h1
  cases h1
  have hli : i < ρ.length := lt_of_get hi
  have h0i : F.io ≠ some a := fun z => (E.io a z).2.2 h4
  have kp : ∀ b o, H b = some o → b ≠ a → upd H a (.lst vs') b = some o := fun b o hb n => by
    rw [upd_ne n]
    exact hb
  refine ⟨⟨E.gr.b0, fun b o hb nt hi => ?_, E.gr.off, fun b hb => ?_⟩, tab_away E.tb (fun b o hb n1 _ => kp b o hb fun z => n1 vs (by rw [z, h5] at hb; exact (Option.some.inj hb).symm)) (fun b _ h0 _ _ => h0), fun b u hb => ?_, by rw [List.length_set]; exact E.len, fun j t e => ?_, fun j k t u b hjk e1 e2 o1 o2 y1 y2 => ?_, fun b hb => ?_, fun j kvs e => ?_⟩
  · have : b ≠ a := fun z => by
      rw [z, h4] at hb
      cases hb
    rw [upd_ne this]
    exact E.gr.keep b o hb nt hi
  · by_cases z : b = a
    · rw [z, upd_same]
      exact fun z => nomatch z
    · rw [upd_ne z]
      exact E.gr.st b hb
  · have : b ≠ a := fun z => by
      rw [z, h3] at hb
      cases hb
    rw [upd_ne this]
    exact E.ex b u hb
  · rcases set_get e with ⟨rfl, z⟩ | ⟨hne, z⟩
    · cases z
      exact ⟨_, hv, a, vs', rfl, h3, h4, upd_same, hd⟩
    · obtain ⟨w, y1, y2⟩ := E.sl j t z
      refine ⟨w, y1, ?_⟩
      cases t with
      | fr d => exact y2
      | ol es =>
        obtain ⟨c, us, rfl, q1, q2, q3, q4⟩ := y2
        have : c ≠ a := fun z' => E.sep j i _ _ a hne z hi rfl rfl (z' ▸ y1) hv
        exact ⟨c, us, rfl, q1, q2, by rw [upd_ne this]; exact q3, q4⟩
      | od es =>
        obtain ⟨c, us, rfl, q1, q2, q3, q4⟩ := y2
        have : c ≠ a := fun z' => E.sep j i _ _ a hne z hi rfl rfl (z' ▸ y1) hv
        exact ⟨c, us, rfl, q1, q2, by rw [upd_ne this]; exact q3, q4⟩
      | io es =>
        obtain ⟨c, us, rfl, q1, q2, q3, q4⟩ := y2
        have : c ≠ a := fun z' => h0i (z' ▸ q2)
        exact ⟨c, us, rfl, q1, q2, by rw [upd_ne this]; exact q3, q4⟩
  · have own : ∀ (j : Nat) (t : Sl), (ρ.set i (some (.ol ds')))[j]? = some (some t) → t.own = true → ∃ t', ρ[j]? = some (some t') ∧ t'.own = true := fun j t e o => by
      rcases set_get e with ⟨rfl, z⟩ | ⟨_, z⟩
      · exact ⟨_, hi, rfl⟩
      · exact ⟨t, z, o⟩
    obtain ⟨t', q1, q2⟩ := own j t e1 o1
    obtain ⟨u', q3, q4⟩ := own k u e2 o2
    exact E.sep j k t' u' b hjk q1 q3 q2 q4 y1 y2
  · obtain ⟨y1, ⟨kvs, y2⟩, y3⟩ := E.io b hb
    have hi0 : i ≠ 0 := fun z => by
      subst z
      rw [hi] at y2
      cases y2
    exact ⟨y1, ⟨kvs, by rw [List.getElem?_set_ne hi0]; exact y2⟩, y3⟩
  · rcases set_get e with ⟨rfl, e2⟩ | ⟨hne, e2⟩
    · cases e2
    · exact E.io1 j kvs e2
/-- a dict of one's own, or the one that was handed in, is changed (by the base's growth, too) -/
theorem En.mutD (E : En K F H0 H σ ρ) {s s' : Sl} {ks' : List (Key × V)} {kvs' : List (Key × Dt)} (hi : ρ[i]? = some (some s)) (hv : σ[i]? = some (some (.ref a)))
    (hk : (∃ kvs, s = .od kvs ∧ s' = .od kvs') ∨ (∃ kvs, s = .io kvs ∧ s' = .io kvs'))
    (g : Gw ⟨H0, H, some a⟩ H0' H') (tt : TbOk K H0' H') (e : Same H0' H') (ha : H' a = some (.dK ks')) (hd : DaKv K H0' ks' kvs') :
    En K F H0' H' σ (ρ.set i (some s')) := by
  obtain ⟨v, h1, hsl⟩ := E.sl i _ hi
  rw [hv] at h1
  cases h1
  have hli : i < ρ.length := lt_of_get hi
  have hmut : s.mut = true := by rcases hk with ⟨_, rfl, _⟩ | ⟨_, rfl, _⟩ <;> rfl
  have hA : H0 a = none ∧ (∃ ks, H a = some (.dK ks)) ∧ ((F.H a = none ∧ s.own = true) ∨ F.io = some a) := by
    rcases hk with ⟨_, rfl, _⟩ | ⟨_, rfl, _⟩
    · obtain ⟨b, ks, e', q1, q2, q3, q4⟩ := hsl
      cases e'
      exact ⟨q1, ⟨ks, q3⟩, .inl ⟨q2, rfl⟩⟩
    · obtain ⟨b, ks, e', q1, q2, q3, q4⟩ := hsl
      cases e'
      exact ⟨q1, ⟨ks, q3⟩, .inr q2⟩
  obtain ⟨h3, ⟨ks, h5⟩, h4⟩ := hA
  have h3' : H0' a = none := g.off a (by show H a ≠ none; rw [h5]; exact fun z => nomatch z) h3
  have keep : ∀ b o, b ≠ a → NT o → H b = some o → H' b = some o := fun b o hb n q => g.keep b o q n fun z => hb (Option.some.inj z).symm
  have own : ∀ (j : Nat) (t : Sl), (ρ.set i (some s'))[j]? = some (some t) → t.own = true → ∃ t', ρ[j]? = some (some t') ∧ t'.own = true := fun j t e o => by
    rcases set_get e with ⟨rfl, z⟩ | ⟨_, z⟩
    · cases z
      refine ⟨_, hi, ?_⟩
      rcases hk with ⟨_, rfl, _⟩ | ⟨_, _, rfl⟩
      · rfl
      · cases o
    · exact ⟨t, z, o⟩
  refine ⟨⟨E.gr.b0.trans g.b0, fun b o hb nt hio => ?_, fun b hb h0 => ?_, fun b hb => g.st b (E.gr.st b hb)⟩, tt, e, by rw [List.length_set]; exact E.len, fun j t e1 => ?_, fun j k t u b hjk e1 e2 o1 o2 y1 y2 => ?_, fun b hb => ?_, fun j kvs e1 => ?_⟩
  · have : b ≠ a := fun z => by
      subst z
      rcases h4 with ⟨q, _⟩ | q
      · rw [q] at hb
        cases hb
      · exact hio q
    exact keep b o this nt (E.gr.keep b o hb nt hio)
  · exact g.off b (E.still hb) (E.gr.off b hb h0)
  · rcases set_get e1 with ⟨rfl, z⟩ | ⟨hne, z⟩
    · cases z
      refine ⟨_, hv, ?_⟩
      rcases hk with ⟨_, rfl, rfl⟩ | ⟨_, rfl, rfl⟩
      · rcases h4 with ⟨q, _⟩ | q
        · exact ⟨a, ks', rfl, h3', q, ha, hd⟩
        · obtain ⟨b, ks, e', q1, q2, q3, q4⟩ := hsl
          cases e'
          exact ⟨a, ks', rfl, h3', q2, ha, hd⟩
      · obtain ⟨b, ks, e', q1, q2, q3, q4⟩ := hsl
        cases e'
        exact ⟨a, ks', rfl, h3', q2, ha, hd⟩
    · obtain ⟨w, y1, y2⟩ := E.sl j t z
      refine ⟨w, y1, ?_⟩
      have away : ∀ c, w = .ref c → t.mut = true → F.H c = none ∨ F.io = some c → t.own = true ∨ (∃ k, t = .io k) → c ≠ a := fun c ec tm hc ht z' => by
        subst ec z'
        rcases h4 with ⟨q, so⟩ | q
        · rcases ht with ht | ⟨k, rfl⟩
          · exact E.sep j i _ _ c hne z hi ht so y1 hv
          · obtain ⟨c', us, e', q1, q2, _⟩ := y2
            cases e'
            exact (E.io c q2).2.2 q
        · obtain ⟨x1, ⟨kv, x2⟩, x3⟩ := E.io c q
          rcases ht with ht | ⟨k, rfl⟩
          · have : F.H c = none := by
              cases t with
              | fr d => cases ht
              | ol es => obtain ⟨c', us, e', q1, q2, _⟩ := y2; cases e'; exact q2
              | od es => obtain ⟨c', us, e', q1, q2, _⟩ := y2; cases e'; exact q2
              | io es => cases ht
            exact x3 this
          · -- both io: the same slot
            have hj0 : s.own = false ∨ s.own = true := by cases s.own <;> simp
            rcases hk with ⟨_, rfl, rfl⟩ | ⟨_, rfl, rfl⟩
            · obtain ⟨b, ks, e', q1, q2, q3, q4⟩ := hsl
              cases e'
              exact x3 q2
            · exact hne ((E.io1 j k z).trans (E.io1 i _ hi).symm)
      cases t with
      | fr d => exact Da.mono g.b0 y2
      | ol es =>
        obtain ⟨c, us, rfl, q1, q2, q3, q4⟩ := y2
        exact ⟨c, us, rfl, g.off c (by show H c ≠ none; rw [q3]; exact fun z => nomatch z) q1, q2, keep c _ (away c rfl rfl (.inl q2) (.inl rfl)) (nt_lst _) q3, q4.mono g.b0⟩
      | od es =>
        obtain ⟨c, us, rfl, q1, q2, q3, q4⟩ := y2
        exact ⟨c, us, rfl, g.off c (by show H c ≠ none; rw [q3]; exact fun z => nomatch z) q1, q2, keep c _ (away c rfl rfl (.inl q2) (.inl rfl)) (nt_dK _) q3, q4.mono g.b0⟩
      | io es =>
        obtain ⟨c, us, rfl, q1, q2, q3, q4⟩ := y2
        exact ⟨c, us, rfl, g.off c (by show H c ≠ none; rw [q3]; exact fun z => nomatch z) q1, q2, keep c _ (away c rfl rfl (.inr q2) (.inr ⟨_, rfl⟩)) (nt_dK _) q3, q4.mono g.b0⟩
  · obtain ⟨t', q1, q2⟩ := own j t e1 o1
    obtain ⟨u', q3, q4⟩ := own k u e2 o2
    exact E.sep j k t' u' b hjk q1 q3 q2 q4 y1 y2
  · obtain ⟨y1, ⟨kvs, y2⟩, y3⟩ := E.io b hb
    by_cases hi0 : i = 0
    · subst hi0
      rw [hi] at y2
      cases y2
      rcases hk with ⟨_, q, _⟩ | ⟨_, _, rfl⟩
      · cases q
      · exact ⟨y1, ⟨kvs', List.getElem?_set_self hli⟩, y3⟩
    · exact ⟨y1, ⟨kvs, by rw [List.getElem?_set_ne hi0]; exact y2⟩, y3⟩
  · rcases set_get e1 with ⟨rfl, e2⟩ | ⟨hne, e2⟩
    · cases e2
      rcases hk with ⟨_, rfl, q⟩ | ⟨_, rfl, q⟩
      · cases q
      · exact E.io1 _ _ hi
    · exact E.io1 j kvs e2
end
end DW

set_option Elab.async false
set_option linter.all false
set_option maxRecDepth 100000
set_option maxHeartbeats 4000000
/-! DW3: expressions over data -/
namespace DW
open PySem L2

/-! ### data as the library's data -/
mutual
def toPy : Dt → PyData
  | .non => .none
  | .bl b => .bool b
  | .int i => .int i
  | .str x => .str x
  | .lst xs => .list (toPyAll xs)
  | .tup xs => .tuple (toPyAll xs)
  | .dct kvs => .dict (toPyKv kvs)
  | .scr ns => .list (ns.map PyData.int)
  | .xo _ _ _ => .none
def toPyAll : List Dt → List PyData
  | [] => []
  | d :: ds => toPy d :: toPyAll ds
def toPyKv : List (Key × Dt) → List (PyData × PyData)
  | [] => []
  | (k, d) :: ds => ((match k with | .inl i => .int i | .inr x => .str x), toPy d) :: toPyKv ds
end
theorem toPyAll_map : ∀ ds : List Dt, toPyAll ds = ds.map toPy
  | [] => by simp [toPyAll]
  | d :: ds => by simp [toPyAll, toPyAll_map ds]
mutual
/-- no dict within -/
def plainD : Dt → Bool
  | .lst xs => plainAll xs
  | .tup xs => plainAll xs
  | .dct _ => false
  | .non => true
  | .bl _ => true
  | .int _ => true
  | .str _ => true
  | .scr _ => true
  | .xo _ _ _ => false
def plainAll : List Dt → Bool
  | [] => true
  | d :: ds => plainD d && plainAll ds
end
theorem dpInts {K : PySem.W.Frag} {H : Hp} : ∀ ns : List Int, DpAll K H (ns.map V.int) (ns.map PyData.int)
  | [] => .nil
  | n :: ns => .cons (.int n) (dpInts ns)
mutual
theorem Da.dp {K : PySem.W.Frag} {H : Hp} : ∀ {v : V} {d : Dt}, Da K H v d → plainD d = true → Dp K H v (toPy d)
  | _, _, .non, _ => .non
  | _, _, .bl b, _ => .bl b
  | _, _, .int i, _ => .int i
  | _, _, .str x, _ => .str x
  | _, _, .lst h1 h2, p => .lst (SqL.of h1) (DaAll.dp h2 (by simpa [plainD] using p))
  | _, _, .tup h1 h2, p => .tup h1 (DaAll.dp h2 (by simpa [plainD] using p))
  | _, _, .dct _ _, p => by simp [plainD] at p
  | _, _, .scr h, _ => .lst h (dpInts _)
  | _, _, .xo _ _ _, p => by simp [plainD] at p
theorem DaAll.dp {K : PySem.W.Frag} {H : Hp} : ∀ {v : List V} {d : List Dt}, DaAll K H v d → plainAll d = true → DpAll K H v (toPyAll d)
  | _, _, .nil, _ => .nil
  | _, _, .cons h1 h2, p => by
    simp only [plainAll, Bool.and_eq_true] at p
    exact .cons (Da.dp h1 p.1) (DaAll.dp h2 p.2)
end
def shp (d : Dt) : Bool := plainD d && SeqAt.shaped (toPy d)
def eqt (d e : Dt) : Bool := PyData.eqv (toPy d) (toPy e)

section
variable {K : PySem.W.Frag} {F : Fm} {H0 H H0' H' : Hp} {σ : L2.St} {ρ : Rho} {v : V} {d : Dt} {s : Sl} {i : Nat} {a p : Addr} {o : HO}
/-! ### freezing a slot -/
theorem En.frz (E : En K F H0 H σ ρ) {o : HO} {dd : Dt} (hi : ρ[i]? = some (some s)) (hs : s.own = true) (hv : σ[i]? = some (some (.ref a))) (h0 : H0 a = none) (hF : F.H a = none) (hH : H a = some o) (nt : NT o)
    (hd : Da K (upd H0 a o) (.ref a) dd) : En K F (upd H0 a o) H σ (ρ.set i (some (.fr dd))) ∧ Mv σ ρ (ρ.set i (some (.fr dd))) H0 H (upd H0 a o) H := by
  have sm : Same H0 (upd H0 a o) := fun b u hb => by
    rw [upd_ne (ne_of_none hb h0)]
    exact hb
  have owner : ∀ (j : Nat) (t : Sl), (ρ.set i (some (.fr dd)))[j]? = some (some t) → t.mut = true → j ≠ i ∧ ρ[j]? = some (some t) := fun j t e m => by
    rcases set_get e with ⟨rfl, z⟩ | ⟨hne, z⟩
    · cases z
      cases m
    · exact ⟨hne, z⟩
  have na : ∀ p ∈ tT K, p.1 ≠ a := fun p hp z => by
    obtain ⟨_, ps, h2, _⟩ := E.tb p hp
    rw [z, hH] at h2
    exact nt ps (Option.some.inj h2)
  refine ⟨⟨⟨E.gr.b0.trans sm, E.gr.keep, fun b hb h => ?_, E.gr.st⟩, fun p hp => ⟨by rw [upd_ne (na p hp)]; exact (E.tb p hp).1, (E.tb p hp).2⟩, fun b u hb => ?_, by rw [List.length_set]; exact E.len, fun j t e => ?_, fun j k t u b hjk e1 e2 o1 o2 y1 y2 => ?_, fun b hb => ?_, fun j kvs e => ?_⟩, ⟨sm, fun b u hb _ _ => hb, fun b hb h hn => ?_, fun b ⟨j, t, e, m, y⟩ => ?_, fun _ h => h⟩⟩
  · have : b ≠ a := fun z => hb (z ▸ hF)
    rw [upd_ne this]
    exact E.gr.off b hb h
  · by_cases hba : b = a
    · subst hba
      rw [upd_same] at hb
      cases hb
      exact hH
    · rw [upd_ne hba] at hb
      exact E.ex b u hb
  · rcases set_get e with ⟨rfl, z⟩ | ⟨hne, z⟩
    · cases z
      exact ⟨_, hv, hd⟩
    · obtain ⟨w, y1, y2⟩ := E.sl j t z
      refine ⟨w, y1, ?_⟩
      cases t with
      | fr d => exact Da.mono sm y2
      | ol es =>
        obtain ⟨c, us, rfl, q1, q2, q3, q4⟩ := y2
        have : c ≠ a := fun z' => E.sep j i _ _ a hne z hi rfl hs (z' ▸ y1) hv
        exact ⟨c, us, rfl, by rw [upd_ne this]; exact q1, q2, q3, q4.mono sm⟩
      | od es =>
        obtain ⟨c, us, rfl, q1, q2, q3, q4⟩ := y2
        have : c ≠ a := fun z' => E.sep j i _ _ a hne z hi rfl hs (z' ▸ y1) hv
        exact ⟨c, us, rfl, by rw [upd_ne this]; exact q1, q2, q3, q4.mono sm⟩
      | io es =>
        obtain ⟨c, us, rfl, q1, q2, q3, q4⟩ := y2
        have : c ≠ a := fun z' => (E.io c q2).2.2 (z' ▸ hF)
        exact ⟨c, us, rfl, by rw [upd_ne this]; exact q1, q2, q3, q4.mono sm⟩
  · obtain ⟨_, q1⟩ := owner j t e1 (Sl.mut_of_own o1)
    obtain ⟨_, q2⟩ := owner k u e2 (Sl.mut_of_own o2)
    exact E.sep j k t u b hjk q1 q2 o1 o2 y1 y2
  · obtain ⟨y1, ⟨kvs, y2⟩, y3⟩ := E.io b hb
    have hi0 : i ≠ 0 := fun z => by
      subst z
      rw [hi] at y2
      cases y2
      cases hs
    exact ⟨y1, ⟨kvs, by rw [List.getElem?_set_ne hi0]; exact y2⟩, y3⟩
  · rcases set_get e with ⟨rfl, e2⟩ | ⟨hne, e2⟩
    · cases e2
    · exact E.io1 j kvs e2
  · have : b ≠ a := fun z => hn ⟨i, s, hi, Sl.mut_of_own hs, z ▸ hv⟩
    rw [upd_ne this]
    exact h
  · exact ⟨j, t, (owner j t e m).2, m, y⟩
end

/-! ### expressions -/
def cst (d : Dt) : Rho → R Dt := fun ρ => .ok d ρ
def var (i : Nat) : Rho → R Dt := fun ρ => match (ρ[i]? : Option (Option Sl)) with
  | some (some (.fr d)) => .ok d ρ
  | some (some (.ol xs)) => .ok (.lst xs) (ρ.set i (some (.fr (.lst xs))))
  | some (some (.od kvs)) => .ok (.dct kvs) (ρ.set i (some (.fr (.dct kvs))))
  | _ => .bad
def bin (g : Dt → Dt → Option Dt) (f1 f2 : Rho → R Dt) : Rho → R Dt := fun ρ => (f1 ρ).bind fun d ρ1 => (f2 ρ1).bind fun e ρ2 => match g d e with
  | some z => .ok z ρ2
  | none => .bad
def un (g : Dt → Option Dt) (f1 : Rho → R Dt) : Rho → R Dt := fun ρ => (f1 ρ).bind fun d ρ1 => match g d with
  | some z => .ok z ρ1
  | none => .bad
/-- a name's own object, read where it stands -/
def pk (i : Nat) (ρ : Rho) : Option Dt := match (ρ[i]? : Option (Option Sl)) with
  | some (some (.fr d)) => some d
  | some (some (.ol xs)) => some (.lst xs)
  | some (some (.od kvs)) => some (.dct kvs)
  | some (some (.io kvs)) => some (.dct kvs)
  | _ => none
def pkF (i : Nat) : Rho → R Dt := fun ρ => match pk i ρ with
  | some d => .ok d ρ
  | none => .bad
/-- the name stands first, its object is read when all is there -/
def binP (g : Dt → Dt → Option Dt) (i : Nat) (f2 : Rho → R Dt) : Rho → R Dt := fun ρ => match pk i ρ with
  | none => .bad
  | some _ => (f2 ρ).bind fun e ρ2 => match pk i ρ2 with
    | some d => match g d e with
      | some z => .ok z ρ2
      | none => .bad
    | none => .bad
/-- what is read of a container -/
def Pk (K : PySem.W.Frag) (H0 H : Hp) (v : V) : Dt → Prop
  | .lst ds => ∃ a vs, v = .ref a ∧ H a = some (.lst vs) ∧ DaAll K H0 vs ds
  | .dct kvs => ∃ a ks, v = .ref a ∧ H a = some (.dK ks) ∧ DaKv K H0 ks kvs
  | d => Da K H0 v d
def tK (g : Gx) (F : Fm) (W : WX) (f : Rho → R Dt) : TE := fun σ H Q => ∃ H0 ρ, En g.K F H0 H σ ρ ∧ match f ρ with
  | .ok d ρ' => ∀ v H0' H', En g.K F H0' H' σ ρ' → Mv σ ρ ρ' H0 H H0' H' → Pk g.K H0' H' v d → Q v H'
  | .ex e ρ' => XW g F W σ e ρ'
  | .bad => False
def DK (X : Cx) (W : WX) (e : Expr) (f : Rho → R Dt) : Prop := ∀ F, PE X e (tK (gx X) F W f)
/-- of the data of two things, the base's data of a new one -/
def OpD (K : PySem.W.Frag) (r : R2) (g : Dt → Dt → Option Dt) : Prop := ∀ x y d e z H0 H, Same H0 H → Pk K H0 H x d → Pk K H0 H y e → g d e = some z → ∀ Q : VK, (∀ v H0' H', Gr ⟨H0, H, none⟩ H0' H' → Same H0' H' → Da K H0' v z → Q v H') → r x y H Q
def UnD (K : PySem.W.Frag) (r : V → Hp → VK → Prop) (g : Dt → Option Dt) : Prop := ∀ x d z H0 H, Same H0 H → Pk K H0 H x d → g d = some z → ∀ Q : VK, (∀ v H0' H', Gr ⟨H0, H, none⟩ H0' H' → Same H0' H' → Da K H0' v z → Q v H') → r x H Q

section
variable {K : PySem.W.Frag} {F : Fm} {H0 H H0' H' : Hp} {σ : L2.St} {ρ : Rho} {v : V} {d : Dt} {s : Sl} {i : Nat} {a p : Addr} {o : HO} {g : Gx} {W : WX}
theorem Da.pk (e : Same H0 H) (h : Da K H0 v d) : Pk K H0 H v d := by
  cases d with
  | lst ds =>
    cases h with
    | lst h1 h2 => exact ⟨_, _, rfl, e _ _ h1, h2⟩
  | dct ds =>
    cases h with
    | dct h1 h2 => exact ⟨_, _, rfl, e _ _ h1, h2⟩
  | _ => exact h
theorem Pk.up (e : Same H0 H) (h : Pk K H0 H v d) : Da K H v d := by
  cases d with
  | lst ds =>
    obtain ⟨a, vs, rfl, h1, h2⟩ := h
    exact .lst h1 (h2.mono e)
  | dct ds =>
    obtain ⟨a, vs, rfl, h1, h2⟩ := h
    exact .dct h1 (h2.mono e)
  | non => exact Da.mono e h
  | bl _ => exact Da.mono e h
  | int _ => exact Da.mono e h
  | str _ => exact Da.mono e h
  | tup _ => exact Da.mono e h
  | scr _ => exact Da.mono e h
  | xo _ _ _ => exact Da.mono e h
theorem pk_at (E : En K F H0 H σ ρ) (h : pk i ρ = some d) : ∃ v, σ[i]? = some (some v) ∧ Pk K H0 H v d := by
  unfold pk at h
  split at h
  · rename_i e
    cases h
    obtain ⟨v, h1, h2⟩ := E.sl i _ e
    exact ⟨v, h1, Da.pk E.ex h2⟩
  · rename_i e
    cases h
    obtain ⟨v, h1, a, vs, rfl, h2, h3, h4, h5⟩ := E.sl i _ e
    exact ⟨_, h1, a, vs, rfl, h4, h5⟩
  · rename_i e
    cases h
    obtain ⟨v, h1, a, vs, rfl, h2, h3, h4, h5⟩ := E.sl i _ e
    exact ⟨_, h1, a, vs, rfl, h4, h5⟩
  · rename_i e
    cases h
    obtain ⟨v, h1, a, vs, rfl, h2, h3, h4, h5⟩ := E.sl i _ e
    exact ⟨_, h1, a, vs, rfl, h4, h5⟩
  · cases h
theorem tD_var (h : tD g F W (var i) σ H Q) : tVar i σ H Q := by
  obtain ⟨H0, ρ, E, q⟩ := h
  unfold var at q
  split at q
  · rename_i d ρ' e0
    split at e0
    · rename_i e
      cases e0
      obtain ⟨v, h1, h2⟩ := E.sl i _ e
      exact ⟨v, h1, q v H0 H E Mv.refl h2⟩
    · rename_i e
      cases e0
      obtain ⟨v, h1, a, vs, rfl, h2, h3, h4, h5⟩ := E.sl i _ e
      have sm : Same H0 (upd H0 a (.lst vs)) := fun b u hb => by
        rw [upd_ne (ne_of_none hb h2)]
        exact hb
      have hd : Da g.K (upd H0 a (.lst vs)) (.ref a) (.lst _) := .lst upd_same (h5.mono sm)
      obtain ⟨q1, q2⟩ := E.frz e rfl h1 h2 h3 h4 (nt_lst _) hd
      exact ⟨_, h1, q _ _ _ q1 q2 hd⟩
    · rename_i e
      cases e0
      obtain ⟨v, h1, a, vs, rfl, h2, h3, h4, h5⟩ := E.sl i _ e
      have sm : Same H0 (upd H0 a (.dK vs)) := fun b u hb => by
        rw [upd_ne (ne_of_none hb h2)]
        exact hb
      have hd : Da g.K (upd H0 a (.dK vs)) (.ref a) (.dct _) := .dct upd_same (h5.mono sm)
      obtain ⟨q1, q2⟩ := E.frz e rfl h1 h2 h3 h4 (nt_dK _) hd
      exact ⟨_, h1, q _ _ _ q1 q2 hd⟩
    · cases e0
  · rename_i e0
    split at e0 <;> cases e0
  · exact q.elim
theorem tK_pk (h : tK g F W (pkF i) σ H Q) : tVar i σ H Q := by
  obtain ⟨H0, ρ, E, q⟩ := h
  unfold pkF at q
  cases e : pk i ρ with
  | none =>
    rw [e] at q
    exact q.elim
  | some d =>
    rw [e] at q
    obtain ⟨v, h1, h2⟩ := pk_at E e
    exact ⟨v, h1, q v H0 H E Mv.refl h2⟩
/-- what came behind a Gr -/
theorem En.post {ρ1 : Rho} {B0 B : Hp} (E : En K F H0 H σ ρ1) (m : Mv σ ρ ρ1 B0 B H0 H) (g : Gr ⟨H0, H, none⟩ H0' H') (e : Same H0' H') : En K F H0' H' σ ρ1 ∧ Mv σ ρ ρ1 B0 B H0' H' := ⟨E.grow g e, m.trans g.mv⟩
theorem En.postW {ρ1 : Rho} {B0 B : Hp} (E : En K F H0 H σ ρ1) (m : Mv σ ρ ρ1 B0 B H0 H) (g : Gw ⟨H0, H, none⟩ H0' H') (t : TbOk K H0' H') (e : Same H0' H') : En K F H0' H' σ ρ1 ∧ Mv σ ρ ρ1 B0 B H0' H' := ⟨E.growW g t e, m.trans g.mv⟩
theorem tK_of (h : tK g F W f σ H Q) : tD g F W f σ H Q := by
  obtain ⟨H0, ρ, E, q⟩ := h
  refine ⟨H0, ρ, E, ?_⟩
  cases e : f ρ with
  | ok d ρ' =>
    rw [e] at q
    exact fun v H0' H' E' m hd => q v H0' H' E' m (Da.pk E'.ex hd)
  | ex x ρ' =>
    rw [e] at q
    exact q
  | bad =>
    rw [e] at q
    exact q
theorem tOp_bin {r : R2} {gg : Dt → Dt → Option Dt} {f1 f2 : Rho → R Dt} (hr : OpD g.K r gg) {σ : L2.St} {H : Hp} {Q : VK} (h : tD g F W (bin gg f1 f2) σ H Q) : tOp r (tD g F W f1) (tK g F W f2) σ H Q := by
  obtain ⟨H0, ρ, E, q⟩ := h
  unfold bin at q
  refine ⟨H0, ρ, E, ?_⟩
  cases e1 : f1 ρ with
  | ok d ρ1 =>
    rw [e1] at q
    intro x H1 B1 E1 m1 d1
    refine ⟨H1, ρ1, E1, ?_⟩
    dsimp only [R.bind] at q
    cases e2 : f2 ρ1 with
    | ok e ρ2 =>
      rw [e2] at q
      intro y H2 B2 E2 m2 d2
      dsimp only [R.bind] at q
      cases e3 : gg d e with
      | some z =>
        rw [e3] at q
        refine hr x y d e z H2 B2 E2.ex (Da.pk E2.ex (d1.mono m2.b0)) d2 e3 Q fun v H3 B3 g3 s3 d3 => ?_
        obtain ⟨q1, q2⟩ := E2.post (m1.trans m2) g3 s3
        exact q v H3 B3 q1 q2 d3
      | none =>
        rw [e3] at q
        exact q.elim
    | ex x ρ' =>
      rw [e2] at q
      exact q
    | bad =>
      rw [e2] at q
      exact q
  | ex x ρ' =>
    rw [e1] at q
    exact q
  | bad =>
    rw [e1] at q
    exact q
theorem tOp_binP {r : R2} {gg : Dt → Dt → Option Dt} {f2 : Rho → R Dt} (hr : OpD g.K r gg) {σ : L2.St} {H : Hp} {Q : VK} (h : tD g F W (binP gg i f2) σ H Q) : tOp r (tVar i) (tK g F W f2) σ H Q := by
  obtain ⟨H0, ρ, E, q⟩ := h
  unfold binP at q
  cases e1 : pk i ρ with
  | none =>
    rw [e1] at q
    exact q.elim
  | some d0 =>
    rw [e1] at q
    obtain ⟨x, hx, _⟩ := pk_at E e1
    refine ⟨x, hx, H0, ρ, E, ?_⟩
    dsimp only [R.bind] at q
    cases e2 : f2 ρ with
    | ok e ρ2 =>
      rw [e2] at q
      intro y H2 B2 E2 m2 d2
      dsimp only [R.bind] at q
      cases e3 : pk i ρ2 with
      | none =>
        rw [e3] at q
        exact q.elim
      | some d =>
        rw [e3] at q
        dsimp only at q
        obtain ⟨x', hx', px⟩ := pk_at E2 e3
        rw [hx] at hx'
        cases hx'
        cases e4 : gg d e with
        | some z =>
          rw [e4] at q
          refine hr x y d e z H2 B2 E2.ex px d2 e4 Q fun v H3 B3 g3 s3 d3 => ?_
          obtain ⟨q1, q2⟩ := E2.post m2 g3 s3
          exact q v H3 B3 q1 q2 d3
        | none =>
          rw [e4] at q
          exact q.elim
    | ex x ρ' =>
      rw [e2] at q
      exact q
    | bad =>
      rw [e2] at q
      exact q
theorem tUn_un {r : V → Hp → VK → Prop} {gg : Dt → Option Dt} {f1 : Rho → R Dt} (hr : UnD g.K r gg) {σ : L2.St} {H : Hp} {Q : VK} (h : tD g F W (un gg f1) σ H Q) : tUn r (tK g F W f1) σ H Q := by
  obtain ⟨H0, ρ, E, q⟩ := h
  unfold un at q
  refine ⟨H0, ρ, E, ?_⟩
  cases e1 : f1 ρ with
  | ok d ρ1 =>
    rw [e1] at q
    intro x H1 B1 E1 m1 d1
    dsimp only [R.bind] at q
    cases e3 : gg d with
    | some z =>
      rw [e3] at q
      refine hr x d z H1 B1 E1.ex d1 e3 Q fun v H3 B3 g3 s3 d3 => ?_
      obtain ⟨q1, q2⟩ := E1.post m1 g3 s3
      exact q v H3 B3 q1 q2 d3
    | none =>
      rw [e3] at q
      exact q.elim
  | ex x ρ' =>
    rw [e1] at q
    exact q
  | bad =>
    rw [e1] at q
    exact q
end
end DW

set_option Elab.async false
set_option linter.all false
set_option maxRecDepth 100000
set_option maxHeartbeats 4000000
/-! DW4: operators over data -/
namespace DW
open PySem L2

section
variable {K : PySem.W.Frag} {F : Fm} {H0 H H0' H' : Hp} {v : V} {d : Dt} {Q : VK}
theorem al_lst {zs : List V} {ds : List Dt} (e : Same H0 H) (hd : DaAll K H0 zs ds) (k : ∀ v H0' H', Gr ⟨H0, H, none⟩ H0' H' → Same H0' H' → Da K H0' v (.lst ds) → Q v H') : ∀ p, H p = none → Q (.ref p) (upd H p (.lst zs)) :=
  fun p hp => k _ _ _ (gr_new hp e) (same_new hp e) (.lst upd_same (hd.mono (gr_new (o := .lst zs) hp e).b0))
theorem al_tup {zs : List V} {ds : List Dt} (e : Same H0 H) (hd : DaAll K H0 zs ds) (k : ∀ v H0' H', Gr ⟨H0, H, none⟩ H0' H' → Same H0' H' → Da K H0' v (.tup ds) → Q v H') : ∀ p, H p = none → Q (.ref p) (upd H p (.tup zs)) :=
  fun p hp => k _ _ _ (gr_new hp e) (same_new hp e) (.tup (SqT.of upd_same) (hd.mono (gr_new (o := .tup zs) hp e).b0))
theorem sc (e : Same H0 H) (hd : Da K H0 v d) (k : ∀ v H0' H', Gr ⟨H0, H, none⟩ H0' H' → Same H0' H' → Da K H0' v d → Q v H') : Q v H := k v H0 H (Gr.refl H0 H none) e hd
end

section
variable {X : Cx}
theorem opr_or {f : Value → Value → Sem Value} {r r' : R2} (h : OpR X f r) (h' : OpR X f r') : OpR X f (fun x y H Q => r x y H Q ∨ r' x y H Q) := by
  intro pins s σ H x y v u Q I rx ry q
  rcases q with q | q
  · exact h pins s σ H x y v u Q I rx ry q
  · exact h' pins s σ H x y v u Q I rx ry q
theorem callr_or {f : Value} {r r' : List V → Hp → VK → Prop} (h : CallR X f r) (h' : CallR X f r') : CallR X f (fun x H Q => r x H Q ∨ r' x H Q) := by
  intro pins s σ H x v Q I rx q
  rcases q with q | q
  · exact h pins s σ H x v Q I rx q
  · exact h' pins s σ H x v Q I rx q

/-! ### + -/
def addD : Dt → Dt → Option Dt
  | .int a, .int b => some (.int (a + b))
  | .str a, .str b => if a.length + b.length ≤ 1000000 then some (.str (a ++ b)) else none
  | .lst a, .lst b => if a.length + b.length ≤ 1000000 then some (.lst (a ++ b)) else none
  | .tup a, .tup b => if a.length + b.length ≤ 1000000 then some (.tup (a ++ b)) else none
  | _, _ => none
def rAddA (K : PySem.W.Frag) : R2 := fun x y H Q => rI0 (fun i j => .int (i + j)) x y H Q ∨ (∃ i j, x = .str i ∧ y = .str j ∧ i.length + j.length ≤ sizeLine ∧ Q (.str (i ++ j)) H) ∨ rCat x y H Q ∨ rCatA K x y H Q
theorem opr_add : OpR X (binaryOp .Add) (rAddA X.K) := opr_or op_add (opr_or op_add_str (opr_or op_cat op_catA))
theorem sizeM {n : Nat} (h : n ≤ 1000000) : n ≤ sizeLine := Nat.le_trans h (by decide)
theorem opd_add (K : PySem.W.Frag) : OpD K (rAddA K) addD := by
  intro x y d e z H0 H s hx hy hg Q k
  unfold addD at hg
  split at hg
  · cases hg
    cases hx
    cases hy
    exact .inl ⟨_, _, rfl, rfl, sc s (.int _) k⟩
  · split at hg
    · rename_i hl
      cases hg
      cases hx
      cases hy
      exact .inr (.inl ⟨_, _, rfl, rfl, sizeM hl, sc s (.str _) k⟩)
    · cases hg
  · split at hg
    · rename_i hl
      cases hg
      obtain ⟨a, vs, rfl, h1, h2⟩ := hx
      obtain ⟨b, ws, rfl, h3, h4⟩ := hy
      exact .inr (.inr (.inl ⟨a, b, vs, ws, rfl, rfl, h1, h3, by rw [h2.length, h4.length]; exact sizeM hl, al_lst s (h2.append h4) k⟩))
    · cases hg
  · split at hg
    · rename_i hl
      cases hg
      cases hx with
      | tup h1 h2 =>
        cases hy with
        | tup h3 h4 =>
          refine .inr (.inr (.inr ⟨_, _, _, _, rfl, rfl, seqT_mono s h1, seqT_mono s h3, by rw [h2.length, h4.length]; exact sizeM hl, fun z => ?_, fun z z' => ?_, fun _ _ => al_tup s (h2.append h4) k⟩))
          · subst z
            cases h2
            exact sc s (.tup h3 h4) k
          · subst z'
            cases h4
            rw [List.append_nil] at k
            exact sc s (.tup h1 h2) k
    · cases hg
  · cases hg

/-! ### -, *, //, %, ** -/
def subD : Dt → Dt → Option Dt
  | .int a, .int b => some (.int (a - b))
  | _, _ => none
theorem opd_sub (K : PySem.W.Frag) : OpD K (rI0 fun i j => .int (i - j)) subD := by
  intro x y d e z H0 H s hx hy hg Q k
  unfold subD at hg
  split at hg
  · cases hg
    cases hx
    cases hy
    exact ⟨_, _, rfl, rfl, sc s (.int _) k⟩
  · cases hg
def mulOk (a b : Int) : Bool := decide (a.natAbs < 2 ^ 64) || decide (b.natAbs < 2 ^ 64) || decide (a.natAbs.log2 + b.natAbs.log2 < 1000000)
/-- a tuple once, or none of nothing: the very one -/
theorem tuple_mul1 (l : Addr) (items : Array Value) (n : Nat) (sl : Array (Option Value)) (dd : Option Addr) (x : Int) (u : Tok) (c0 : (decide (x < -(2 ^ 63)) || decide (x ≥ 2 ^ 63)) = false) (c1 : (items.isEmpty || x == 1) = true) :
    Meets (Builtin.«tuple.__mul__» ⟨[.ref l, .int x u], []⟩) (fun _ R s => s.heap.get? l = some { cls := .type "tuple", dict := dd, data := .seq items n, slots := sl } ∧ R (.ok (.ret (Value.ref l))) s) :=
  .of_wp fun prog w A R s h => by
    obtain ⟨hp, g, d, tk, os⟩ := s
    obtain ⟨hl, h⟩ := h
    have f1 := AutoSeq1.idx_int
    wp_walk using wpAny_loadPart' hl
    repeat (first
      | (refine wpAny_ite_false (decide_eq_false (by rw [c0]; exact Bool.false_ne_true)) ?_; wp_walk using wpAny_loadPart' hl)
      | (refine wpAny_ite_true (decide_eq_true c1) ?_; wp_walk using wpAny_loadPart' hl))
    exact ⟨_, rfl, h⟩
def rRepT1 (K : PySem.W.Frag) : R2 := fun x y H Q => ∃ l k xs, x = .ref l ∧ y = .int k ∧ SqT K H l xs ∧ (xs = [] ∨ k = 1) ∧ -1000000 ≤ k ∧ k ≤ 1000000 ∧ Q (.ref l) H
theorem op_repT1 : OpR X (binaryOp .Mult) (rRepT1 X.K) := by
  intro pins s σ H x y v u Q I rx ry h
  obtain ⟨l, k, xs, rfl, rfl, hT, h1, h2, h3, q⟩ := h
  cases rx
  obtain ⟨t, rfl⟩ := ry
  obtain ⟨its, r, ⟨⟨cls, dd, data, sl⟩, ho, hc, n, hd⟩, hs⟩ := I.tuple hT
  simp only at hc hd
  subst hc hd
  have c0 : (decide (k < -(2 ^ 63)) || decide (k ≥ 2 ^ 63)) = false := by
    rw [decide_eq_false (by omega), decide_eq_false (by omega)] <;> rfl
  have c1 : (its.toArray.isEmpty || k == 1) = true := by
    rcases h1 with h1 | h1
    · subst h1
      cases r
      rfl
    · subst h1
      simp
  refine wpAny_binaryOp_repeat_ref (T := "tuple") (U := "int") (by decide) ⟨_, ho, rfl⟩ (fun s' => typeIs_int s' k t) noFill_tuple_mul F.fills_int_mul F.slot_int_rmul repeat_tuple F.slot_int_index.lookup
    (call_meets F.slot_int_rmul (typeIs_int s k t) F.entry_int_rmul (F.args_int_rmul_2 _ _) (int_rmul_tuple k t l its.toArray n dd sl)
      ⟨ho, rfl, ⟨_, ho, rfl⟩, call_meets F.slot_tuple_mul ⟨_, ho, rfl⟩ F.entry_tuple_mul (F.args_tuple_mul_2 _ _) (tuple_mul1 l its.toArray n sl dd k t c0 c1) ⟨ho, ?_⟩⟩)
  exact ⟨.ref l, H, I, rfl, q⟩
def mulD : Dt → Dt → Option Dt
  | .int a, .int b => if mulOk a b = true then some (.int (a * b)) else none
  | .lst xs, .int k => if 0 ≤ k ∧ k ≤ 1000 ∧ xs.length ≤ 1000 then some (.lst (List.replicate k.toNat xs).flatten) else none
  | .tup xs, .int k => if 2 ≤ k ∧ k ≤ 1000 ∧ xs.length ≤ 1000 ∧ xs ≠ [] then some (.tup (List.replicate k.toNat xs).flatten) else if k = 1 then some (.tup xs) else none
  | _, _ => none
def rMulA (K : PySem.W.Frag) : R2 := fun x y H Q => rI CMul (fun i j => .int (i * j)) x y H Q ∨ rI CMulW (fun i j => .int (i * j)) x y H Q ∨ rRep x y H Q ∨ rRepT K x y H Q ∨ rRepT1 K x y H Q
theorem opr_mul : OpR X (binaryOp .Mult) (rMulA X.K) := opr_or op_mul (opr_or op_mulW (opr_or op_rep (opr_or op_repT op_repT1)))
theorem DaAll.rep {K : PySem.W.Frag} {H : Hp} {vs : List V} {ds : List Dt} (h : DaAll K H vs ds) : ∀ n : Nat, DaAll K H (List.replicate n vs).flatten (List.replicate n ds).flatten
  | 0 => .nil
  | n + 1 => by
    rw [List.replicate_succ, List.replicate_succ, List.flatten_cons, List.flatten_cons]
    exact h.append (h.rep n)
theorem opd_mul (K : PySem.W.Frag) : OpD K (rMulA K) mulD := by
  intro x y d e z H0 H s hx hy hg Q k
  unfold mulD at hg
  split at hg
  · split at hg
    · rename_i a b hm
      cases hg
      cases hx
      cases hy
      unfold mulOk at hm
      rw [Bool.or_eq_true, Bool.or_eq_true] at hm
      rcases hm with (hm | hm) | hm
      · have := of_decide_eq_true hm
        exact .inl ⟨_, _, rfl, rfl, .inl (by omega), sc s (.int _) k⟩
      · have := of_decide_eq_true hm
        exact .inl ⟨_, _, rfl, rfl, .inr (by omega), sc s (.int _) k⟩
      · have hm' : CMulW a b := of_decide_eq_true (p := a.natAbs.log2 + b.natAbs.log2 < 1000000) hm
        exact .inr (.inl ⟨_, _, rfl, rfl, hm', sc s (.int _) k⟩)
    · cases hg
  · split at hg
    · rename_i xs n hm
      cases hg
      obtain ⟨a, vs, rfl, h1, h2⟩ := hx
      cases hy
      refine .inr (.inr (.inl ⟨a, n, vs, rfl, rfl, h1, by omega, by omega, ?_, al_lst s (h2.rep _) k⟩))
      rw [h2.length]
      exact Nat.le_trans (Nat.mul_le_mul hm.2.2 (show n.toNat ≤ 1000 by omega)) (by decide)
    · cases hg
  · split at hg
    · rename_i xs n hm
      cases hg
      cases hx with
      | tup h1 h2 =>
        cases hy
        refine .inr (.inr (.inr (.inl ⟨_, n, _, rfl, rfl, seqT_mono s h1, fun z => ?_, hm.1, hm.2.1, by rw [h2.length]; exact hm.2.2.1, al_tup s (h2.rep _) k⟩)))
        subst z
        cases h2
        exact hm.2.2.2 rfl
    · split at hg
      · rename_i h1
        cases hg
        subst h1
        cases hx with
        | tup h1 h2 =>
          cases hy
          exact .inr (.inr (.inr (.inr ⟨_, 1, _, rfl, rfl, seqT_mono s h1, .inr rfl, by decide, by decide, sc s (.tup h1 h2) k⟩)))
      · cases hg
  · cases hg
def fdivD : Dt → Dt → Option Dt
  | .int a, .int b => if 0 < b ∧ b.natAbs.log2 < 9000 then some (.int (a / b)) else none
  | _, _ => none
theorem opd_fdiv (K : PySem.W.Frag) : OpD K (rI CDivW fun i j => .int (i / j)) fdivD := by
  intro x y d e z H0 H s hx hy hg Q k
  unfold fdivD at hg
  split at hg
  · split at hg
    · rename_i hm
      cases hg
      cases hx
      cases hy
      exact ⟨_, _, rfl, rfl, hm, sc s (.int _) k⟩
    · cases hg
  · cases hg
def modD : Dt → Dt → Option Dt
  | .int a, .int b => if 0 < b then some (.int (a % b)) else none
  | _, _ => none
theorem opd_mod (K : PySem.W.Frag) : OpD K (rI (fun _ j => 0 < j) fun i j => .int (i % j)) modD := by
  intro x y d e z H0 H s hx hy hg Q k
  unfold modD at hg
  split at hg
  · split at hg
    · rename_i hm
      cases hg
      cases hx
      cases hy
      exact ⟨_, _, rfl, rfl, hm, sc s (.int _) k⟩
    · cases hg
  · cases hg
def powD : Dt → Dt → Option Dt
  | .int a, .int b => if 0 ≤ b ∧ b ≤ 1000000 ∧ a.natAbs < 2 ^ 64 then some (.int (a ^ b.toNat)) else none
  | _, _ => none
theorem opd_pow (K : PySem.W.Frag) : OpD K (rI CPow fun i j => .int (i ^ j.toNat)) powD := by
  intro x y d e z H0 H s hx hy hg Q k
  unfold powD at hg
  split at hg
  · split at hg
    · rename_i hm
      cases hg
      cases hx
      cases hy
      exact ⟨_, _, rfl, rfl, hm, sc s (.int _) k⟩
    · cases hg
  · cases hg

/-! ### comparisons -/
def cmpD (p : Int → Int → Bool) : Dt → Dt → Option Dt
  | .int a, .int b => some (.bl (p a b))
  | _, _ => none
theorem opd_cmp (K : PySem.W.Frag) (p : Int → Int → Bool) : OpD K (rI0 fun i j => .bl (p i j)) (cmpD p) := by
  intro x y d e z H0 H s hx hy hg Q k
  unfold cmpD at hg
  split at hg
  · cases hg
    cases hx
    cases hy
    exact ⟨_, _, rfl, rfl, sc s (.bl _) k⟩
  · cases hg
abbrev ltD := cmpD fun i j => decide (i < j)
abbrev leD := cmpD fun i j => decide (i ≤ j)
abbrev gtD := cmpD fun i j => decide (j < i)
abbrev geD := cmpD fun i j => decide (j ≤ i)
def flatD : Dt → Bool
  | .non => true
  | .bl _ => true
  | .int _ => true
  | .str _ => true
  | _ => false
def toV : Dt → V
  | .non => .non
  | .bl b => .bl b
  | .int i => .int i
  | .str x => .str x
  | _ => .non
theorem Da.flat {K : PySem.W.Frag} {H : Hp} {v : V} {d : Dt} (h : Da K H v d) (f : flatD d = true) : v = toV d ∧ flatV v = true := by
  cases h <;> first | exact ⟨rfl, rfl⟩ | cases f
theorem Pk.flat {K : PySem.W.Frag} {H0 H : Hp} {v : V} {d : Dt} (h : Pk K H0 H v d) (f : flatD d = true) : v = toV d ∧ flatV v = true := by
  cases d <;> first | exact Da.flat h f | cases f
theorem DaAll.flat {K : PySem.W.Frag} {H : Hp} : ∀ {vs : List V} {ds : List Dt}, DaAll K H vs ds → ds.all flatD = true → vs = ds.map toV ∧ vs.all flatV = true
  | _, _, .nil, _ => ⟨rfl, rfl⟩
  | _, _, .cons h1 h2, f => by
    rw [List.all_cons, Bool.and_eq_true] at f
    obtain ⟨e1, e2⟩ := h1.flat f.1
    obtain ⟨e3, e4⟩ := h2.flat f.2
    refine ⟨by rw [e1, e3]; rfl, ?_⟩
    rw [List.all_cons, e2, e4]
    rfl
def eqD (d e : Dt) : Option Dt := match d, e with
  | .int a, .int b => some (.bl (decide (a = b)))
  | .str a, .str b => some (.bl (decide (a = b)))
  | d, e => if shp d = true ∧ shp e = true then some (.bl (eqt d e)) else none
def neD (d e : Dt) : Option Dt := match d, e with
  | .int a, .int b => some (.bl (!decide (a = b)))
  | .str a, .str b => some (.bl (!decide (a = b)))
  | d, e => if shp d = true ∧ shp e = true then some (.bl (!eqt d e)) else none
def rEqA (K : PySem.W.Frag) : R2 := fun x y H Q => rEq x y H Q ∨ rEqD K x y H Q
def rNeA (K : PySem.W.Frag) : R2 := fun x y H Q => rNe x y H Q ∨ rNeD K x y H Q
theorem opr_eq (hu : X.A.units + 64 < cLine) : OpR X (compareOp .Eq) (rEqA X.K) := opr_or op_eq (op_eqD hu)
theorem opr_ne (hu : X.A.units + 64 < cLine) : OpR X (compareOp .NotEq) (rNeA X.K) := opr_or op_ne (op_neD hu)
theorem shp_plain {d : Dt} (h : shp d = true) : plainD d = true ∧ SeqAt.shaped (toPy d) = true := Bool.and_eq_true_iff.mp h
theorem dec_V_int {a b : Int} : decide (V.int a = V.int b) = decide (a = b) := by
  by_cases h : a = b
  · subst h
    simp
  · rw [decide_eq_false h, decide_eq_false (fun z => h (V.int.inj z))]
theorem dec_V_str {a b : Str} : decide (V.str a = V.str b) = decide (a = b) := by
  by_cases h : a = b
  · subst h
    simp
  · rw [decide_eq_false h, decide_eq_false (fun z => h (V.str.inj z))]
theorem opd_eq (K : PySem.W.Frag) : OpD K (rEqA K) eqD := by
  intro x y d e z H0 H s hx hy hg Q k
  unfold eqD at hg
  split at hg
  · cases hg
    cases hx
    cases hy
    refine .inl ⟨rfl, ?_⟩
    rw [dec_V_int]
    exact sc s (.bl _) k
  · cases hg
    cases hx
    cases hy
    refine .inl ⟨rfl, ?_⟩
    rw [dec_V_str]
    exact sc s (.bl _) k
  · split at hg
    · rename_i hm
      cases hg
      obtain ⟨p1, s1⟩ := shp_plain hm.1
      obtain ⟨p2, s2⟩ := shp_plain hm.2
      exact .inr ⟨_, _, (Pk.up s hx).dp p1, (Pk.up s hy).dp p2, s1, s2, sc s (.bl _) k⟩
    · cases hg
theorem opd_ne (K : PySem.W.Frag) : OpD K (rNeA K) neD := by
  intro x y d e z H0 H s hx hy hg Q k
  unfold neD at hg
  split at hg
  · cases hg
    cases hx
    cases hy
    refine .inl ⟨rfl, ?_⟩
    rw [dec_V_int]
    exact sc s (.bl _) k
  · cases hg
    cases hx
    cases hy
    refine .inl ⟨rfl, ?_⟩
    rw [dec_V_str]
    exact sc s (.bl _) k
  · split at hg
    · rename_i hm
      cases hg
      obtain ⟨p1, s1⟩ := shp_plain hm.1
      obtain ⟨p2, s2⟩ := shp_plain hm.2
      exact .inr ⟨_, _, (Pk.up s hx).dp p1, (Pk.up s hy).dp p2, s1, s2, sc s (.bl _) k⟩
    · cases hg

/-! ### dicts: what stands at a key -/
def keyD : Dt → Option Key
  | .int i => some (.inl i)
  | .str x => some (.inr x)
  | _ => none
def getK (kvs : List (Key × Dt)) (k : Key) : Option Dt := (kvs.find? fun kv => decide (kv.1 = k)).map (·.2)
def putKD (kvs : List (Key × Dt)) (k : Key) (d : Dt) : List (Key × Dt) := if (kvs.any fun kv => decide (kv.1 = k)) = true then kvs.map fun kv => if kv.1 = k then (kv.1, d) else kv else kvs ++ [(k, d)]
theorem keyD_V {K : PySem.W.Frag} {H0 H : Hp} {v : V} {d : Dt} {k : Key} (h : Pk K H0 H v d) (e : keyD d = some k) : v = kV k := by
  cases d with
  | int i => cases h; cases e; rfl
  | str x => cases h; cases e; rfl
  | _ => cases e
theorem DaKv.get {K : PySem.W.Frag} {H : Hp} (k : Key) : ∀ {ks : List (Key × V)} {kvs : List (Key × Dt)}, DaKv K H ks kvs → (∀ d, getK kvs k = some d → ∃ v, valV ks k = some v ∧ Da K H v d) ∧ (getK kvs k = none → valV ks k = none)
  | _, _, .nil => ⟨fun d h => by simp [getK] at h, fun _ => rfl⟩
  | _, _, .cons (k := k') h1 h2 => by
    obtain ⟨q1, q2⟩ := h2.get k
    by_cases e : k' = k
    · subst e
      refine ⟨fun d h => ?_, fun h => ?_⟩
      · simp [getK] at h
        subst h
        exact ⟨_, by simp [valV], h1⟩
      · simp [getK] at h
    · refine ⟨fun d h => ?_, fun h => ?_⟩
      · obtain ⟨v, h3, h4⟩ := q1 d (by simpa [getK, List.find?_cons, e] using h)
        exact ⟨v, by rw [valV_neg (by exact e)]; exact h3, h4⟩
      · rw [valV_neg (by exact e)]
        exact q2 (by simpa [getK, List.find?_cons, e] using h)
theorem DaKv.length {K : PySem.W.Frag} {H : Hp} : ∀ {ks : List (Key × V)} {kvs : List (Key × Dt)}, DaKv K H ks kvs → ks.length = kvs.length
  | _, _, .nil => rfl
  | _, _, .cons _ h => congrArg (· + 1) h.length
theorem DaKv.anyK {K : PySem.W.Frag} {H : Hp} (k : Key) : ∀ {ks : List (Key × V)} {kvs : List (Key × Dt)}, DaKv K H ks kvs → (ks.any fun kv => decide (kv.1 = k)) = (kvs.any fun kv => decide (kv.1 = k))
  | _, _, .nil => rfl
  | _, _, .cons _ h => by rw [List.any_cons, List.any_cons, h.anyK k]
theorem DaKv.append {K : PySem.W.Frag} {H : Hp} : ∀ {ks ls : List (Key × V)} {kvs lvs : List (Key × Dt)}, DaKv K H ks kvs → DaKv K H ls lvs → DaKv K H (ks ++ ls) (kvs ++ lvs)
  | _, _, _, _, .nil, h => h
  | _, _, _, _, .cons h1 h2, h => .cons h1 (h2.append h)
theorem DaKv.map {K : PySem.W.Frag} {H : Hp} {k : Key} {v : V} {d : Dt} (hd : Da K H v d) : ∀ {ks : List (Key × V)} {kvs : List (Key × Dt)}, DaKv K H ks kvs →
    DaKv K H (ks.map fun kv => if kv.1 = k then (kv.1, v) else kv) (kvs.map fun kv => if kv.1 = k then (kv.1, d) else kv)
  | _, _, .nil => .nil
  | _, _, .cons (k := k') h1 h2 => by
    rw [List.map_cons, List.map_cons]
    by_cases e : k' = k
    · rw [if_pos (by exact e), if_pos (by exact e)]
      exact .cons hd (h2.map hd)
    · rw [if_neg (by exact e), if_neg (by exact e)]
      exact .cons h1 (h2.map hd)
theorem DaKv.put {K : PySem.W.Frag} {H : Hp} {ks : List (Key × V)} {kvs : List (Key × Dt)} {k : Key} {v : V} {d : Dt} (h : DaKv K H ks kvs) (hd : Da K H v d) : DaKv K H (putK ks k v) (putKD kvs k d) := by
  unfold putK putKD
  rw [h.anyK k]
  split
  · exact h.map hd
  · exact h.append (.cons hd .nil)

/-! ### in -/
def inStr (i j : Str) : Bool := !(Builtin.Str.occurrences j i 0 j.length 1).isEmpty
def inB : Dt → Dt → Option Bool
  | d, .lst xs => if flatD d = true ∧ xs.all flatD = true then some (inV (toV d) (xs.map toV)) else none
  | d, .tup xs => if flatD d = true ∧ xs.all flatD = true then some (inV (toV d) (xs.map toV)) else none
  | .int k, .dct kvs => some (getK kvs (.inl k)).isSome
  | .str k, .dct kvs => some (getK kvs (.inr k)).isSome
  | .str i, .str j => some (inStr i j)
  | _, _ => none
def inD (d e : Dt) : Option Dt := (inB d e).map fun b => .bl b
def ninD (d e : Dt) : Option Dt := (inB d e).map fun b => .bl (!b)
def rInA (K : PySem.W.Frag) : R2 := fun x y H Q => rIn K false x y H Q ∨ (∃ a o, y = .ref a ∧ DGet H a x o ∧ Q (.bl o.isSome) H) ∨ ∃ i j, x = .str i ∧ y = .str j ∧ Q (.bl (!(Builtin.Str.occurrences j i 0 j.length 1).isEmpty)) H
def rNinA (K : PySem.W.Frag) : R2 := fun x y H Q => rIn K true x y H Q ∨ (∃ a o, y = .ref a ∧ DGet H a x o ∧ Q (.bl (!o.isSome)) H) ∨ ∃ i j, x = .str i ∧ y = .str j ∧ Q (.bl (!(!(Builtin.Str.occurrences j i 0 j.length 1).isEmpty))) H
theorem opr_in (hu : X.A.units + 1 < cLine) : OpR X (compareOp .In) (rInA X.K) := opr_or op_in_seq (opr_or (by
  intro pins s σ H x y v u Q I rx ry h
  obtain ⟨a, o, rfl, g, q⟩ := h
  cases ry
  exact d_in hu I g rx fun s' I' => ⟨.bl _, H, I', rfl, q⟩) op_in_str)
theorem opr_nin (hu : X.A.units + 1 < cLine) : OpR X (compareOp .NotIn) (rNinA X.K) := opr_or op_notIn_seq (opr_or (by
  intro pins s σ H x y v u Q I rx ry h
  obtain ⟨a, o, rfl, g, q⟩ := h
  cases ry
  exact d_notIn hu I g rx fun s' I' => ⟨.bl _, H, I', rfl, q⟩) op_notIn_str)
theorem inB_key {K : PySem.W.Frag} {H0 H : Hp} {y : V} {kvs : List (Key × Dt)} {k : Key} (hy : Pk K H0 H y (.dct kvs)) : ∃ a o, y = .ref a ∧ DGet H a (kV k) o ∧ o.isSome = (getK kvs k).isSome := by
  obtain ⟨a, ks, rfl, h1, h2⟩ := hy
  refine ⟨a, _, rfl, DGet.k h1, ?_⟩
  obtain ⟨q1, q2⟩ := h2.get k
  cases e : getK kvs k with
  | none => rw [q2 e]; rfl
  | some d =>
    obtain ⟨v, h3, _⟩ := q1 d e
    rw [h3]
    rfl
theorem opd_in (K : PySem.W.Frag) : OpD K (rInA K) inD := by
  intro x y d e z H0 H s hx hy hg Q k
  obtain ⟨b, hb, rfl⟩ := Option.map_eq_some_iff.mp hg
  have q : Q (.bl b) H := sc s (.bl _) k
  unfold inB at hb
  split at hb
  · split at hb
    · rename_i hm
      cases hb
      obtain ⟨a, vs, rfl, h1, h2⟩ := hy
      obtain ⟨e1, e2⟩ := hx.flat hm.1
      obtain ⟨e3, e4⟩ := h2.flat hm.2
      exact .inl ⟨a, vs, rfl, .inl (SqL.of h1), e2, e4, by rw [e1, e3]; exact q⟩
    · cases hb
  · split at hb
    · rename_i hm
      cases hb
      cases hy with
      | tup h1 h2 =>
        obtain ⟨e1, e2⟩ := hx.flat hm.1
        obtain ⟨e3, e4⟩ := h2.flat hm.2
        exact .inl ⟨_, _, rfl, .inr (seqT_mono s h1), e2, e4, by rw [e1, e3]; exact q⟩
    · cases hb
  · rename_i n kvs
    cases hb
    cases hx
    obtain ⟨a, o, rfl, g, e⟩ := inB_key (k := .inl n) hy
    exact .inr (.inl ⟨a, o, rfl, g, by rw [e]; exact q⟩)
  · rename_i n kvs
    cases hb
    cases hx
    obtain ⟨a, o, rfl, g, e⟩ := inB_key (k := .inr n) hy
    exact .inr (.inl ⟨a, o, rfl, g, by rw [e]; exact q⟩)
  · cases hb
    cases hx
    cases hy
    exact .inr (.inr ⟨_, _, rfl, rfl, q⟩)
  · cases hb
theorem opd_nin (K : PySem.W.Frag) : OpD K (rNinA K) ninD := by
  intro x y d e z H0 H s hx hy hg Q k
  obtain ⟨b, hb, rfl⟩ := Option.map_eq_some_iff.mp hg
  have q : Q (.bl (!b)) H := sc s (.bl _) k
  unfold inB at hb
  split at hb
  · split at hb
    · rename_i hm
      cases hb
      obtain ⟨a, vs, rfl, h1, h2⟩ := hy
      obtain ⟨e1, e2⟩ := hx.flat hm.1
      obtain ⟨e3, e4⟩ := h2.flat hm.2
      exact .inl ⟨a, vs, rfl, .inl (SqL.of h1), e2, e4, by rw [e1, e3]; exact q⟩
    · cases hb
  · split at hb
    · rename_i hm
      cases hb
      cases hy with
      | tup h1 h2 =>
        obtain ⟨e1, e2⟩ := hx.flat hm.1
        obtain ⟨e3, e4⟩ := h2.flat hm.2
        exact .inl ⟨_, _, rfl, .inr (seqT_mono s h1), e2, e4, by rw [e1, e3]; exact q⟩
    · cases hb
  · rename_i n kvs
    cases hb
    cases hx
    obtain ⟨a, o, rfl, g, e⟩ := inB_key (k := .inl n) hy
    exact .inr (.inl ⟨a, o, rfl, g, by rw [e]; exact q⟩)
  · rename_i n kvs
    cases hb
    cases hx
    obtain ⟨a, o, rfl, g, e⟩ := inB_key (k := .inr n) hy
    exact .inr (.inl ⟨a, o, rfl, g, by rw [e]; exact q⟩)
  · cases hb
    cases hx
    cases hy
    exact .inr (.inr ⟨_, _, rfl, rfl, q⟩)
  · cases hb
/-! ### is None -/
def isN : Dt → Bool
  | .non => true
  | _ => false
def isND : Dt → Dt → Option Dt
  | d, .non => some (.bl (isN d))
  | _, _ => none
def notND : Dt → Dt → Option Dt
  | d, .non => some (.bl (!isN d))
  | _, _ => none
theorem Pk.isN {K : PySem.W.Frag} {H0 H : Hp} {v : V} {d : Dt} (h : Pk K H0 H v d) : decide (v = .non) = isN d := by
  cases d with
  | lst _ => obtain ⟨a, _, rfl, _⟩ := h; rfl
  | dct _ => obtain ⟨a, _, rfl, _⟩ := h; rfl
  | _ => cases h <;> rfl
theorem opd_isN (K : PySem.W.Frag) : OpD K (fun x y H Q => y = .non ∧ Q (.bl (decide (x = .non))) H) isND := by
  intro x y d e z H0 H s hx hy hg Q k
  unfold isND at hg
  split at hg
  · cases hg
    cases hy
    refine ⟨rfl, ?_⟩
    rw [hx.isN]
    exact sc s (.bl _) k
  · cases hg
theorem opd_notN (K : PySem.W.Frag) : OpD K (fun x y H Q => y = .non ∧ Q (.bl (!decide (x = .non))) H) notND := by
  intro x y d e z H0 H s hx hy hg Q k
  unfold notND at hg
  split at hg
  · cases hg
    cases hy
    refine ⟨rfl, ?_⟩
    rw [hx.isN]
    exact sc s (.bl _) k
  · cases hg

/-! ### subscripts -/
def ixD : Dt → Dt → Option Dt
  | .lst xs, .int i => atI xs i
  | .tup xs, .int i => atI xs i
  | .str z, .int i => if z.length ≤ 1000000 then (atI z.cps.toList i).map fun c => .str ⟨#[c]⟩ else none
  | .dct kvs, .int k => getK kvs (.inl k)
  | .dct kvs, .str k => getK kvs (.inr k)
  | .scr ns, .int i => (atI ns i).map .int
  | _, _ => none
def rIxA (K : PySem.W.Frag) : R2 := fun x y H Q => rIx K x y H Q ∨ ∃ a v, x = .ref a ∧ DGet H a y (some v) ∧ Q v H
theorem atI_da {K : PySem.W.Frag} {H : Hp} {vs : List V} {ds : List Dt} {i : Int} {z : Dt} (h : DaAll K H vs ds) (e : atI ds i = some z) : ∃ v, atI vs i = some v ∧ Da K H v z := by
  unfold atI at e ⊢
  rw [h.length]
  obtain ⟨j, h1, h2⟩ := Option.bind_eq_some_iff.mp e
  obtain ⟨v, h3, h4⟩ := h.get h2
  exact ⟨v, by rw [h1]; exact h3, h4⟩
theorem ixr_all (hu : X.A.units + 1 < cLine) : IxR X (rIxA X.K) := ix_seq.or (by
  intro value slice pins s σ H x y v u Q I rx ry q hs
  obtain ⟨a, w, rfl, g, q⟩ := q
  cases rx
  refine PyProof.Rows.tail_any (ops := [.ref a, u]) (dict_typeIs I g) PySem.F.slot_dict_getitem.lookup (d_getItem hu I g ry fun w' s' I' r' => ⟨w, H, I', r', q⟩) hs)
theorem opd_ix (K : PySem.W.Frag) : OpD K (rIxA K) ixD := by
  intro x y d e z H0 H s hx hy hg Q k
  unfold ixD at hg
  split at hg
  · obtain ⟨a, vs, rfl, h1, h2⟩ := hx
    cases hy
    obtain ⟨v, h3, h4⟩ := atI_da h2 hg
    exact .inl (.inl ⟨a, vs, _, v, rfl, rfl, SqL.of h1, h3, sc s h4 k⟩)
  · cases hy
    cases hx with
    | tup h1 h2 =>
      obtain ⟨v, h3, h4⟩ := atI_da h2 hg
      exact .inl (.inr (.inl ⟨_, _, _, v, rfl, rfl, seqT_mono s h1, h3, sc s h4 k⟩))
  · split at hg
    · rename_i hl
      cases hy
      cases hx
      obtain ⟨c, h1, rfl⟩ := Option.map_eq_some_iff.mp hg
      exact .inl (.inr (.inr ⟨_, _, c, rfl, rfl, sizeM hl, h1, sc s (.str _) k⟩))
    · cases hg
  · cases hy
    obtain ⟨a, ks, rfl, h1, h2⟩ := hx
    rename_i n
    obtain ⟨v, h3, h4⟩ := (h2.get _).1 _ hg
    exact .inr ⟨a, v, rfl, by rw [← h3]; exact DGet.k (k := .inl n) h1, sc s h4 k⟩
  · cases hy
    obtain ⟨a, ks, rfl, h1, h2⟩ := hx
    rename_i n
    obtain ⟨v, h3, h4⟩ := (h2.get _).1 _ hg
    exact .inr ⟨a, v, rfl, by rw [← h3]; exact DGet.k (k := .inr n) h1, sc s h4 k⟩
  · cases hy
    cases hx with
    | scr h1 =>
      obtain ⟨n, h3, rfl⟩ := Option.map_eq_some_iff.mp hg
      refine .inl (.inl ⟨_, _, _, .int n, rfl, rfl, seqL_mono s h1, ?_, sc s (.int _) k⟩)
      unfold atI at h3 ⊢
      rw [List.length_map]
      obtain ⟨j, h4, h5⟩ := Option.bind_eq_some_iff.mp h3
      rw [h4]
      show (List.map V.int _)[j]? = some (V.int n)
      rw [List.getElem?_map, h5]
      rfl
  · cases hg
end
end DW

set_option Elab.async false
set_option linter.all false
set_option maxRecDepth 100000
set_option maxHeartbeats 4000000
/-! DW5: rules for expressions, tests, arguments -/
namespace DW
open PySem L2

/-! ### the functions -/
def truD : Dt → Option Bool
  | .non => some false
  | .bl b => some b
  | .int i => some (i != 0)
  | .str y => if y.length ≤ 1000000 then some ((y.length : Int) != 0) else none
  | .lst xs => some (!xs.isEmpty)
  | .tup xs => some (!xs.isEmpty)
  | .dct xs => some (!xs.isEmpty)
  | .scr xs => some (!xs.isEmpty)
  | .xo _ _ _ => none
def truF (f : Rho → R Dt) : Rho → R Bool := fun ρ => (f ρ).bind fun d ρ1 => match truD d with
  | some b => .ok b ρ1
  | none => .bad
def tstF (f : Rho → R Dt) : Rho → R Bool := fun ρ => (f ρ).bind fun d ρ1 => match d with
  | .bl b => .ok b ρ1
  | _ => .bad
def andT (f g : Rho → R Bool) : Rho → R Bool := fun ρ => (f ρ).bind fun b ρ1 => if b = true then g ρ1 else .ok false ρ1
def orT (f g : Rho → R Bool) : Rho → R Bool := fun ρ => (f ρ).bind fun b ρ1 => if b = true then .ok true ρ1 else g ρ1
def notT (f : Rho → R Bool) : Rho → R Bool := fun ρ => (f ρ).bind fun b ρ1 => .ok (!b) ρ1
def andV (f g : Rho → R Dt) : Rho → R Dt := fun ρ => (f ρ).bind fun d ρ1 => match d with
  | .bl b => if b = true then g ρ1 else .ok (.bl false) ρ1
  | _ => .bad
def orV (f g : Rho → R Dt) : Rho → R Dt := fun ρ => (f ρ).bind fun d ρ1 => match d with
  | .bl b => if b = true then .ok (.bl true) ρ1 else g ρ1
  | _ => .bad
def notD (d : Dt) : Option Dt := (truD d).map fun b => .bl (!b)
def ifE (c : Rho → R Bool) (f g : Rho → R Dt) : Rho → R Dt := fun ρ => (c ρ).bind fun b ρ1 => if b = true then f ρ1 else g ρ1
def chainD (g1 g2 : Dt → Dt → Option Dt) (f1 f2 f3 : Rho → R Dt) : Rho → R Dt := fun ρ => (f1 ρ).bind fun x ρ1 => (f2 ρ1).bind fun y ρ2 => match g1 x y with
  | some (.bl true) => (f3 ρ2).bind fun z ρ3 => match g2 y z with
    | some w => .ok w ρ3
    | none => .bad
  | some (.bl false) => .ok (.bl false) ρ2
  | _ => .bad
def nilA : Rho → R (List Dt) := fun ρ => .ok [] ρ
def consA (f : Rho → R Dt) (g : Rho → R (List Dt)) : Rho → R (List Dt) := fun ρ => (f ρ).bind fun d ρ1 => (g ρ1).bind fun ds ρ2 => .ok (d :: ds) ρ2
def tupD (f : Rho → R (List Dt)) : Rho → R Dt := fun ρ => (f ρ).bind fun ds ρ1 => if ds.length ≤ 1000000 then .ok (.tup ds) ρ1 else .bad
def lstD (f : Rho → R (List Dt)) : Rho → R Dt := fun ρ => (f ρ).bind fun ds ρ1 => if ds.length ≤ 1000000 then .ok (.lst ds) ρ1 else .bad
def lstO (f : Rho → R (List Dt)) : Rho → R Sl := fun ρ => (f ρ).bind fun ds ρ1 => if ds.length ≤ 1000000 then .ok (.ol ds) ρ1 else .bad
def dctO0 : Rho → R Sl := fun ρ => .ok (.od []) ρ
def dctD0 : Rho → R Dt := fun ρ => .ok (.dct []) ρ
def frO (f : Rho → R Dt) : Rho → R Sl := fun ρ => (f ρ).bind fun d ρ1 => .ok (.fr d) ρ1
def cb (g : List Dt → Option Dt) (f : Rho → R (List Dt)) : Rho → R Dt := fun ρ => (f ρ).bind fun ds ρ1 => match g ds with
  | some z => .ok z ρ1
  | none => .bad
def noP : Rho → R (Option Int) := fun ρ => .ok none ρ
def someP (f : Rho → R Dt) : Rho → R (Option Int) := fun ρ => (f ρ).bind fun d ρ1 => match d with
  | .int i => .ok (some i) ρ1
  | _ => .bad
def cutD {α : Type} (xs : List α) (lo hi : Option Int) : List α := (xs.drop (HT.sIx xs.length 0 lo)).take (HT.sIx xs.length xs.length hi - HT.sIx xs.length 0 lo)
def slD : Dt → Option Int → Option Int → Option Dt
  | .lst xs, lo, hi => some (.lst (cutD xs lo hi))
  | .tup xs, lo, hi => some (.tup (cutD xs lo hi))
  | .scr ns, lo, hi => some (.lst ((cutD ns lo hi).map .int))
  | .str z, lo, hi => if z.length ≤ 1000000 then some (.str (cutS z lo hi)) else none
  | _, _, _ => none
def sl3 (f : Rho → R Dt) (fl fh : Rho → R (Option Int)) : Rho → R Dt := fun ρ => (f ρ).bind fun d ρ1 => (fl ρ1).bind fun lo ρ2 => (fh ρ2).bind fun hi ρ3 => match slD d lo hi with
  | some z => .ok z ρ3
  | none => .bad

/-! ### readings -/
section
variable {F : Fm} {g : Gx} {W : WX} {σ : L2.St} {H : Hp}
theorem bind_ok {α β : Type} {r : R α} {k : α → Rho → R β} {b : β} {ρ' : Rho} (h : r.bind k = .ok b ρ') : ∃ a ρ1, r = .ok a ρ1 ∧ k a ρ1 = .ok b ρ' := by
  cases r with
  | ok a ρ1 => exact ⟨a, ρ1, rfl, h⟩
  | ex _ _ => cases h
  | bad => cases h
theorem tC_cst {v : V} {d : Dt} {Q : VK} (hd : ∀ H, Da g.K H v d) (h : tD g F W (cst d) σ H Q) : tC v σ H Q := by
  obtain ⟨H0, ρ, E, q⟩ := h
  exact q v H0 H E Mv.refl (hd _)
theorem tTest_of {f : Rho → R Dt} {Q : Bool → Hp → Prop} (h : tDT g F W (tstF f) σ H Q) : tTest (tD g F W f) σ H Q := by
  obtain ⟨H0, ρ, E, q⟩ := h
  refine ⟨H0, ρ, E, ?_⟩
  unfold tstF at q
  cases e : f ρ with
  | ok d ρ1 =>
    rw [e] at q
    dsimp only [R.bind] at q
    intro v H0' H' E' m hd
    cases d with
    | bl b =>
      cases hd
      exact ⟨b, rfl, q H0' H' E' m⟩
    | _ => exact q.elim
  | ex x ρ1 =>
    rw [e] at q
    exact q
  | bad =>
    rw [e] at q
    exact q
theorem truV_of {K : PySem.W.Frag} {H0 H : Hp} {v : V} {d : Dt} {b : Bool} (e : Same H0 H) (h : Pk K H0 H v d) (hb : truD d = some b) : TruV K v H b := by
  cases d with
  | xo _ _ _ => cases hb
  | non => cases h; cases hb; rfl
  | bl _ => cases h; cases hb; rfl
  | int _ => cases h; cases hb; rfl
  | str y =>
    cases h
    by_cases hl : y.length ≤ 1000000
    · simp only [truD, if_pos hl, Option.some.injEq] at hb
      exact ⟨sizeM hl, hb.symm⟩
    · simp only [truD, if_neg hl] at hb
      cases hb
  | lst xs =>
    obtain ⟨a, vs, rfl, h1, h2⟩ := h
    cases hb
    refine .inl ⟨vs, SqL.of h1, ?_⟩
    cases h2 <;> rfl
  | tup xs =>
    cases hb
    cases h with
    | tup h1 h2 =>
      refine .inr (.inl ⟨_, seqT_mono e h1, ?_⟩)
      cases h2 <;> rfl
  | dct xs =>
    obtain ⟨a, vs, rfl, h1, h2⟩ := h
    cases hb
    refine .inr (.inr ⟨vs, h1, ?_⟩)
    cases h2 <;> rfl
  | scr xs =>
    cases hb
    cases h with
    | scr h1 =>
      refine .inl ⟨_, seqL_mono e h1, ?_⟩
      cases xs <;> rfl
theorem tTru_of {f : Rho → R Dt} {Q : Bool → Hp → Prop} (h : tDT g F W (truF f) σ H Q) : tK g F W f σ H (fun x H' => ∃ k, TruV g.K x H' k ∧ Q k H') := by
  obtain ⟨H0, ρ, E, q⟩ := h
  refine ⟨H0, ρ, E, ?_⟩
  unfold truF at q
  cases e : f ρ with
  | ok d ρ1 =>
    rw [e] at q
    dsimp only [R.bind] at q
    intro v H0' H' E' m hd
    cases e2 : truD d with
    | some b =>
      rw [e2] at q
      exact ⟨b, truV_of E'.ex hd e2, q H0' H' E' m⟩
    | none =>
      rw [e2] at q
      exact q.elim
  | ex x ρ1 =>
    rw [e] at q
    exact q
  | bad =>
    rw [e] at q
    exact q
theorem tNotT_of {f : Rho → R Dt} {Q : VK} (h : tD g F W (un notD f) σ H Q) : tNotT g.K (tK g F W f) σ H Q := by
  obtain ⟨H0, ρ, E, q⟩ := h
  refine ⟨H0, ρ, E, ?_⟩
  unfold un at q
  cases e : f ρ with
  | ok d ρ1 =>
    rw [e] at q
    dsimp only [R.bind, notD] at q
    intro v H0' H' E' m hd
    cases e2 : truD d with
    | some b =>
      rw [e2] at q
      exact ⟨b, truV_of E'.ex hd e2, q _ H0' H' E' m (.bl _)⟩
    | none =>
      rw [e2] at q
      exact q.elim
  | ex x ρ1 =>
    rw [e] at q
    exact q
  | bad =>
    rw [e] at q
    exact q
theorem tAnd_of {f k : Rho → R Bool} {Q : Bool → Hp → Prop} (h : tDT g F W (andT f k) σ H Q) : tAnd (tDT g F W f) (tDT g F W k) σ H Q := by
  obtain ⟨H0, ρ, E, q⟩ := h
  refine ⟨H0, ρ, E, ?_⟩
  unfold andT at q
  cases e : f ρ with
  | ok b ρ1 =>
    rw [e] at q
    dsimp only [R.bind] at q
    intro H0' H' E' m
    cases b with
    | true =>
      rw [if_pos rfl] at q ⊢
      refine ⟨H0', ρ1, E', ?_⟩
      cases e2 : k ρ1 with
      | ok b2 ρ2 =>
        rw [e2] at q
        exact fun H0'' H'' E'' m' => q H0'' H'' E'' (m.trans m')
      | ex x ρ1 =>
        rw [e2] at q
        exact q
      | bad =>
        rw [e2] at q
        exact q
    | false =>
      rw [if_neg Bool.false_ne_true] at q ⊢
      exact q H0' H' E' m
  | ex x ρ1 =>
    rw [e] at q
    exact q
  | bad =>
    rw [e] at q
    exact q
theorem tOr_of {f k : Rho → R Bool} {Q : Bool → Hp → Prop} (h : tDT g F W (orT f k) σ H Q) : tOr (tDT g F W f) (tDT g F W k) σ H Q := by
  obtain ⟨H0, ρ, E, q⟩ := h
  refine ⟨H0, ρ, E, ?_⟩
  unfold orT at q
  cases e : f ρ with
  | ok b ρ1 =>
    rw [e] at q
    dsimp only [R.bind] at q
    intro H0' H' E' m
    cases b with
    | false =>
      rw [if_neg Bool.false_ne_true] at q ⊢
      refine ⟨H0', ρ1, E', ?_⟩
      cases e2 : k ρ1 with
      | ok b2 ρ2 =>
        rw [e2] at q
        exact fun H0'' H'' E'' m' => q H0'' H'' E'' (m.trans m')
      | ex x ρ1 =>
        rw [e2] at q
        exact q
      | bad =>
        rw [e2] at q
        exact q
    | true =>
      rw [if_pos rfl] at q ⊢
      exact q H0' H' E' m
  | ex x ρ1 =>
    rw [e] at q
    exact q
  | bad =>
    rw [e] at q
    exact q
theorem tNot_of {f : Rho → R Bool} {Q : Bool → Hp → Prop} (h : tDT g F W (notT f) σ H Q) : tNot (tDT g F W f) σ H Q := by
  obtain ⟨H0, ρ, E, q⟩ := h
  refine ⟨H0, ρ, E, ?_⟩
  unfold notT at q
  cases e : f ρ with
  | ok b ρ1 =>
    rw [e] at q
    exact fun H0' H' E' m => q H0' H' E' m
  | ex x ρ1 =>
    rw [e] at q
    exact q
  | bad =>
    rw [e] at q
    exact q
theorem tAndV_of {f k : Rho → R Dt} {Q : VK} (h : tD g F W (andV f k) σ H Q) : tAndV (tD g F W f) (tD g F W k) σ H Q := by
  obtain ⟨H0, ρ, E, q⟩ := h
  refine ⟨H0, ρ, E, ?_⟩
  unfold andV at q
  cases e : f ρ with
  | ok d ρ1 =>
    rw [e] at q
    dsimp only [R.bind] at q
    intro v H0' H' E' m hd
    cases d with
    | bl b =>
      cases hd
      refine ⟨b, rfl, ?_⟩
      dsimp only at q
      cases b with
      | true =>
        rw [if_pos rfl] at q ⊢
        refine ⟨H0', ρ1, E', ?_⟩
        cases e2 : k ρ1 with
        | ok b2 ρ2 =>
          rw [e2] at q
          exact fun v H0'' H'' E'' m' hd => q v H0'' H'' E'' (m.trans m') hd
        | ex x ρ1 =>
          rw [e2] at q
          exact q
        | bad =>
          rw [e2] at q
          exact q
      | false =>
        rw [if_neg Bool.false_ne_true] at q ⊢
        exact q _ H0' H' E' m (.bl _)
    | _ => exact q.elim
  | ex x ρ1 =>
    rw [e] at q
    exact q
  | bad =>
    rw [e] at q
    exact q
theorem tOrV_of {f k : Rho → R Dt} {Q : VK} (h : tD g F W (orV f k) σ H Q) : tOrV (tD g F W f) (tD g F W k) σ H Q := by
  obtain ⟨H0, ρ, E, q⟩ := h
  refine ⟨H0, ρ, E, ?_⟩
  unfold orV at q
  cases e : f ρ with
  | ok d ρ1 =>
    rw [e] at q
    dsimp only [R.bind] at q
    intro v H0' H' E' m hd
    cases d with
    | bl b =>
      cases hd
      refine ⟨b, rfl, ?_⟩
      dsimp only at q
      cases b with
      | false =>
        rw [if_neg Bool.false_ne_true] at q ⊢
        refine ⟨H0', ρ1, E', ?_⟩
        cases e2 : k ρ1 with
        | ok b2 ρ2 =>
          rw [e2] at q
          exact fun v H0'' H'' E'' m' hd => q v H0'' H'' E'' (m.trans m') hd
        | ex x ρ1 =>
          rw [e2] at q
          exact q
        | bad =>
          rw [e2] at q
          exact q
      | true =>
        rw [if_pos rfl] at q ⊢
        exact q _ H0' H' E' m (.bl _)
    | _ => exact q.elim
  | ex x ρ1 =>
    rw [e] at q
    exact q
  | bad =>
    rw [e] at q
    exact q
theorem tIf_of {c : Rho → R Bool} {f k : Rho → R Dt} {Q : VK} (h : tD g F W (ifE c f k) σ H Q) : tIf (tDT g F W c) (tD g F W f) (tD g F W k) σ H Q := by
  obtain ⟨H0, ρ, E, q⟩ := h
  refine ⟨H0, ρ, E, ?_⟩
  unfold ifE at q
  cases e : c ρ with
  | ok b ρ1 =>
    rw [e] at q
    dsimp only [R.bind] at q
    intro H0' H' E' m
    cases b with
    | true =>
      rw [if_pos rfl] at q ⊢
      refine ⟨H0', ρ1, E', ?_⟩
      cases e2 : f ρ1 with
      | ok b2 ρ2 =>
        rw [e2] at q
        exact fun v H0'' H'' E'' m' hd => q v H0'' H'' E'' (m.trans m') hd
      | ex x ρ1 =>
        rw [e2] at q
        exact q
      | bad =>
        rw [e2] at q
        exact q
    | false =>
      rw [if_neg Bool.false_ne_true] at q ⊢
      refine ⟨H0', ρ1, E', ?_⟩
      cases e2 : k ρ1 with
      | ok b2 ρ2 =>
        rw [e2] at q
        exact fun v H0'' H'' E'' m' hd => q v H0'' H'' E'' (m.trans m') hd
      | ex x ρ1 =>
        rw [e2] at q
        exact q
      | bad =>
        rw [e2] at q
        exact q
  | ex x ρ1 =>
    rw [e] at q
    exact q
  | bad =>
    rw [e] at q
    exact q
theorem tChain_of {r r' : R2} {g1 g2 : Dt → Dt → Option Dt} {f1 f2 f3 : Rho → R Dt} (h1 : OpD g.K r g1) (h2 : OpD g.K r' g2) {Q : VK} (h : tD g F W (chainD g1 g2 f1 f2 f3) σ H Q) :
    tChain r r' (tD g F W f1) (tD g F W f2) (tD g F W f3) σ H Q := by
  obtain ⟨H0, ρ, E, q⟩ := h
  refine ⟨H0, ρ, E, ?_⟩
  unfold chainD at q
  cases e1 : f1 ρ with
  | ok d ρ1 =>
    rw [e1] at q
    dsimp only [R.bind] at q
    intro x B0 B E1 m1 d1
    refine ⟨B0, ρ1, E1, ?_⟩
    cases e2 : f2 ρ1 with
    | ok e ρ2 =>
      rw [e2] at q
      dsimp only [R.bind] at q
      intro y C0 C E2 m2 d2
      cases e3 : g1 d e with
      | none =>
        rw [e3] at q
        exact q.elim
      | some z =>
        rw [e3] at q
        refine h1 x y d e z C0 C E2.ex (Da.pk E2.ex (d1.mono m2.b0)) (Da.pk E2.ex d2) e3 _ fun v D0 D g3 s3 d3 => ?_
        obtain ⟨E3, m3⟩ := E2.post (m1.trans m2) g3 s3
        cases z with
        | bl b =>
          cases d3
          refine ⟨b, rfl, ?_⟩
          cases b with
          | true =>
            rw [if_pos rfl]
            refine ⟨D0, ρ2, E3, ?_⟩
            dsimp only at q
            cases e4 : f3 ρ2 with
            | ok z ρ3 =>
              rw [e4] at q
              dsimp only [R.bind] at q
              intro w' G0 G E4 m4 d4
              cases e5 : g2 e z with
              | none =>
                rw [e5] at q
                exact q.elim
              | some u =>
                rw [e5] at q
                refine h2 y w' e z u G0 G E4.ex (Da.pk E4.ex ((d2.mono g3.b0).mono m4.b0)) (Da.pk E4.ex d4) e5 _ fun v I0 I g5 s5 d5 => ?_
                obtain ⟨E5, m5⟩ := E4.post (m3.trans m4) g5 s5
                exact q v I0 I E5 m5 d5
            | ex x ρ1 =>
              rw [e4] at q
              exact q
            | bad =>
              rw [e4] at q
              exact q
          | false =>
            rw [if_neg Bool.false_ne_true]
            exact q _ D0 D E3 m3 (.bl _)
        | _ => exact q.elim
    | ex x ρ1 =>
      rw [e2] at q
      exact q
    | bad =>
      rw [e2] at q
      exact q
  | ex x ρ1 =>
    rw [e1] at q
    exact q
  | bad =>
    rw [e1] at q
    exact q
theorem tNil_of {Q : List V → Hp → Prop} (h : tDA g F W nilA σ H Q) : tNil σ H Q := by
  obtain ⟨H0, ρ, E, q⟩ := h
  exact q [] H0 H E Mv.refl .nil
theorem tCons_of {f : Rho → R Dt} {k : Rho → R (List Dt)} {Q : List V → Hp → Prop} (h : tDA g F W (consA f k) σ H Q) : tCons (tD g F W f) (tDA g F W k) σ H Q := by
  obtain ⟨H0, ρ, E, q⟩ := h
  refine ⟨H0, ρ, E, ?_⟩
  unfold consA at q
  cases e : f ρ with
  | ok d ρ1 =>
    rw [e] at q
    dsimp only [R.bind] at q
    intro v H0' H' E' m hd
    refine ⟨H0', ρ1, E', ?_⟩
    cases e2 : k ρ1 with
    | ok ds ρ2 =>
      rw [e2] at q
      exact fun vs H0'' H'' E'' m' hs => q (v :: vs) H0'' H'' E'' (m.trans m') (.cons (hd.mono m'.b0) hs)
    | ex x ρ1 =>
      rw [e2] at q
      exact q
    | bad =>
      rw [e2] at q
      exact q
  | ex x ρ1 =>
    rw [e] at q
    exact q
  | bad =>
    rw [e] at q
    exact q
theorem tTup_of {f : Rho → R (List Dt)} {Q : VK} (h : tD g F W (tupD f) σ H Q) : tTup (tDA g F W f) σ H Q := by
  obtain ⟨H0, ρ, E, q⟩ := h
  refine ⟨H0, ρ, E, ?_⟩
  unfold tupD at q
  cases e : f ρ with
  | ok ds ρ1 =>
    rw [e] at q
    dsimp only [R.bind] at q
    intro vs H0' H' E' m hd
    by_cases hl : ds.length ≤ 1000000
    · rw [if_pos hl] at q
      refine ⟨by rw [hd.length]; exact sizeM hl, al_tup E'.ex hd fun v C0 C gr s2 hv => ?_⟩
      obtain ⟨E3, m3⟩ := E'.post m gr s2
      exact q v C0 C E3 m3 hv
    · rw [if_neg hl] at q
      exact q.elim
  | ex x ρ1 =>
    rw [e] at q
    exact q
  | bad =>
    rw [e] at q
    exact q
theorem tLst_of {f : Rho → R (List Dt)} {Q : VK} (h : tD g F W (lstD f) σ H Q) : tLst (tDA g F W f) σ H Q := by
  obtain ⟨H0, ρ, E, q⟩ := h
  refine ⟨H0, ρ, E, ?_⟩
  unfold lstD at q
  cases e : f ρ with
  | ok ds ρ1 =>
    rw [e] at q
    dsimp only [R.bind] at q
    intro vs H0' H' E' m hd
    by_cases hl : ds.length ≤ 1000000
    · rw [if_pos hl] at q
      refine ⟨by rw [hd.length]; exact sizeM hl, al_lst E'.ex hd fun v C0 C gr s2 hv => ?_⟩
      obtain ⟨E3, m3⟩ := E'.post m gr s2
      exact q v C0 C E3 m3 hv
    · rw [if_neg hl] at q
      exact q.elim
  | ex x ρ1 =>
    rw [e] at q
    exact q
  | bad =>
    rw [e] at q
    exact q
end
end DW

set_option Elab.async false
set_option linter.all false
set_option maxRecDepth 100000
set_option maxHeartbeats 4000000
/-! DW6: rules for expressions: the text's side -/
namespace DW
open PySem L2
section
variable {X : Cx} {W : WX} {a b c e : Expr} {es : List Expr} {pos p p2 : Pos} {f1 f2 f3 : Rho → R Dt}

theorem de_int {i j} : DE X W (.Constant (.int i) j pos) (cst (.int i)) := fun F => PE.wk pe_int fun _ _ _ h => tC_cst (fun _ => .int i) h
theorem de_bl {i j} : DE X W (.Constant (.bool i) j pos) (cst (.bl i)) := fun F => PE.wk pe_bl fun _ _ _ h => tC_cst (fun _ => .bl i) h
theorem de_non {j} : DE X W (.Constant .none j pos) (cst .non) := fun F => PE.wk pe_non fun _ _ _ h => tC_cst (fun _ => .non) h
theorem de_str {x j} : DE X W (.Constant (.str x) j pos) (cst (.str x)) := fun F => PE.wk pe_str fun _ _ _ h => tC_cst (fun _ => .str x) h
theorem de_var (i : Nat) {x : Str} (hN : X.N[i]? = some x := by rfl) (hv : Vis X.env.scope x := by first | exact Or.inl rfl | exact Or.inr (Or.inl rfl) | exact Or.inr (Or.inr rfl)) (hd : (x == ("__debug__" : Str)) = false := by decide)
    (hcd : (x == ("__classdict__" : Str)) = false := by decide) : DE X W (.Name x pos) (var i) := fun F => PE.wk (pe_var hN hv hd hcd) fun _ _ _ h => tD_var h
theorem dk_var (i : Nat) {x : Str} (hN : X.N[i]? = some x := by rfl) (hv : Vis X.env.scope x := by first | exact Or.inl rfl | exact Or.inr (Or.inl rfl) | exact Or.inr (Or.inr rfl)) (hd : (x == ("__debug__" : Str)) = false := by decide)
    (hcd : (x == ("__classdict__" : Str)) = false := by decide) : DK X W (.Name x pos) (pkF i) := fun F => PE.wk (pe_var hN hv hd hcd) fun _ _ _ h => tK_pk h
theorem dk_of (h : DE X W e f1) : DK X W e f1 := fun F => PE.wk (h F) fun _ _ _ q => tK_of q
theorem de_gi {x : Str} {i : Int} {t : Tok} (hg : Gl X x) (hm : X.mg x = some (.int i t)) (hd : (x == ("__debug__" : Str)) = false := by decide) : DE X W (.Name x pos) (cst (.int i)) :=
  fun F => PE.wk (pe_glob (v := .int i) hg hm ⟨_, rfl⟩ hd) fun _ _ _ h => tC_cst (v := .int i) (fun _ => .int i) h
theorem de_gs {x : Str} {i : Str} {t : Tok} (hg : Gl X x) (hm : X.mg x = some (.str i t)) (hd : (x == ("__debug__" : Str)) = false := by decide) : DE X W (.Name x pos) (cst (.str i)) :=
  fun F => PE.wk (pe_glob (v := .str i) hg hm ⟨_, rfl⟩ hd) fun _ _ _ h => tC_cst (v := .str i) (fun _ => .str i) h

/-! ### operators -/
theorem de_op {op : Operator} {r : R2} {gg : Dt → Dt → Option Dt} (ho : OpR X (binaryOp op) r) (hd : OpD X.K r gg) (ha : DE X W a f1) (hb : DK X W b f2) : DE X W (.BinOp a op b pos) (bin gg f1 f2) :=
  fun F => PE.wk (pe_op ho (ha F) (hb F)) fun _ _ _ h => tOp_bin hd h
theorem de_opP {op : Operator} {r : R2} {gg : Dt → Dt → Option Dt} {i : Nat} {x : Str} (ho : OpR X (binaryOp op) r) (hd : OpD X.K r gg) (ha : PE X (.Name x p) (tVar i)) (hb : DK X W b f2) : DE X W (.BinOp (.Name x p) op b pos) (binP gg i f2) :=
  fun F => PE.wk (pe_op ho ha (hb F)) fun _ _ _ h => tOp_binP hd h
theorem de_add (ha : DE X W a f1) (hb : DK X W b f2) : DE X W (.BinOp a .Add b pos) (bin addD f1 f2) := de_op opr_add (opd_add _) ha hb
theorem de_sub (ha : DE X W a f1) (hb : DK X W b f2) : DE X W (.BinOp a .Sub b pos) (bin subD f1 f2) := de_op op_sub (opd_sub _) ha hb
theorem de_mul (ha : DE X W a f1) (hb : DK X W b f2) : DE X W (.BinOp a .Mult b pos) (bin mulD f1 f2) := de_op opr_mul (opd_mul _) ha hb
theorem de_fdiv (ha : DE X W a f1) (hb : DK X W b f2) : DE X W (.BinOp a .FloorDiv b pos) (bin fdivD f1 f2) := de_op op_fdivW (opd_fdiv _) ha hb
theorem de_mod (ha : DE X W a f1) (hb : DK X W b f2) : DE X W (.BinOp a .Mod b pos) (bin modD f1 f2) := de_op op_mod (opd_mod _) ha hb
theorem de_pow (ha : DE X W a f1) (hb : DK X W b f2) : DE X W (.BinOp a .Pow b pos) (bin powD f1 f2) := de_op op_pow (opd_pow _) ha hb
def negD : Dt → Option Dt
  | .int i => some (.int (-i))
  | _ => none
theorem de_neg (ha : DE X W a f1) : DE X W (.UnaryOp .USub a pos) (un negD f1) := fun F => PE.wk (pe_un un_neg (dk_of ha F)) fun _ _ _ h => tUn_un (fun x d z H0 H s hx hg Q k => by
  unfold negD at hg
  split at hg
  · cases hg
    cases hx
    exact ⟨_, rfl, sc s (.int _) k⟩
  · cases hg) h

/-! ### comparisons -/
theorem de_cmp {op : CmpOp} {r : R2} {gg : Dt → Dt → Option Dt} (ho : OpR X (compareOp op) r) (hd : OpD X.K r gg) (hm : behindInMarks op b = false) (ha : DE X W a f1) (hb : DK X W b f2) : DE X W (.Compare a [op] [b] pos) (bin gg f1 f2) :=
  fun F => PE.wk (pe_cmpR ho (ha F) (hb F) hm) fun _ _ _ h => tOp_bin hd h
theorem dt_cmp {op : CmpOp} {r : R2} {gg : Dt → Dt → Option Dt} (ho : OpR X (compareOp op) r) (hd : OpD X.K r gg) (hm : behindInMarks op b = false) (ha : DE X W a f1) (hb : DK X W b f2) : DT X W (.Compare a [op] [b] pos) (tstF (bin gg f1 f2)) :=
  fun F => PT.wk (pt_cmpR ho (ha F) (hb F) hm) fun _ _ _ h => tOp_bin hd (tTest_of h)
theorem de_cmpP {op : CmpOp} {r : R2} {gg : Dt → Dt → Option Dt} {i : Nat} {x : Str} (ho : OpR X (compareOp op) r) (hd : OpD X.K r gg) (hm : behindInMarks op b = false) (ha : PE X (.Name x p) (tVar i)) (hb : DK X W b f2) : DE X W (.Compare (.Name x p) [op] [b] pos) (binP gg i f2) :=
  fun F => PE.wk (pe_cmpR ho ha (hb F) hm) fun _ _ _ h => tOp_binP hd h
theorem dt_cmpP {op : CmpOp} {r : R2} {gg : Dt → Dt → Option Dt} {i : Nat} {x : Str} (ho : OpR X (compareOp op) r) (hd : OpD X.K r gg) (hm : behindInMarks op b = false) (ha : PE X (.Name x p) (tVar i)) (hb : DK X W b f2) : DT X W (.Compare (.Name x p) [op] [b] pos) (tstF (binP gg i f2)) :=
  fun F => PT.wk (pt_cmpR ho ha (hb F) hm) fun _ _ _ h => tOp_binP hd (tTest_of h)
theorem de_chain {op op' : CmpOp} {r r' : R2} {g1 g2 : Dt → Dt → Option Dt} (ho : OpR X (compareOp op) r) (h1 : OpD X.K r g1) (ho' : OpR X (compareOp op') r') (h2 : OpD X.K r' g2) (ha : DE X W a f1) (hb : DE X W b f2) (hc : DE X W c f3)
    (hm : lastMarks [op, op'] [b, c] = false := by with_unfolding_all rfl) : DE X W (.Compare a [op, op'] [b, c] pos) (chainD g1 g2 f1 f2 f3) :=
  fun F => PE.wk (pe_chain ho ho' (ha F) (hb F) (hc F) hm) fun _ _ _ h => tChain_of h1 h2 h
theorem dt_chain {op op' : CmpOp} {r r' : R2} {g1 g2 : Dt → Dt → Option Dt} (ho : OpR X (compareOp op) r) (h1 : OpD X.K r g1) (ho' : OpR X (compareOp op') r') (h2 : OpD X.K r' g2) (ha : DE X W a f1) (hb : DE X W b f2) (hc : DE X W c f3)
    (hm : lastMarks [op, op'] [b, c] = false := by with_unfolding_all rfl) : DT X W (.Compare a [op, op'] [b, c] pos) (tstF (chainD g1 g2 f1 f2 f3)) :=
  fun F => PT.wk (pt_chain ho ho' (ha F) (hb F) (hc F) hm) fun _ _ _ h => tChain_of h1 h2 (tTest_of h)

/-! ### tests -/
theorem dt_tru (ha : DK X W a f1) (he : ∀ whole, isTrue a X.env whole = (do let v ← whole; standAt a.pos; holding [v] (truthy v)) := by intro _; rfl) : DT X W a (truF f1) :=
  fun F => PT.wk (pt_truth (ha F) he) fun _ _ _ h => tTru_of h
variable {t1 t2 : Rho → R Bool} {rest : List Expr}
theorem dw_and1 (ha : DT X W a t1) : DW' X W (.BoolOp .And [a] pos) t1 := fun F => pw_and1 (ha F)
theorem dw_or1 (ha : DT X W a t1) : DW' X W (.BoolOp .Or [a] pos) t1 := fun F => pw_or1 (ha F)
theorem dw_and (ha : DT X W a t1) (hb : DW' X W (.BoolOp .And (b :: rest) pos) t2) : DW' X W (.BoolOp .And (a :: b :: rest) pos) (andT t1 t2) := fun F => PW.wk (pw_and (ha F) (hb F)) fun _ _ _ h => tAnd_of h
theorem dw_or (ha : DT X W a t1) (hb : DW' X W (.BoolOp .Or (b :: rest) pos) t2) : DW' X W (.BoolOp .Or (a :: b :: rest) pos) (orT t1 t2) := fun F => PW.wk (pw_or (ha F) (hb F)) fun _ _ _ h => tOr_of h
theorem dt_w (h : DW' X W a t1) : DT X W a t1 := fun F => (h F).pt
theorem dt_not (ha : DT X W a t1) : DT X W (.UnaryOp .Not a pos) (notT t1) := fun F => PT.wk (pt_not (ha F)) fun _ _ _ h => tNot_of h
theorem de_not (ha : DK X W a f1) : DE X W (.UnaryOp .Not a pos) (un notD f1) := fun F => PE.wk (pe_notT (ha F)) fun _ _ _ h => tNotT_of h
theorem de_one {op} (ha : DE X W a f1) : DE X W (.BoolOp op [a] pos) f1 := fun F => pe_one (ha F)
theorem de_and (ha : DE X W a f1) (hb : DE X W (.BoolOp .And (b :: rest) pos) f2) : DE X W (.BoolOp .And (a :: b :: rest) pos) (andV f1 f2) := fun F => PE.wk (pe_and (ha F) (hb F)) fun _ _ _ h => tAndV_of h
theorem de_or (ha : DE X W a f1) (hb : DE X W (.BoolOp .Or (b :: rest) pos) f2) : DE X W (.BoolOp .Or (a :: b :: rest) pos) (orV f1 f2) := fun F => PE.wk (pe_or (ha F) (hb F)) fun _ _ _ h => tOrV_of h
theorem de_if (hc : DT X W c t1) (ha : DE X W a f1) (hb : DE X W b f2) : DE X W (.IfExp c a b pos) (ifE t1 f1 f2) := fun F => PE.wk (pe_ifExp (hc F) (ha F) (hb F)) fun _ _ _ h => tIf_of h

/-! ### arguments, displays -/
variable {fa : Rho → R (List Dt)}
theorem da_nil : DA X W [] nilA := fun F => PA.wk pa_nil fun _ _ _ h => tNil_of h
theorem da_cons (ha : DE X W a f1) (hr : DA X W es fa) (he : starEach (a :: es) X.env = (false, eval a X.env) :: starEach es X.env := by rfl) : DA X W (a :: es) (consA f1 fa) := fun F => PA.wk (pa_cons (ha F) (hr F) he) fun _ _ _ h => tCons_of h
theorem de_tup {k} (h : DA X W es fa) : DE X W (.Tuple es k pos) (tupD fa) := fun F => PE.wk (pe_tup (h F)) fun _ _ _ q => tTup_of q
theorem de_lst (h : DA X W es fa) : DE X W (.List es pos) (lstD fa) := fun F => PE.wk (pe_lst (h F)) fun _ _ _ q => tLst_of q

/-! ### subscripts, slices -/
theorem de_ix (hu : X.A.units + 1 < cLine) (ha : DE X W a f1) (hb : DK X W b f2) (hs : PlainIx b) : DE X W (.Subscript a b pos) (bin ixD f1 f2) := fun F => PE.wk (pe_ix (ixr_all hu) (ha F) (hb F) hs) fun _ _ _ h => tOp_bin (opd_ix _) h
theorem de_ixP {i : Nat} {x : Str} (hu : X.A.units + 1 < cLine) (ha : PE X (.Name x p) (tVar i)) (hb : DK X W b f2) (hs : PlainIx b) : DE X W (.Subscript (.Name x p) b pos) (binP ixD i f2) := fun F => PE.wk (pe_ix (ixr_all hu) ha (hb F) hs) fun _ _ _ h => tOp_binP (opd_ix _) h
def tDP (g : Gx) (F : Fm) (W : WX) (f : Rho → R (Option Int)) : TO := fun σ H Q => ∃ H0 ρ, En g.K F H0 H σ ρ ∧ match f ρ with
  | .ok o ρ' => ∀ H0' H', En g.K F H0' H' σ ρ' → Mv σ ρ ρ' H0 H H0' H' → Q o H'
  | .ex e ρ' => XW g F W σ e ρ'
  | .bad => False
def DP (X : Cx) (W : WX) (e : Option Expr) (f : Rho → R (Option Int)) : Prop := ∀ F, PO X e (tDP (gx X) F W f)
theorem PO.wk {e : Option Expr} {t u : TO} (h : PO X e t) (k : ∀ σ H Q, u σ H Q → t σ H Q) : PO X e u := ⟨fun pins s σ H Q I q => h.run pins s σ H Q I (k σ H Q q)⟩
theorem dp_none : DP X W none noP := fun F => PO.wk po_none fun _ _ _ ⟨H0, ρ, E, q⟩ => q H0 _ E Mv.refl
theorem dp_some (h : DE X W e f1) : DP X W (some e) (someP f1) := fun F => PO.wk (po_some (h F)) fun σ H Q ⟨H0, ρ, E, q⟩ => by
  refine ⟨H0, ρ, E, ?_⟩
  unfold someP at q
  cases e : f1 ρ with
  | ok d ρ1 =>
    rw [e] at q
    dsimp only [R.bind] at q
    intro v H0' H' E' m hd
    cases d with
    | int i =>
      cases hd
      exact ⟨i, rfl, q H0' H' E' m⟩
    | _ => exact q.elim
  | ex x ρ1 =>
    rw [e] at q
    exact q
  | bad =>
    rw [e] at q
    exact q
def rSlAll (K : PySem.W.Frag) : V → Option Int → Option Int → Hp → VK → Prop := fun x lo hi H Q => rSlL K x lo hi H Q ∨ rSlA K x lo hi H Q ∨ rSlS x lo hi H Q
theorem slr_all : L2.SlR X (rSlAll X.K) := sl_list.or (sl_tupA.or sl_str)
theorem DaAll.cut {K : PySem.W.Frag} {H : Hp} {vs : List V} {ds : List Dt} (h : DaAll K H vs ds) (lo hi : Option Int) : DaAll K H (cutV vs lo hi) (cutD ds lo hi) := by
  unfold cutV cutD
  rw [h.length]
  exact (h.drop _).take _
theorem cut_whole {α : Type} (xs : List α) (lo hi : Option Int) (h : HT.sIx xs.length 0 lo = 0 ∧ HT.sIx xs.length xs.length hi = xs.length) : cutD xs lo hi = xs := by
  unfold cutD
  rw [h.1, h.2, List.drop_zero, Nat.sub_zero, List.take_length]
theorem cutD_map {α β : Type} (f : α → β) (xs : List α) (lo hi : Option Int) : cutD (xs.map f) lo hi = (cutD xs lo hi).map f := by
  unfold cutD
  rw [List.length_map, List.map_take, List.map_drop]
theorem slD_ok {K : PySem.W.Frag} {H0 H : Hp} {x : V} {d z : Dt} {lo hi : Option Int} (s : Same H0 H) (hx : Pk K H0 H x d) (hg : slD d lo hi = some z) {Q : VK} (k : ∀ v H0' H', Gr ⟨H0, H, none⟩ H0' H' → Same H0' H' → Da K H0' v z → Q v H') : rSlAll K x lo hi H Q := by
  unfold slD at hg
  split at hg
  · cases hg
    obtain ⟨a, vs, rfl, h1, h2⟩ := hx
    exact .inl ⟨a, vs, rfl, SqL.of h1, al_lst s (h2.cut _ _) k⟩
  · cases hg
    cases hx with
    | tup h1 h2 =>
      refine .inr (.inl ⟨_, _, rfl, seqT_mono s h1, fun hw => ?_, fun _ => al_tup s (h2.cut _ _) k⟩)
      rw [h2.length] at hw
      rw [cut_whole _ _ _ hw] at k
      exact sc s (.tup h1 h2) k
  · cases hg
    cases hx with
    | scr h1 =>
      refine .inl ⟨_, _, rfl, seqL_mono s h1, al_lst s ?_ k⟩
      rw [← cutD_map]
      exact (daInts _).cut _ _
  · split at hg
    · rename_i hl
      cases hg
      cases hx
      exact .inr (.inr ⟨_, rfl, sizeM hl, sc s (.str _) k⟩)
    · cases hg
  · cases hg
theorem tSl_of {g : Gx} {F : Fm} {W : WX} {f : Rho → R Dt} {fl fh : Rho → R (Option Int)} {σ : L2.St} {H : Hp} {Q : VK} (h : tD g F W (sl3 f fl fh) σ H Q) : tSl (rSlAll g.K) (tD g F W f) (tDP g F W fl) (tDP g F W fh) σ H Q := by
  obtain ⟨H0, ρ, E, q⟩ := h
  refine ⟨H0, ρ, E, ?_⟩
  unfold sl3 at q
  cases e1 : f ρ with
  | ok d ρ1 =>
    rw [e1] at q
    dsimp only [R.bind] at q
    intro x B0 B E1 m1 d1
    refine ⟨B0, ρ1, E1, ?_⟩
    cases e2 : fl ρ1 with
    | ok lo ρ2 =>
      rw [e2] at q
      dsimp only [R.bind] at q
      intro C0 C E2 m2
      refine ⟨C0, ρ2, E2, ?_⟩
      cases e3 : fh ρ2 with
      | ok hi ρ3 =>
        rw [e3] at q
        dsimp only [R.bind] at q
        intro D0 D E3 m3
        cases e4 : slD d lo hi with
        | none =>
          rw [e4] at q
          exact q.elim
        | some z =>
          rw [e4] at q
          refine slD_ok E3.ex (Da.pk E3.ex ((d1.mono m2.b0).mono m3.b0)) e4 fun v I0 I gr s4 d4 => ?_
          obtain ⟨E4, m4⟩ := E3.post ((m1.trans m2).trans m3) gr s4
          exact q v I0 I E4 m4 d4
      | ex x ρ1 =>
        rw [e3] at q
        exact q
      | bad =>
        rw [e3] at q
        exact q
    | ex x ρ1 =>
      rw [e2] at q
      exact q
    | bad =>
      rw [e2] at q
      exact q
  | ex x ρ1 =>
    rw [e1] at q
    exact q
  | bad =>
    rw [e1] at q
    exact q
theorem de_sl {lo hi : Option Expr} {fl fh : Rho → R (Option Int)} (he : DE X W e f1) (hl : DP X W lo fl) (hh : DP X W hi fh) : DE X W (.Subscript e (.Slice lo hi none p2) pos) (sl3 f1 fl fh) := fun F => PE.wk (pe_slice slr_all (he F) (hl F) (hh F)) fun _ _ _ h => tSl_of h

/-! ### built-in functions of one thing -/
theorem tCB1_of {g : Gx} {F : Fm} {W : WX} {f : Rho → R Dt} {r : List V → Hp → VK → Prop} {gg : Dt → Option Dt} (hr : UnD g.K (fun x H Q => r [x] H Q) gg) {σ : L2.St} {H : Hp} {Q : VK} (h : tD g F W (un gg f) σ H Q) : tCB r (tCons (tK g F W f) tNil) σ H Q := tUn_un (r := fun x H Q => r [x] H Q) hr h
theorem de_b1 {x : Str} {id : String} {r : List V → Hp → VK → Prop} {gg : Dt → Option Dt} (hc : CallR X (.builtin id) r) (hr : UnD X.K (fun x H Q => r [x] H Q) gg) (hg : Gl X x) (hm : X.mg x = none) (hv : bootBuiltins x = some (.builtin id)) (ha : DK X W e f1)
    (hn : x ≠ "__name__" := by decide) (hdb : (x == ("__debug__" : Str)) = false := by decide) (he : starEach (e :: []) X.env = (false, eval e X.env) :: starEach [] X.env := by rfl) (hpl : (backTo pos (starEach [] X.env)).any (·.1) = false := by rfl) :
    DE X W (.Call (.Name x p) [e] [] pos) (un gg f1) := fun F => PE.wk (pe_callB hc hg hm hv (pa_cons (ha F) pa_nil he) hn hdb he hpl) fun _ _ _ h => tCB1_of hr h
theorem de_t1 {x : Str} {T : String} {r : List V → Hp → VK → Prop} {gg : Dt → Option Dt} (hc : CallR X (.type T) r) (hr : UnD X.K (fun x H Q => r [x] H Q) gg) (hg : Gl X x) (hm : X.mg x = none) (hv : bootBuiltins x = some (.type T)) (ha : DK X W e f1)
    (hn : x ≠ "__name__" := by decide) (hdb : (x == ("__debug__" : Str)) = false := by decide) (he : starEach (e :: []) X.env = (false, eval e X.env) :: starEach [] X.env := by rfl) (hpl : (backTo pos (starEach [] X.env)).any (·.1) = false := by rfl) :
    DE X W (.Call (.Name x p) [e] [] pos) (un gg f1) := fun F => PE.wk (pe_callTy hc hg hm hv (pa_cons (ha F) pa_nil he) hn hdb he hpl) fun _ _ _ h => tCB1_of hr h
def lenD : Dt → Option Dt
  | .lst xs => some (.int xs.length)
  | .tup xs => some (.int xs.length)
  | .scr xs => some (.int xs.length)
  | .str z => if z.length ≤ 1000000 then some (.int z.length) else none
  | .dct kvs => some (.int kvs.length)
  | _ => none
def rLenA (K : PySem.W.Frag) : List V → Hp → VK → Prop := fun xs H Q => (∃ p ys, xs = [.ref p] ∧ (SqL K H p ys ∨ SqT K H p ys) ∧ Q (.int ys.length) H) ∨ (∃ z, xs = [.str z] ∧ z.length ≤ sizeLine ∧ Q (.int z.length) H) ∨ ∃ p kvs, xs = [.ref p] ∧ H p = some (.dK kvs) ∧ Q (.int kvs.length) H
theorem callr_len : CallR X (.builtin "len") (rLenA X.K) := callr_or call_len_seq (callr_or call_len_str (by
  intro pins s σ H xs us Q I r h
  obtain ⟨a, kvs, rfl, hd, q⟩ := h
  cases r with
  | cons r1 r2 =>
    cases r2
    cases r1
    exact d_len I (.inl hd) fun t s' I' => ⟨.int _, H, I', ⟨_, rfl⟩, q⟩))
theorem und_len (K : PySem.W.Frag) : UnD K (fun x H Q => rLenA K [x] H Q) lenD := by
  intro x d z H0 H s hx hg Q k
  unfold lenD at hg
  split at hg
  · cases hg
    obtain ⟨a, vs, rfl, h1, h2⟩ := hx
    exact .inl ⟨a, vs, rfl, .inl (SqL.of h1), by rw [h2.length]; exact sc s (.int _) k⟩
  · cases hg
    cases hx with
    | tup h1 h2 => exact .inl ⟨_, _, rfl, .inr (seqT_mono s h1), by rw [h2.length]; exact sc s (.int _) k⟩
  · cases hg
    cases hx with
    | scr h1 => exact .inl ⟨_, _, rfl, .inl (seqL_mono s h1), by rw [List.length_map]; exact sc s (.int _) k⟩
  · split at hg
    · rename_i hl
      cases hg
      cases hx
      exact .inr (.inl ⟨_, rfl, sizeM hl, sc s (.int _) k⟩)
    · cases hg
  · cases hg
    obtain ⟨a, ks, rfl, h1, h2⟩ := hx
    exact .inr (.inr ⟨a, ks, rfl, h1, by rw [h2.length]; exact sc s (.int _) k⟩)
  · cases hg
theorem de_len (hg : Gl X "len") (hm : X.mg "len" = none) (ha : DK X W e f1) (he : starEach (e :: []) X.env = (false, eval e X.env) :: starEach [] X.env := by rfl) : DE X W (.Call (.Name "len" p) [e] [] pos) (un lenD f1) := de_b1 callr_len (und_len _) hg hm PySem.boot_len ha (he := he)
/-- the ints of a list -/
def intsOf : List Dt → Option (List Int)
  | [] => some []
  | .int i :: ds => (intsOf ds).map (i :: ·)
  | _ :: _ => none
theorem intsOf_eq : ∀ {ds : List Dt} {ns : List Int}, intsOf ds = some ns → ds = ns.map .int
  | [], _, h => by cases h; rfl
  | .int i :: ds, ns, h => by
    obtain ⟨ms, h1, rfl⟩ := Option.map_eq_some_iff.mp h
    rw [intsOf_eq h1]
    rfl
  | .non :: _, _, h => by cases h
  | .bl _ :: _, _, h => by cases h
  | .str _ :: _, _, h => by cases h
  | .lst _ :: _, _, h => by cases h
  | .tup _ :: _, _, h => by cases h
  | .dct _ :: _, _, h => by cases h
  | .scr _ :: _, _, h => by cases h
theorem intsOf_map : ∀ ns : List Int, intsOf (ns.map .int) = some ns
  | [] => rfl
  | n :: ns => by
    show (intsOf (ns.map .int)).map (n :: ·) = _
    rw [intsOf_map ns]
    rfl
def sumD : Dt → Option Dt
  | .lst ds => (intsOf ds).map fun ns => .int ns.sum
  | _ => none
theorem und_sum (K : PySem.W.Frag) : UnD K (fun x H Q => rSum K [x] H Q) sumD := by
  intro x d z H0 H s hx hg Q k
  unfold sumD at hg
  split at hg
  · obtain ⟨ns, h, rfl⟩ := Option.map_eq_some_iff.mp hg
    obtain ⟨a, vs, rfl, h1, h2⟩ := hx
    rw [intsOf_eq h] at h2
    rw [h2.ints] at h1
    exact ⟨a, ns, rfl, SqL.of h1, sc s (.int _) k⟩
  · cases hg
theorem de_sum (hc : X.calm = true) (hg : Gl X "sum") (hm : X.mg "sum" = none) (ha : DK X W e f1) (he : starEach (e :: []) X.env = (false, eval e X.env) :: starEach [] X.env := by rfl) : DE X W (.Call (.Name "sum" p) [e] [] pos) (un sumD f1) :=
  de_b1 (cr_sum hc) (und_sum _) hg hm (by decide +kernel) ha (he := he)
/-- the greatest, the least -/
def maxL : Int → List Int → Int
  | m, [] => m
  | m, n :: ns => maxL (if m < n then n else m) ns
def minL : Int → List Int → Int
  | m, [] => m
  | m, n :: ns => minL (if n < m then n else m) ns
theorem maxL_spec : ∀ (ns : List Int) (m : Int), (maxL m ns = m ∨ maxL m ns ∈ ns) ∧ m ≤ maxL m ns ∧ ∀ y ∈ ns, y ≤ maxL m ns
  | [], m => ⟨.inl rfl, Int.le_refl _, fun _ h => nomatch h⟩
  | n :: ns, m => by
    obtain ⟨h1, h2, h3⟩ := maxL_spec ns (if m < n then n else m)
    show (maxL (if m < n then n else m) ns = m ∨ maxL (if m < n then n else m) ns ∈ n :: ns) ∧ m ≤ maxL (if m < n then n else m) ns ∧ ∀ y ∈ n :: ns, y ≤ maxL (if m < n then n else m) ns
    refine ⟨?_, ?_, fun y hy => ?_⟩
    · rcases h1 with h | h
      · rw [h]
        split
        · exact .inr List.mem_cons_self
        · exact .inl rfl
      · exact .inr (List.mem_cons_of_mem _ h)
    · exact Int.le_trans (by split <;> omega) h2
    · rcases List.mem_cons.mp hy with rfl | hy
      · exact Int.le_trans (by split <;> omega) h2
      · exact h3 y hy
theorem minL_spec : ∀ (ns : List Int) (m : Int), (minL m ns = m ∨ minL m ns ∈ ns) ∧ minL m ns ≤ m ∧ ∀ y ∈ ns, minL m ns ≤ y
  | [], m => ⟨.inl rfl, Int.le_refl _, fun _ h => nomatch h⟩
  | n :: ns, m => by
    obtain ⟨h1, h2, h3⟩ := minL_spec ns (if n < m then n else m)
    show (minL (if n < m then n else m) ns = m ∨ minL (if n < m then n else m) ns ∈ n :: ns) ∧ minL (if n < m then n else m) ns ≤ m ∧ ∀ y ∈ n :: ns, minL (if n < m then n else m) ns ≤ y
    refine ⟨?_, ?_, fun y hy => ?_⟩
    · rcases h1 with h | h
      · rw [h]
        split
        · exact .inr List.mem_cons_self
        · exact .inl rfl
      · exact .inr (List.mem_cons_of_mem _ h)
    · exact Int.le_trans h2 (by split <;> omega)
    · rcases List.mem_cons.mp hy with rfl | hy
      · exact Int.le_trans h2 (by split <;> omega)
      · exact h3 y hy
def maxD : Dt → Option Dt
  | .lst ds => (intsOf ds).bind fun ns => match ns with
    | [] => none
    | n :: ns => some (.int (maxL n ns))
  | _ => none
def minD : Dt → Option Dt
  | .lst ds => (intsOf ds).bind fun ns => match ns with
    | [] => none
    | n :: ns => some (.int (minL n ns))
  | _ => none
theorem und_max (K : PySem.W.Frag) : UnD K (fun x H Q => rMax K [x] H Q) maxD := by
  intro x d z H0 H s hx hg Q k
  unfold maxD at hg
  split at hg
  · obtain ⟨ns, h, hg⟩ := Option.bind_eq_some_iff.mp hg
    obtain ⟨a, vs, rfl, h1, h2⟩ := hx
    rw [intsOf_eq h] at h2
    rw [h2.ints] at h1
    cases ns with
    | nil => cases hg
    | cons n ns =>
      cases hg
      refine ⟨a, n :: ns, rfl, SqL.of h1, Nat.succ_pos _, fun m hm hl => ?_⟩
      obtain ⟨q1, q2, q3⟩ := maxL_spec ns n
      have e : m = maxL n ns := by
        have l1 : m ≤ maxL n ns := by
          rcases List.mem_cons.mp hm with rfl | hm
          · exact q2
          · exact q3 m hm
        have l2 : maxL n ns ≤ m := hl _ (by
          rcases q1 with q | q
          · rw [q]; exact List.mem_cons_self
          · exact List.mem_cons_of_mem _ q)
        omega
      rw [e]
      exact sc s (.int _) k
  · cases hg
theorem und_min (K : PySem.W.Frag) : UnD K (fun x H Q => rMin K [x] H Q) minD := by
  intro x d z H0 H s hx hg Q k
  unfold minD at hg
  split at hg
  · obtain ⟨ns, h, hg⟩ := Option.bind_eq_some_iff.mp hg
    obtain ⟨a, vs, rfl, h1, h2⟩ := hx
    rw [intsOf_eq h] at h2
    rw [h2.ints] at h1
    cases ns with
    | nil => cases hg
    | cons n ns =>
      cases hg
      refine ⟨a, n :: ns, rfl, SqL.of h1, Nat.succ_pos _, fun m hm hl => ?_⟩
      obtain ⟨q1, q2, q3⟩ := minL_spec ns n
      have e : m = minL n ns := by
        have l1 : minL n ns ≤ m := by
          rcases List.mem_cons.mp hm with rfl | hm
          · exact q2
          · exact q3 m hm
        have l2 : m ≤ minL n ns := hl _ (by
          rcases q1 with q | q
          · rw [q]; exact List.mem_cons_self
          · exact List.mem_cons_of_mem _ q)
        omega
      rw [e]
      exact sc s (.int _) k
  · cases hg
theorem de_max (hc : X.calm = true) (hg : Gl X "max") (hm : X.mg "max" = none) (ha : DK X W e f1) (he : starEach (e :: []) X.env = (false, eval e X.env) :: starEach [] X.env := by rfl) : DE X W (.Call (.Name "max" p) [e] [] pos) (un maxD f1) :=
  de_b1 (cr_max hc) (und_max _) hg hm (by decide +kernel) ha (he := he)
theorem de_min (hc : X.calm = true) (hg : Gl X "min") (hm : X.mg "min" = none) (ha : DK X W e f1) (he : starEach (e :: []) X.env = (false, eval e X.env) :: starEach [] X.env := by rfl) : DE X W (.Call (.Name "min" p) [e] [] pos) (un minD f1) :=
  de_b1 (cr_min hc) (und_min _) hg hm (by decide +kernel) ha (he := he)
def blsOf : List Dt → Option (List Bool)
  | [] => some []
  | .bl i :: ds => (blsOf ds).map (i :: ·)
  | _ :: _ => none
theorem blsOf_eq : ∀ {ds : List Dt} {ns : List Bool}, blsOf ds = some ns → ds = ns.map .bl
  | [], _, h => by cases h; rfl
  | .bl i :: ds, ns, h => by
    obtain ⟨ms, h1, rfl⟩ := Option.map_eq_some_iff.mp h
    rw [blsOf_eq h1]
    rfl
  | .non :: _, _, h => by cases h
  | .int _ :: _, _, h => by cases h
  | .str _ :: _, _, h => by cases h
  | .lst _ :: _, _, h => by cases h
  | .tup _ :: _, _, h => by cases h
  | .dct _ :: _, _, h => by cases h
  | .scr _ :: _, _, h => by cases h
theorem blsOf_map : ∀ ns : List Bool, blsOf (ns.map .bl) = some ns
  | [] => rfl
  | n :: ns => by
    show (blsOf (ns.map .bl)).map (n :: ·) = _
    rw [blsOf_map ns]
    rfl
def allD : Dt → Option Dt
  | .lst ds => (blsOf ds).map fun bs => .bl (bs.all id)
  | _ => none
theorem und_all (K : PySem.W.Frag) : UnD K (fun x H Q => rAll K [x] H Q) allD := by
  intro x d z H0 H s hx hg Q k
  unfold allD at hg
  split at hg
  · obtain ⟨ns, h, rfl⟩ := Option.map_eq_some_iff.mp hg
    obtain ⟨a, vs, rfl, h1, h2⟩ := hx
    rw [blsOf_eq h] at h2
    rw [h2.bls] at h1
    exact ⟨a, ns, rfl, SqL.of h1, sc s (.bl _) k⟩
  · cases hg
theorem de_all (hc : X.calm = true) (hg : Gl X "all") (hm : X.mg "all" = none) (ha : DK X W e f1) (he : starEach (e :: []) X.env = (false, eval e X.env) :: starEach [] X.env := by rfl) : DE X W (.Call (.Name "all" p) [e] [] pos) (un allD f1) :=
  de_b1 (cr_all hc) (und_all _) hg hm (by decide +kernel) ha (he := he)
/-! ### tuple(x), list(x), int(x) -/
def tupleD : Dt → Option Dt
  | .lst ds => some (.tup ds)
  | .tup ds => some (.tup ds)
  | .scr ns => some (.tup (ns.map .int))
  | _ => none
theorem und_tuple : UnD X.K (fun x H Q => ∃ p ys, [x] = [V.ref p] ∧ ((SqL X.K H p ys ∧ ∀ l, H l = none → Q (.ref l) (upd H l (.tup ys))) ∨ (SqT X.K H p ys ∧ Q (.ref p) H))) tupleD := by
  intro x d z H0 H s hx hg Q k
  unfold tupleD at hg
  split at hg
  · cases hg
    obtain ⟨a, vs, rfl, h1, h2⟩ := hx
    exact ⟨a, vs, rfl, .inl ⟨SqL.of h1, al_tup s h2 k⟩⟩
  · cases hg
    cases hx with
    | tup h1 h2 => exact ⟨_, _, rfl, .inr ⟨seqT_mono s h1, sc s (.tup h1 h2) k⟩⟩
  · cases hg
    cases hx with
    | scr h1 => exact ⟨_, _, rfl, .inl ⟨seqL_mono s h1, al_tup s (daInts _) k⟩⟩
  · cases hg
theorem de_tuple (hg : Gl X "tuple") (hm : X.mg "tuple" = none) (ha : DK X W e f1) (he : starEach (e :: []) X.env = (false, eval e X.env) :: starEach [] X.env := by rfl) : DE X W (.Call (.Name "tuple" p) [e] [] pos) (un tupleD f1) :=
  de_t1 call_tuple_of und_tuple hg hm (by decide +kernel) ha (he := he)
def listD : Dt → Option Dt
  | .lst ds => some (.lst ds)
  | .tup ds => some (.lst ds)
  | .scr ns => some (.lst (ns.map .int))
  | _ => none
theorem und_list : UnD X.K (fun x H Q => ∃ p ys, [x] = [V.ref p] ∧ (SqL X.K H p ys ∨ SqT X.K H p ys) ∧ ∀ l, H l = none → Q (.ref l) (upd H l (.lst ys))) listD := by
  intro x d z H0 H s hx hg Q k
  unfold listD at hg
  split at hg
  · cases hg
    obtain ⟨a, vs, rfl, h1, h2⟩ := hx
    exact ⟨a, vs, rfl, .inl (SqL.of h1), al_lst s h2 k⟩
  · cases hg
    cases hx with
    | tup h1 h2 => exact ⟨_, _, rfl, .inr (seqT_mono s h1), al_lst s h2 k⟩
  · cases hg
    cases hx with
    | scr h1 => exact ⟨_, _, rfl, .inl (seqL_mono s h1), al_lst s (daInts _) k⟩
  · cases hg
theorem de_list (hg : Gl X "list") (hm : X.mg "list" = none) (ha : DK X W e f1) (he : starEach (e :: []) X.env = (false, eval e X.env) :: starEach [] X.env := by rfl) : DE X W (.Call (.Name "list" p) [e] [] pos) (un listD f1) :=
  de_t1 call_list_of und_list hg hm (by decide +kernel) ha (he := he)
def intD : Dt → Option Dt
  | .int i => some (.int i)
  | .bl b => some (.int (if b then 1 else 0))
  | _ => none
theorem und_int (K : PySem.W.Frag) : UnD K (fun x H Q => (∃ i, [x] = [V.int i] ∧ Q (.int i) H) ∨ ∃ k, [x] = [V.bl k] ∧ Q (.int (if k then 1 else 0)) H) intD := by
  intro x d z H0 H s hx hg Q k
  unfold intD at hg
  split at hg
  · cases hg
    cases hx
    exact .inl ⟨_, rfl, sc s (.int _) k⟩
  · cases hg
    cases hx
    exact .inr ⟨_, rfl, sc s (.int _) k⟩
  · cases hg
theorem de_toint (hg : Gl X "int") (hm : X.mg "int" = none) (ha : DK X W e f1) (he : starEach (e :: []) X.env = (false, eval e X.env) :: starEach [] X.env := by rfl) : DE X W (.Call (.Name "int" p) [e] [] pos) (un intD f1) :=
  de_t1 call_int1 (und_int _) hg hm (by decide +kernel) ha (he := he)
end
end DW

set_option Elab.async false
set_option linter.all false
set_option maxRecDepth 100000
set_option maxHeartbeats 4000000
/-! DW7: isinstance, calls of defs, statements, a def's promise -/
namespace DW
open PySem PySem.Spec PyProof.Rows L2

/-! ### isinstance -/
inductive Ty where
  | int | bool | tuple | str | list | dict | none
  deriving DecidableEq
def Ty.nm : Ty → String
  | .int => "int" | .bool => "bool" | .tuple => "tuple" | .str => "str" | .list => "list" | .dict => "dict" | .none => "NoneType"
def tyD : Dt → Ty
  | .non => .none
  | .bl _ => .bool
  | .int _ => .int
  | .str _ => .str
  | .lst _ => .list
  | .tup _ => .tuple
  | .dct _ => .dict
  | .scr _ => .list
  | .xo _ _ _ => .none
def isiT : Ty → Ty → Bool
  | .int, .int => true | .int, .bool => true | .bool, .bool => true | .tuple, .tuple => true | .str, .str => true | .list, .list => true | .dict, .dict => true | .none, .none => true
  | _, _ => false
theorem kit_T (T t : Ty) (h : T ≠ .none) : kitB t.nm T.nm = some (isiT T t) := by
  cases T <;> cases t <;> first | exact absurd rfl h | decide +kernel
def isiD (T : Ty) (d : Dt) : Option Dt := match d with
  | .xo _ _ _ => none
  | d => some (.bl (isiT T (tyD d)))
theorem isiD_some {T : Ty} {d z : Dt} (h : isiD T d = some z) : z = .bl (isiT T (tyD d)) ∧ ∀ c f v, d ≠ .xo c f v := by
  cases d with
  | xo _ _ _ => cases h
  | _ => cases h; exact ⟨rfl, fun _ _ _ z => nomatch z⟩
theorem tyX_of {K : PySem.W.Frag} {H0 H : Hp} {v : V} {d : Dt} (s : Same H0 H) (h : Pk K H0 H v d) (hx : ∀ c f v, d ≠ .xo c f v) : TyX K H v (.type (tyD d).nm) := by
  cases d with
  | xo c f v => exact absurd rfl (hx c f v)
  | non => cases h; exact .base .non
  | bl b => cases h; exact .base (.bl b)
  | int b => cases h; exact .base (.int b)
  | str b => cases h; exact .base (.str b)
  | lst ds =>
    obtain ⟨a, vs, rfl, h1, _⟩ := h
    exact .base (.lst h1)
  | dct ds =>
    obtain ⟨a, vs, rfl, h1, _⟩ := h
    exact .base (.dK h1)
  | tup ds =>
    cases h with
    | tup h1 h2 =>
      rcases seqT_mono s h1 with (h | ⟨o, h⟩) | ⟨o, its, n, h, c, _⟩
      · exact .base (.tup h)
      · exact .fTuple h
      · exact .kTuple h c
  | scr ds =>
    cases h with
    | scr h1 =>
      rcases seqL_mono s h1 with (h | ⟨o, h⟩) | ⟨o, its, n, h, c, _⟩
      · exact .base (.lst h)
      · exact .base (.frz h)
      · exact .kList h c
section
variable {X : Cx} {W : WX} {a b c e : Expr} {es : List Expr} {pos p p2 : Pos} {f1 f2 f3 : Rho → R Dt}
theorem de_isi (T : Ty) {x : Str} (hT : T ≠ .none) (hg : Gl X "isinstance") (hm : X.mg "isinstance" = none) (hgT : Gl X x) (hmT : X.mg x = none) (hvT : bootBuiltins x = some (.type T.nm)) (ha : DK X W e f1) (hnx : x ≠ "__name__" := by decide) (hdx : (x == ("__debug__" : Str)) = false := by decide)
    (he : starEach (e :: [.Name x p2]) X.env = (false, eval e X.env) :: starEach [.Name x p2] X.env := by rfl) (hpl : (backTo pos (starEach [.Name x p2] X.env)).any (·.1) = false := by rfl) (he2 : starEach (.Name x p2 :: []) X.env = (false, eval (.Name x p2) X.env) :: starEach [] X.env := by rfl) :
    DE X W (.Call (.Name "isinstance" p) [e, .Name x p2] [] pos) (un (isiD T) f1) := fun F =>
  PE.wk (pe_callB call_isi hg hm (by decide +kernel) (pa_cons (ha F) (pa_cons (pe_bltn (v := .ty T.nm) hgT hmT hvT rfl hnx hdx) pa_nil he2) he) (he := he) (hpl := hpl)) fun σ H Q h =>
    tUn_un (r := fun x H Q => rIsi X.K [x, .ty T.nm] H Q) (fun x d z H0 H s hx hg Q k => by
      obtain ⟨rfl, hn⟩ := isiD_some hg
      exact ⟨x, .ty T.nm, _, _, _, rfl, .ty _, tyX_of s hx hn, kit_ty (kit_T T (tyD d) hT), sc s (.bl _) k⟩) h

/-! ### a def's promise -/
inductive FR where
  | ok (s : Sl) | ex (e : Xc) | bad
abbrev Fn := List Dt → FR
def envOf (n : Nat) (ds : List Dt) : Rho := ds.map (fun d => some (.fr d)) ++ List.replicate (n - ds.length) none
def runF (np nn : Nat) (body : Rho → SR) : Fn := fun ds => if ds.length = np then match body (envOf nn ds) with
  | .rt s _ => .ok s
  | .nx _ => .ok (.fr .non)
  | .ex e _ => .ex e
  | _ => .bad
  else .bad
def spF (g : Gx) (fn : Fn) : Sp := fun vs H Q _ => ∃ H0 ds, Same H0 H ∧ TbOk g.K H0 H ∧ DaAll g.K H0 vs ds ∧ match fn ds with
  | .ok s => ∀ v H0' H', Gw ⟨H0, H, none⟩ H0' H' → TbOk g.K H0' H' → Same H0' H' → SlR g.K ⟨H0, H, none⟩ H0' H' v s → Q v H'
  | _ => False
abbrev WF : WX := fun _ _ _ _ => False
/-- a def with a dict handed in that it may change -/
inductive FM where
  | ok (s : Sl) (kvs : List (Key × Dt)) | ex (e : Xc) | bad
abbrev FnM := List (Key × Dt) → List Dt → FM
def envM (n : Nat) (kvs : List (Key × Dt)) (ds : List Dt) : Rho := some (.io kvs) :: (ds.map (fun d => some (.fr d)) ++ List.replicate (n - (ds.length + 1)) none)
def ioOf (ρ : Rho) : Option (List (Key × Dt)) := match ρ with
  | some (.io kvs) :: _ => some kvs
  | _ => none
def runM (np nn : Nat) (body : Rho → SR) : FnM := fun kvs ds => if ds.length + 1 = np then match body (envM nn kvs ds) with
  | .rt s ρ => match ioOf ρ with
    | some kvs' => .ok s kvs'
    | none => .bad
  | .nx ρ => match ioOf ρ with
    | some kvs' => .ok (.fr .non) kvs'
    | none => .bad
  | .ex e _ => .ex e
  | _ => .bad
  else .bad
def spM (g : Gx) (fn : FnM) : Sp := fun vs H Q _ => ∃ H0 a ks kvs vs' ds, vs = .ref a :: vs' ∧ Same H0 H ∧ TbOk g.K H0 H ∧ H0 a = none ∧ H a = some (.dK ks) ∧ DaKv g.K H0 ks kvs ∧ DaAll g.K H0 vs' ds ∧ match fn kvs ds with
  | .ok s kvs' => ∀ v ks' H0' H', Gw ⟨H0, H, some a⟩ H0' H' → TbOk g.K H0' H' → Same H0' H' → H' a = some (.dK ks') → DaKv g.K H0' ks' kvs' → SlR g.K ⟨H0, H, some a⟩ H0' H' v s → Q v H'
  | _ => False

theorem envOf_get {n : Nat} {ds : List Dt} {i : Nat} {s : Sl} (h : (envOf n ds)[i]? = some (some s)) : ∃ d, s = .fr d ∧ ds[i]? = some d := by
  unfold envOf at h
  by_cases hi : i < ds.length
  · rw [List.getElem?_append_left (by simpa using hi), List.getElem?_map] at h
    cases e : ds[i]? with
    | none => rw [e] at h; cases h
    | some d =>
      rw [e] at h
      cases h
      exact ⟨d, rfl, rfl⟩
  · rw [List.getElem?_append_right (by simpa using Nat.le_of_not_lt hi)] at h
    obtain ⟨h1, h2⟩ := List.getElem?_eq_some_iff.mp h
    rw [List.getElem_replicate] at h2
    cases h2
theorem start_get {N : List Str} {vs : List V} {i : Nat} {v : V} (h : vs[i]? = some v) : (L2.start N vs)[i]? = some (some v) := by
  unfold L2.start
  have hi := lt_of_get h
  rw [List.getElem?_append_left (by simpa using hi), List.getElem?_map, h]
  rfl
theorem en_start {K : PySem.W.Frag} {H0 H : Hp} {N : List Str} {vs : List V} {ds : List Dt} (s : Same H0 H) (t : TbOk K H0 H) (h : DaAll K H0 vs ds) (hl : ds.length ≤ N.length) : En K ⟨H0, H, none⟩ H0 H (L2.start N vs) (envOf N.length ds) where
  gr := Gw.refl H0 H none
  tb := t
  ex := s
  len := by
    unfold L2.start envOf
    simp only [List.length_append, List.length_map, List.length_replicate, h.length]
  sl := fun i s hs => by
    obtain ⟨d, rfl, hd⟩ := envOf_get hs
    obtain ⟨v, h1, h2⟩ := h.get hd
    exact ⟨v, start_get h1, h2⟩
  sep := fun i j s t a _ h1 _ o1 _ _ => by
    obtain ⟨d, rfl, _⟩ := envOf_get h1
    cases o1
  io := fun a z => nomatch z
  io1 := fun i kvs h => by
    obtain ⟨d, z, _⟩ := envOf_get h
    cases z
theorem envM_get {n : Nat} {kvs : List (Key × Dt)} {ds : List Dt} {i : Nat} {s : Sl} (h : (envM n kvs ds)[i]? = some (some s)) : (i = 0 ∧ s = .io kvs) ∨ ∃ j d, i = j + 1 ∧ s = .fr d ∧ ds[j]? = some d := by
  cases i with
  | zero =>
    simp [envM] at h
    exact .inl ⟨rfl, h.symm⟩
  | succ j =>
    refine .inr ⟨j, ?_⟩
    have h' : (ds.map (fun d => some (Sl.fr d)) ++ List.replicate (n - (ds.length + 1)) none)[j]? = some (some s) := by simpa [envM] using h
    by_cases hi : j < ds.length
    · rw [List.getElem?_append_left (by simpa using hi), List.getElem?_map] at h'
      cases e : ds[j]? with
      | none => rw [e] at h'; cases h'
      | some d =>
        rw [e] at h'
        cases h'
        exact ⟨d, rfl, rfl, rfl⟩
    · rw [List.getElem?_append_right (by simpa using Nat.le_of_not_lt hi)] at h'
      obtain ⟨h1, h2⟩ := List.getElem?_eq_some_iff.mp h'
      rw [List.getElem_replicate] at h2
      cases h2
theorem en_startM {K : PySem.W.Frag} {H0 H : Hp} {N : List Str} {a : Addr} {ks : List (Key × V)} {kvs : List (Key × Dt)} {vs : List V} {ds : List Dt} (s : Same H0 H) (t : TbOk K H0 H) (h0 : H0 a = none) (ha : H a = some (.dK ks)) (hk : DaKv K H0 ks kvs) (h : DaAll K H0 vs ds) (hl : ds.length + 1 ≤ N.length) :
    En K ⟨H0, H, some a⟩ H0 H (L2.start N (.ref a :: vs)) (envM N.length kvs ds) where
  gr := Gw.refl H0 H (some a)
  tb := t
  ex := s
  len := by
    unfold L2.start envM
    simp only [List.length_append, List.length_map, List.length_replicate, List.length_cons, h.length]
    omega
  sl := fun i s hs => by
    rcases envM_get hs with ⟨rfl, rfl⟩ | ⟨j, d, rfl, rfl, hd⟩
    · exact ⟨.ref a, start_get rfl, a, ks, rfl, h0, rfl, ha, hk⟩
    · obtain ⟨v, h1, h2⟩ := h.get hd
      exact ⟨v, start_get (by simpa using h1), h2⟩
  sep := fun i j s t b hij h1 _ o1 _ _ => by
    rcases envM_get h1 with ⟨_, rfl⟩ | ⟨_, d, _, rfl, _⟩ <;> cases o1
  io := fun b z => by
    cases z
    refine ⟨start_get rfl, ⟨kvs, rfl⟩, ?_⟩
    show H a ≠ none
    rw [ha]
    exact fun z => nomatch z
  io1 := fun i kvs' h => by
    rcases envM_get h with ⟨rfl, _⟩ | ⟨j, d, _, z, _⟩
    · rfl
    · cases z
end
section
variable {P : Program} {w : World} {K : PySem.W.Frag} {mg : Str → Option Value} {base : Heap}
/-- THE RULE for a def that raises nothing -/
theorem fn0 {x qual : Str} {st : Stmt} {f : Addr} {fd : FuncData} {N ps : List Str} {k : Nat} {body : Rho → SR} (F : Fun K x qual st f fd) (S : FnScope N ps (defScope st)) (hN : ps.length ≤ N.length)
    (hb : ∀ (cdv : Value) (A : Around) (outer : List Env) (s : Shared) (H : Hp) (E : XK), Room k (A.deeper (envOfC qual (defScope st) s.heap.objs.size f cdv)) → DSs (cxOf CX0 P w K mg base N qual (defScope st) f cdv A outer s H E).nox WF (defBody st) body) :
    FnOk P w K mg base CX0 (k + 1) f fd ps (spF ⟨K, mg⟩ (runF ps.length N.length body)) := by
  have lem : ∀ ds : List Dt, (∃ s, runF ps.length N.length body ds = .ok s) → ds.length = ps.length := fun ds ⟨s, h⟩ => by
    unfold runF at h
    split at h
    · assumption
    · cases h
  refine F.ok S (fun vs H Q E h => ?_) (fun cdv A outer s H vs Q E hr h => ?_)
  · obtain ⟨H0, ds, h1, tb, h2, h3⟩ := h
    cases e : runF ps.length N.length body ds with
    | ok s => rw [h2.length]; exact lem ds ⟨s, e⟩
    | ex _ => rw [e] at h3; exact h3.elim
    | bad => rw [e] at h3; exact h3.elim
  · obtain ⟨H0, ds, h1, tb, h2, h3⟩ := h
    have hl : ds.length = ps.length := by
      cases e : runF ps.length N.length body ds with
      | ok s => exact lem ds ⟨s, e⟩
      | ex _ => rw [e] at h3; exact h3.elim
      | bad => rw [e] at h3; exact h3.elim
    refine ⟨_, hb cdv A outer s H E hr ⟨H0, H, none⟩, H0, envOf N.length ds, en_start h1 tb h2 (by omega), ?_⟩
    unfold runF at h3
    rw [if_pos hl] at h3
    cases e : body (envOf N.length ds) with
    | nx ρ' =>
      rw [e] at h3
      exact fun σ' H0' H' E' _ => h3 _ H0' H' E'.gr E'.tb E'.ex (Da.non : Da K H0' .non .non)
    | rt s ρ' =>
      rw [e] at h3
      exact fun v σ' H0' H' E' hs => h3 _ H0' H' E'.gr E'.tb E'.ex hs
    | bk _ => rw [e] at h3; exact h3.elim
    | ct _ => rw [e] at h3; exact h3.elim
    | ex _ _ => rw [e] at h3; exact h3.elim
    | bad => rw [e] at h3; exact h3.elim
theorem fnM {x qual : Str} {st : Stmt} {f : Addr} {fd : FuncData} {N ps : List Str} {k : Nat} {body : Rho → SR} (F : Fun K x qual st f fd) (S : FnScope N ps (defScope st)) (hN : ps.length ≤ N.length)
    (hb : ∀ (cdv : Value) (A : Around) (outer : List Env) (s : Shared) (H : Hp) (E : XK), Room k (A.deeper (envOfC qual (defScope st) s.heap.objs.size f cdv)) → DSs (cxOf CX0 P w K mg base N qual (defScope st) f cdv A outer s H E).nox WF (defBody st) body) :
    FnOk P w K mg base CX0 (k + 1) f fd ps (spM ⟨K, mg⟩ (runM ps.length N.length body)) := by
  have lem : ∀ kvs (ds : List Dt), (∃ s kvs', runM ps.length N.length body kvs ds = .ok s kvs') → ds.length + 1 = ps.length := fun kvs ds ⟨s, kvs', h⟩ => by
    unfold runM at h
    split at h
    · assumption
    · cases h
  have lem2 : ∀ {Q : VK} {E : XK} {vs : List V} {H : Hp}, spM ⟨K, mg⟩ (runM ps.length N.length body) vs H Q E → vs.length = ps.length := fun {Q E vs H} h => by
    obtain ⟨H0, a, ks, kvs, vs', ds, rfl, h1, tb, h2, h3, h4, h5, h6⟩ := h
    cases e : runM ps.length N.length body kvs ds with
    | ok s kvs' => rw [List.length_cons, h5.length]; exact lem kvs ds ⟨s, kvs', e⟩
    | ex _ => rw [e] at h6; exact h6.elim
    | bad => rw [e] at h6; exact h6.elim
  refine F.ok S (fun vs H Q E h => lem2 h) (fun cdv A outer s H vs Q E hr h => ?_)
  have hvl := lem2 h
  obtain ⟨H0, a, ks, kvs, vs', ds, rfl, h1, tb, h2, h3, h4, h5, h6⟩ := h
  have hl : ds.length + 1 = ps.length := by rw [List.length_cons, h5.length] at hvl; exact hvl
  refine ⟨_, hb cdv A outer s H E hr ⟨H0, H, some a⟩, H0, envM N.length kvs ds, en_startM h1 tb h2 h3 h4 h5 (by omega), ?_⟩
  unfold runM at h6
  rw [if_pos hl] at h6
  have atIo : ∀ {σ' : L2.St} {ρ' : Rho} {H0' H' : Hp} {kvs' : List (Key × Dt)}, En K ⟨H0, H, some a⟩ H0' H' σ' ρ' → ioOf ρ' = some kvs' → ∃ ks', H' a = some (.dK ks') ∧ DaKv K H0' ks' kvs' := fun {σ' ρ' H0' H' kvs'} E' hio => by
    obtain ⟨y1, ⟨kv, y2⟩, _⟩ := E'.io a rfl
    obtain ⟨v, z1, b, ks2, rfl, z2, z3, z4, z5⟩ := E'.sl 0 _ y2
    rw [y1] at z1
    cases z1
    refine ⟨ks2, z4, ?_⟩
    cases ρ' with
    | nil => cases y2
    | cons x r =>
      have hx : x = some (.io kv) := by simpa using y2
      subst hx
      have : kv = kvs' := by simpa [ioOf] using hio
      subst this
      exact z5
  cases e : body (envM N.length kvs ds) with
  | nx ρ' =>
    rw [e] at h6
    intro σ' H0' H' E' _
    cases e2 : ioOf ρ' with
    | none => dsimp only at h6; rw [e2] at h6; exact h6.elim
    | some kvs' =>
      dsimp only at h6
      rw [e2] at h6
      obtain ⟨ks', q1, q2⟩ := atIo E' e2
      exact h6 _ ks' H0' H' E'.gr E'.tb E'.ex q1 q2 (Da.non : Da K H0' .non .non)
  | rt s ρ' =>
    rw [e] at h6
    intro v σ' H0' H' E' hs
    cases e2 : ioOf ρ' with
    | none => dsimp only at h6; rw [e2] at h6; exact h6.elim
    | some kvs' =>
      dsimp only at h6
      rw [e2] at h6
      obtain ⟨ks', q1, q2⟩ := atIo E' e2
      exact h6 _ ks' H0' H' E'.gr E'.tb E'.ex q1 q2 hs
  | bk _ => rw [e] at h6; exact h6.elim
  | ct _ => rw [e] at h6; exact h6.elim
  | ex _ _ => rw [e] at h6; exact h6.elim
  | bad => rw [e] at h6; exact h6.elim
end

/-! ### calls of defs -/
def callF (fn : Fn) (fa : Rho → R (List Dt)) : Rho → R Dt := fun ρ => (fa ρ).bind fun ds ρ1 => match fn ds with
  | .ok (.fr d) => .ok d ρ1
  | _ => .bad
def callO (fn : Fn) (fa : Rho → R (List Dt)) : Rho → R Sl := fun ρ => (fa ρ).bind fun ds ρ1 => match fn ds with
  | .ok s => .ok s ρ1
  | _ => .bad
/-- the dict in a slot, what stands there when it has become another -/
def dAt (i : Nat) (ρ : Rho) : Option (List (Key × Dt)) := match (ρ[i]? : Option (Option Sl)) with
  | some (some (.od kvs)) => some kvs
  | some (some (.io kvs)) => some kvs
  | _ => none
def dPut (i : Nat) (kvs' : List (Key × Dt)) (ρ : Rho) : Rho := match (ρ[i]? : Option (Option Sl)) with
  | some (some (.od _)) => ρ.set i (some (.od kvs'))
  | some (some (.io _)) => ρ.set i (some (.io kvs'))
  | _ => ρ
def callM (fn : FnM) (i : Nat) (fa : Rho → R (List Dt)) : Rho → R Dt := fun ρ => match dAt i ρ with
  | none => .bad
  | some _ => (fa ρ).bind fun ds ρ1 => match dAt i ρ1 with
    | none => .bad
    | some kvs => match fn kvs ds with
      | .ok (.fr d) kvs' => .ok d (dPut i kvs' ρ1)
      | _ => .bad
section
variable {g : Gx} {F : Fm} {W : WX} {σ : L2.St} {H : Hp} {Q : VK}
theorem tCall_of {fn : Fn} {fa : Rho → R (List Dt)} {E : XK} (h : tD g F W (callF fn fa) σ H Q) : tCall (spF g fn) [] E (tDA g F W fa) σ H Q := by
  obtain ⟨H0, ρ, E, q⟩ := h
  refine ⟨H0, ρ, E, ?_⟩
  unfold callF at q
  cases e : fa ρ with
  | ok ds ρ1 =>
    rw [e] at q
    dsimp only [R.bind] at q
    intro vs H0' H' E' m hd
    rw [List.append_nil]
    refine ⟨H0', ds, E'.ex, E'.tb, hd, ?_⟩
    cases e2 : fn ds with
    | ok s =>
      rw [e2] at q
      cases s with
      | fr d =>
        intro v C0 C gr tt s2 hv
        obtain ⟨E3, m3⟩ := E'.postW m gr tt s2
        exact q v C0 C E3 m3 hv
      | _ => exact q.elim
    | ex _ => rw [e2] at q; exact q.elim
    | bad => rw [e2] at q; exact q.elim
  | ex x ρ1 =>
    rw [e] at q
    exact q
  | bad =>
    rw [e] at q
    exact q
theorem tCallO_of {fn : Fn} {fa : Rho → R (List Dt)} {E : XK} (h : tO g F W (callO fn fa) σ H Q) : tCall (spF g fn) [] E (tDA g F W fa) σ H Q := by
  obtain ⟨H0, ρ, E, q⟩ := h
  refine ⟨H0, ρ, E, ?_⟩
  unfold callO at q
  cases e : fa ρ with
  | ok ds ρ1 =>
    rw [e] at q
    dsimp only [R.bind] at q
    intro vs H0' H' E' m hd
    rw [List.append_nil]
    refine ⟨H0', ds, E'.ex, E'.tb, hd, ?_⟩
    cases e2 : fn ds with
    | ok s =>
      rw [e2] at q
      intro v C0 C gr tt s2 hv
      obtain ⟨E3, m3⟩ := E'.postW m gr tt s2
      have up : ∀ a, H' a = none → F.H a = none := fun a ha => by
        cases z : F.H a with
        | none => rfl
        | some o => exact absurd ha (E'.still (by rw [z]; exact fun z => nomatch z))
      cases s with
      | fr d => exact q v C0 C E3 m3 hv (fun z => nomatch z)
      | ol ds =>
        obtain ⟨a, us, rfl, q1, q2, q3, q4⟩ := hv
        exact q _ C0 C E3 m3 ⟨a, us, rfl, q1, up a q2, q3, q4⟩ (fun _ b z => by cases z; exact m.fresh q2)
      | od ds =>
        obtain ⟨a, us, rfl, q1, q2, q3, q4⟩ := hv
        exact q _ C0 C E3 m3 ⟨a, us, rfl, q1, up a q2, q3, q4⟩ (fun _ b z => by cases z; exact m.fresh q2)
      | io ds =>
        obtain ⟨a, us, rfl, q1, q2, q3, q4⟩ := hv
        cases q2
    | ex _ => rw [e2] at q; exact q.elim
    | bad => rw [e2] at q; exact q.elim
  | ex x ρ1 =>
    rw [e] at q
    exact q
  | bad =>
    rw [e] at q
    exact q
theorem dAt_put {K : PySem.W.Frag} {H0 H : Hp} {ρ : Rho} {i : Nat} {kvs : List (Key × Dt)} (E : En K F H0 H σ ρ) (h : dAt i ρ = some kvs) : ∃ a ks, σ[i]? = some (some (.ref a)) ∧ H0 a = none ∧ H a = some (.dK ks) ∧ DaKv K H0 ks kvs ∧ OwnAt σ ρ a ∧
    ∀ (ks' : List (Key × V)) (kvs' : List (Key × Dt)) H0' H', Gw ⟨H0, H, some a⟩ H0' H' → TbOk K H0' H' → Same H0' H' → H' a = some (.dK ks') → DaKv K H0' ks' kvs' → En K F H0' H' σ (dPut i kvs' ρ) ∧ Mv σ ρ (dPut i kvs' ρ) H0 H H0' H' := by
  have main : ∀ (s s' : List (Key × Dt) → Sl), (s = .od ∧ s' = .od) ∨ (s = .io ∧ s' = .io) → ρ[i]? = some (some (s kvs)) → (∀ kvs', dPut i kvs' ρ = ρ.set i (some (s' kvs'))) → (∃ a ks, σ[i]? = some (some (.ref a)) ∧ H0 a = none ∧ H a = some (.dK ks) ∧ DaKv K H0 ks kvs ∧ OwnAt σ ρ a ∧
      ∀ (ks' : List (Key × V)) (kvs' : List (Key × Dt)) H0' H', Gw ⟨H0, H, some a⟩ H0' H' → TbOk K H0' H' → Same H0' H' → H' a = some (.dK ks') → DaKv K H0' ks' kvs' → En K F H0' H' σ (dPut i kvs' ρ) ∧ Mv σ ρ (dPut i kvs' ρ) H0 H H0' H') := fun s s' hs hi hp => by
    have : ∃ a ks, σ[i]? = some (some (.ref a)) ∧ H0 a = none ∧ H a = some (.dK ks) ∧ DaKv K H0 ks kvs ∧ (s kvs).mut = true := by
      rcases hs with ⟨rfl, rfl⟩ | ⟨rfl, rfl⟩
      · obtain ⟨v, h1, a, ks, rfl, h2, h3, h4, h5⟩ := E.sl i _ hi
        exact ⟨a, ks, h1, h2, h4, h5, rfl⟩
      · obtain ⟨v, h1, a, ks, rfl, h2, h3, h4, h5⟩ := E.sl i _ hi
        exact ⟨a, ks, h1, h2, h4, h5, rfl⟩
    obtain ⟨a, ks, h1, h2, h3, h4, h5⟩ := this
    have own : OwnAt σ ρ a := ⟨i, _, hi, h5, h1⟩
    refine ⟨a, ks, h1, h2, h3, h4, own, fun ks' kvs' H0' H' gr tt sm ha hd => ?_⟩
    rw [hp kvs']
    refine ⟨E.mutD hi h1 (by rcases hs with ⟨rfl, rfl⟩ | ⟨rfl, rfl⟩; exact .inl ⟨_, rfl, rfl⟩; exact .inr ⟨_, rfl, rfl⟩) gr tt sm ha hd, gr.b0, fun b o hb nt ho => gr.keep b o hb nt fun z => ho (Option.some.inj z ▸ own), fun b hb h0 _ => gr.off b hb h0, fun b ⟨j, t, e, mt, y⟩ => ?_, fun b hb => ?_⟩
    · rcases set_get e with ⟨rfl, z⟩ | ⟨hne, z⟩
      · exact ⟨j, _, hi, h5, y⟩
      · exact ⟨j, t, z, mt, y⟩
    · exact gr.st b hb
  unfold dAt at h
  split at h
  · rename_i e
    cases h
    exact main .od .od (.inl ⟨rfl, rfl⟩) e fun kvs' => by unfold dPut; rw [e]
  · rename_i e
    cases h
    exact main .io .io (.inr ⟨rfl, rfl⟩) e fun kvs' => by unfold dPut; rw [e]
  · cases h
theorem tCallM_of {fn : FnM} {i : Nat} {fa : Rho → R (List Dt)} {E : XK} (h : tD g F W (callM fn i fa) σ H Q) : tCall (spM g fn) [] E (tCons (tVar i) (tDA g F W fa)) σ H Q := by
  obtain ⟨H0, ρ, E, q⟩ := h
  unfold callM at q
  cases e0 : dAt i ρ with
  | none => rw [e0] at q; exact q.elim
  | some kvs0 =>
    rw [e0] at q
    dsimp only at q
    obtain ⟨a, ks0, ha, _⟩ := dAt_put E e0
    refine ⟨.ref a, ha, H0, ρ, E, ?_⟩
    cases e : fa ρ with
    | ok ds ρ1 =>
      rw [e] at q
      dsimp only [R.bind] at q
      intro vs H0' H' E' m hd
      show spM g fn ((V.ref a :: vs) ++ []) H' Q _
      rw [List.append_nil]
      cases e1 : dAt i ρ1 with
      | none => rw [e1] at q; exact q.elim
      | some kvs =>
        rw [e1] at q
        dsimp only at q
        obtain ⟨a', ks, ha', h2, h3, h4, own, k⟩ := dAt_put E' e1
        rw [ha] at ha'
        cases ha'
        refine ⟨H0', a, ks, kvs, vs, ds, rfl, E'.ex, E'.tb, h2, h3, h4, hd, ?_⟩
        cases e2 : fn kvs ds with
        | ok s kvs' =>
          rw [e2] at q
          cases s with
          | fr d =>
            intro v ks' C0 C gr tt s2 hc hdk hv
            obtain ⟨E3, m3⟩ := k ks' kvs' C0 C gr tt s2 hc hdk
            exact q v C0 C E3 (m.trans m3) hv
          | _ => exact q.elim
        | ex _ => rw [e2] at q; exact q.elim
        | bad => rw [e2] at q; exact q.elim
    | ex x ρ1 =>
      rw [e] at q
      exact q
    | bad =>
      rw [e] at q
      exact q
end
section
variable {X : Cx} {W : WX} {e : Expr} {es : List Expr} {pos p p2 : Pos} {fa : Rho → R (List Dt)} {k : Nat} {f : Addr} {fd : FuncData} {ps : List Str} {x : Str}
theorem de_call {fn : Fn} (G : FnOk X.prog X.w X.K X.mg X.base CX0 k f fd ps (spF ⟨X.K, X.mg⟩ fn)) (hr : Room k X.A) (hg : Gl X x) (hm : X.mg x = some (.ref f)) (hk : PySem.W.keepIn X.K (.ref f) = true) (hb : Binds X.K fd ps [])
    (ha : DA X W (e :: es) fa) (hdb : (x == ("__debug__" : Str)) = false := by decide) (he : starEach (e :: es) X.env = (false, eval e X.env) :: starEach es X.env := by rfl) (hpl : (backTo pos (starEach es X.env)).any (·.1) = false := by rfl) :
    DE X W (.Call (.Name x p) (e :: es) [] pos) (callF fn fa) := fun F => PE.wk (pe_call G hr hg hm hk hb .nil pass0 (ha F) hdb he hpl) fun _ _ _ h => tCall_of h
theorem de_call0 {fn : Fn} (G : FnOk X.prog X.w X.K X.mg X.base CX0 k f fd ps (spF ⟨X.K, X.mg⟩ fn)) (hr : Room k X.A) (hg : Gl X x) (hm : X.mg x = some (.ref f)) (hk : PySem.W.keepIn X.K (.ref f) = true) (hb : Binds X.K fd ps [])
    (hdb : (x == ("__debug__" : Str)) = false := by decide) : DE X W (.Call (.Name x p) [] [] pos) (callF fn nilA) := fun F => PE.wk (pe_call0 G hr hg hm hk hb .nil pass0 hdb) fun σ H Q h => by
  obtain ⟨H0, ρ, E, q⟩ := tCall_of (E := E0) h
  exact q [] H0 H E Mv.refl .nil
theorem do_call {fn : Fn} (G : FnOk X.prog X.w X.K X.mg X.base CX0 k f fd ps (spF ⟨X.K, X.mg⟩ fn)) (hr : Room k X.A) (hg : Gl X x) (hm : X.mg x = some (.ref f)) (hk : PySem.W.keepIn X.K (.ref f) = true) (hb : Binds X.K fd ps [])
    (ha : DA X W (e :: es) fa) (hdb : (x == ("__debug__" : Str)) = false := by decide) (he : starEach (e :: es) X.env = (false, eval e X.env) :: starEach es X.env := by rfl) (hpl : (backTo pos (starEach es X.env)).any (·.1) = false := by rfl) :
    DO X W (.Call (.Name x p) (e :: es) [] pos) (callO fn fa) := fun F => PE.wk (pe_call G hr hg hm hk hb .nil pass0 (ha F) hdb he hpl) fun _ _ _ h => tCallO_of h
theorem de_callM {fn : FnM} {i : Nat} {y : Str} (G : FnOk X.prog X.w X.K X.mg X.base CX0 k f fd ps (spM ⟨X.K, X.mg⟩ fn)) (hr : Room k X.A) (hg : Gl X x) (hm : X.mg x = some (.ref f)) (hk : PySem.W.keepIn X.K (.ref f) = true) (hb : Binds X.K fd ps [])
    (hy : PE X (.Name y p2) (tVar i)) (ha : DA X W es fa) (hdb : (x == ("__debug__" : Str)) = false := by decide) (he : starEach (.Name y p2 :: es) X.env = (false, eval (.Name y p2) X.env) :: starEach es X.env := by rfl) (hpl : (backTo pos (starEach es X.env)).any (·.1) = false := by rfl) :
    DE X W (.Call (.Name x p) (.Name y p2 :: es) [] pos) (callM fn i fa) := fun F => PE.wk (pe_call G hr hg hm hk hb .nil pass0 (pa_cons hy (ha F) he) hdb he hpl) fun _ _ _ h => tCallM_of h
end
end DW

set_option Elab.async false
set_option linter.all false
set_option maxRecDepth 100000
set_option maxHeartbeats 4000000
/-! DW8: statements, loops -/
namespace DW
open PySem PySem.Spec PyProof.Rows L2

def skipS : Rho → SR := fun ρ => .nx ρ
def badS : Rho → SR := fun _ => .bad
def bkS : Rho → SR := fun ρ => .bk ρ
def ctS : Rho → SR := fun ρ => .ct ρ
def seqS (f k : Rho → SR) : Rho → SR := fun ρ => match f ρ with
  | .nx ρ1 => k ρ1
  | .rt s ρ1 => .rt s ρ1
  | .bk ρ1 => .bk ρ1
  | .ct ρ1 => .ct ρ1
  | .ex e ρ1 => .ex e ρ1
  | .bad => .bad
def nxO : Option Rho → SR
  | some ρ => .nx ρ
  | none => .bad
def setS (i : Nat) (f : Rho → R Dt) : Rho → SR := fun ρ => (f ρ).bindS fun d ρ1 => nxO (putR i (.fr d) ρ1)
def setOS (i : Nat) (f : Rho → R Sl) : Rho → SR := fun ρ => (f ρ).bindS fun s ρ1 => match s with
  | .io _ => .bad
  | s => nxO (putR i s ρ1)
def retS (f : Rho → R Dt) : Rho → SR := fun ρ => (f ρ).bindS fun d ρ1 => .rt (.fr d) ρ1
def retOS (f : Rho → R Sl) : Rho → SR := fun ρ => (f ρ).bindS fun s ρ1 => .rt s ρ1
def exprS (f : Rho → R Dt) : Rho → SR := fun ρ => (f ρ).bindS fun _ ρ1 => .nx ρ1
def ifS (c : Rho → R Bool) (f k : Rho → SR) : Rho → SR := fun ρ => (c ρ).bindS fun b ρ1 => if b = true then f ρ1 else k ρ1
def whS (c : Rho → R Bool) (b : Rho → SR) : Nat → Rho → SR
  | 0, _ => .bad
  | n + 1, ρ => (c ρ).bindS fun t ρ1 => if t = true then (match b ρ1 with
    | .nx ρ2 => whS c b n ρ2
    | .ct ρ2 => whS c b n ρ2
    | .bk ρ2 => .nx ρ2
    | .rt s ρ2 => .rt s ρ2
    | .ex e ρ2 => .ex e ρ2
    | .bad => .bad) else .nx ρ1
def forL (t : Dt → Rho → Option Rho) (b : Rho → SR) : List Dt → Rho → SR
  | [], ρ => .nx ρ
  | d :: ds, ρ => match t d ρ with
    | none => .bad
    | some ρ1 => match b ρ1 with
      | .nx ρ2 => forL t b ds ρ2
      | .ct ρ2 => forL t b ds ρ2
      | .bk ρ2 => .nx ρ2
      | .rt s ρ2 => .rt s ρ2
      | .ex e ρ2 => .ex e ρ2
      | .bad => .bad
def forS (it : Rho → R (List Dt)) (t : Dt → Rho → Option Rho) (b : Rho → SR) : Rho → SR := fun ρ => (it ρ).bindS fun ds ρ1 => forL t b ds ρ1
/-- targets -/
def tgN (i : Nat) : Dt → Rho → Option Rho := fun d ρ => putR i (.fr d) ρ
def putAll : List Nat → List Dt → Rho → Option Rho
  | [], [], ρ => some ρ
  | i :: is, d :: ds, ρ => match putR i (.fr d) ρ with
    | some ρ1 => putAll is ds ρ1
    | none => none
  | _, _, _ => none
def tgT (is : List Nat) : Dt → Rho → Option Rho := fun d ρ => match d with
  | .tup ds => putAll is ds ρ
  | _ => none
def asgS (t : Dt → Rho → Option Rho) (f : Rho → R Dt) : Rho → SR := fun ρ => (f ρ).bindS fun d ρ1 => nxO (t d ρ1)
/-- the own list in a slot -/
def lAt (i : Nat) (ρ : Rho) : Option (List Dt) := match (ρ[i]? : Option (Option Sl)) with
  | some (some (.ol xs)) => some xs
  | _ => none
def appS (i : Nat) (f : Rho → R Dt) : Rho → SR := fun ρ => match lAt i ρ with
  | none => .bad
  | some _ => (f ρ).bindS fun d ρ1 => match lAt i ρ1 with
    | none => .bad
    | some xs => if xs.length < 1000000 then .nx (ρ1.set i (some (.ol (xs ++ [d])))) else .bad
/-- d[k] = v -/
def dputS (i : Nat) (fk fv : Rho → R Dt) : Rho → SR := fun ρ => (fv ρ).bindS fun d ρ1 => match dAt i ρ1 with
  | none => .bad
  | some _ => (fk ρ1).bindS fun k ρ2 => match keyD k, dAt i ρ2 with
    | some k, some kvs => if kvs.length < 1000000 then .nx (dPut i (putKD kvs k d) ρ2) else .bad
    | _, _ => .bad
/-- several things that are made, in a row -/
def argsO : List (Rho → R Sl) → Rho → R (List Sl)
  | [], ρ => .ok [] ρ
  | f :: fs, ρ => (f ρ).bind fun s ρ1 => (argsO fs ρ1).bind fun ss ρ2 => .ok (s :: ss) ρ2
def putSl : List Nat → List Sl → Rho → Option Rho
  | [], [], ρ => some ρ
  | i :: is, s :: ss, ρ => match s with
    | .io _ => none
    | s => match putR i s ρ with
      | some ρ1 => putSl is ss ρ1
      | none => none
  | _, _, _ => none
def parS (is : List Nat) (fs : List (Rho → R Sl)) : Rho → SR := fun ρ => (argsO fs ρ).bindS fun ss ρ1 => nxO (putSl is ss ρ1)

theorem En.notOwn {K : PySem.W.Frag} {F : Fm} {H0 H : Hp} {σ : L2.St} {ρ : Rho} {a : Addr} (E : En K F H0 H σ ρ) (hn : H a = none) : ¬ OwnAt σ ρ a := fun ⟨i, t, h1, h2, h3⟩ => by
  obtain ⟨w, h4, h5⟩ := E.sl i t h1
  rw [h3] at h4
  cases h4
  cases t with
  | fr _ => cases h2
  | ol _ => obtain ⟨b, _, e', _, _, q3, _⟩ := h5; cases e'; rw [hn] at q3; cases q3
  | od _ => obtain ⟨b, _, e', _, _, q3, _⟩ := h5; cases e'; rw [hn] at q3; cases q3
  | io _ => obtain ⟨b, _, e', _, _, q3, _⟩ := h5; cases e'; rw [hn] at q3; cases q3
section
variable {g : Gx} {F : Fm} {W : WX} {σ : L2.St} {H : Hp}
theorem tSeq_of {f k : Rho → SR} {D : Ends} (h : tS g F W (seqS f k) D σ H) : tSeq (tS g F W f) (tS g F W k) D σ H := by
  obtain ⟨H0, ρ, E, q⟩ := h
  refine ⟨H0, ρ, E, ?_⟩
  unfold seqS at q
  cases e : f ρ with
  | nx ρ1 =>
    rw [e] at q
    exact fun σ' H0' H' E' s' => ⟨H0', ρ1, E', q.mono s'⟩
  | rt s ρ1 => rw [e] at q; exact q
  | bk ρ1 => rw [e] at q; exact q
  | ct ρ1 => rw [e] at q; exact q
  | ex _ _ => rw [e] at q; exact q
  | bad => rw [e] at q; exact q
/-- an expression, then something -/
theorem tD_bindS {f : Rho → R Dt} {k : Dt → Rho → SR} {D : Ends} {Q : VK} (h : tS g F W (fun ρ => (f ρ).bindS k) D σ H)
    (hQ : ∀ v H0 H' ρ1 d, En g.K F H0 H' σ ρ1 → Da g.K H0 v d → PostS g F W D H0 (k d ρ1) → Q v H') : tD g F W f σ H Q := by
  obtain ⟨H0, ρ, E, q⟩ := h
  refine ⟨H0, ρ, E, ?_⟩
  dsimp only at q
  cases e : f ρ with
  | ok d ρ1 =>
    rw [e] at q
    exact fun v H0' H' E' m hd => hQ v H0' H' ρ1 d E' hd (PostS.mono m.b0 q)
  | ex x ρ1 =>
    rw [e] at q
    exact q σ
  | bad =>
    rw [e] at q
    exact q
theorem tO_bindS {f : Rho → R Sl} {k : Sl → Rho → SR} {D : Ends} {Q : VK} (h : tS g F W (fun ρ => (f ρ).bindS k) D σ H)
    (hQ : ∀ v H0 H' ρ1 s, En g.K F H0 H' σ ρ1 → SlR g.K F H0 H' v s → (s.own = true → ∀ a, v = .ref a → ¬ OwnAt σ ρ1 a) → PostS g F W D H0 (k s ρ1) → Q v H') : tO g F W f σ H Q := by
  obtain ⟨H0, ρ, E, q⟩ := h
  refine ⟨H0, ρ, E, ?_⟩
  dsimp only at q
  cases e : f ρ with
  | ok d ρ1 =>
    rw [e] at q
    intro v H0' H' E' m hd hfr
    exact hQ v H0' H' ρ1 d E' hd (fun ho a ea own => E.notOwn (hfr ho a ea) (m.sub a own)) (PostS.mono m.b0 q)
  | ex x ρ1 =>
    rw [e] at q
    exact q σ
  | bad =>
    rw [e] at q
    exact q
theorem tDT_bindS {f : Rho → R Bool} {k : Bool → Rho → SR} {D : Ends} {Q : Bool → Hp → Prop} (h : tS g F W (fun ρ => (f ρ).bindS k) D σ H)
    (hQ : ∀ H0 H' ρ1 b, En g.K F H0 H' σ ρ1 → PostS g F W D H0 (k b ρ1) → Q b H') : tDT g F W f σ H Q := by
  obtain ⟨H0, ρ, E, q⟩ := h
  refine ⟨H0, ρ, E, ?_⟩
  dsimp only at q
  cases e : f ρ with
  | ok d ρ1 =>
    rw [e] at q
    exact fun H0' H' E' m => hQ H0' H' ρ1 d E' (PostS.mono m.b0 q)
  | ex x ρ1 =>
    rw [e] at q
    exact q σ
  | bad =>
    rw [e] at q
    exact q
theorem nxO_post {D : Ends} {H0 : Hp} {o : Option Rho} (h : PostS g F W D H0 (nxO o)) : ∃ ρ, o = some ρ ∧ ∀ σ' H', En g.K F H0 H' σ' ρ → D.nx σ' H' := by
  cases o with
  | none => exact h.elim
  | some ρ => exact ⟨ρ, rfl, fun σ' H' E => h σ' H0 H' E (Same.refl _)⟩

/-! ### targets -/
def setAll : List Nat → List V → L2.St → L2.St
  | i :: is, v :: vs, σ => setAll is vs (σ.set i (some v))
  | _, _, σ => σ
def tG (g : Gx) (F : Fm) (is : List Nat) (t : Dt → Rho → Option Rho) : TG := fun v σ H Q => ∃ H0 ρ d, En g.K F H0 H σ ρ ∧ Da g.K H0 v d ∧ ∃ ρ', t d ρ = some ρ' ∧ ∀ us, En g.K F H0 H (setAll is us σ) ρ' → (∀ a, OwnAt (setAll is us σ) ρ' a → OwnAt σ ρ a) → Q (setAll is us σ) H
def tGs (g : Gx) (F : Fm) (is : List Nat) : TGs := fun vs σ H Q => ∃ H0 ρ ds, En g.K F H0 H σ ρ ∧ DaAll g.K H0 vs ds ∧ ∃ ρ', putAll is ds ρ = some ρ' ∧ ∀ us, En g.K F H0 H (setAll is us σ) ρ' → (∀ a, OwnAt (setAll is us σ) ρ' a → OwnAt σ ρ a) → Q (setAll is us σ) H
theorem own_put {i : Nat} {v : V} {d : Dt} {σ : L2.St} {ρ ρ' : Rho} (h : putR i (.fr d) ρ = some ρ') {a : Addr} (o : OwnAt (σ.set i (some v)) ρ' a) : OwnAt σ ρ a := by
  unfold putR at h
  split at h
  · cases h
  · cases h
    obtain ⟨j, s, h1, h2, h3⟩ := o
    rcases set_get h1 with ⟨rfl, z⟩ | ⟨hne, z⟩
    · cases z
      cases h2
    · rw [List.getElem?_set_ne (Ne.symm hne)] at h3
      exact ⟨j, s, z, h2, h3⟩

/-! ### loops -/
theorem whS_succ (c : Rho → R Bool) (b : Rho → SR) (n : Nat) (ρ : Rho) : whS c b (n + 1) ρ = (c ρ).bindS fun t ρ1 => if t = true then (match b ρ1 with
    | .nx ρ2 => whS c b n ρ2
    | .ct ρ2 => whS c b n ρ2
    | .bk ρ2 => .nx ρ2
    | .rt s ρ2 => .rt s ρ2
    | .ex e ρ2 => .ex e ρ2
    | .bad => .bad) else .nx ρ1 := rfl
theorem tWhile_of {c : Rho → R Bool} {b : Rho → SR} {n : Nat} {D : Ends} (h : tS g F W (whS c b n) D σ H) : tWhile (tDT g F W c) (tS g F W b) D σ H := by
  refine ⟨fun m σ H => tS g F W (whS c b m) D σ H, ⟨n, h⟩, fun m σ H w => ?_⟩
  cases m with
  | zero =>
    obtain ⟨_, _, _, q⟩ := w
    exact q.elim
  | succ m =>
    have w' : tS g F W (fun ρ => (c ρ).bindS fun t ρ1 => if t = true then (match b ρ1 with
      | .nx ρ2 => whS c b m ρ2
      | .ct ρ2 => whS c b m ρ2
      | .bk ρ2 => .nx ρ2
      | .rt s ρ2 => .rt s ρ2
      | .ex e ρ2 => .ex e ρ2
      | .bad => .bad) else .nx ρ1) D σ H := w
    refine tDT_bindS w' fun H0 H' ρ1 t E q => ?_
    cases t with
    | false =>
      rw [if_neg Bool.false_ne_true] at q ⊢
      exact q σ H0 H' E (Same.refl _)
    | true =>
      rw [if_pos rfl] at q ⊢
      refine ⟨fun σ' H' => tS g F W (whS c b m) D σ' H', fun σ' H' z => ⟨m, Nat.lt_succ_self m, z⟩, H0, ρ1, E, ?_⟩
      cases e : b ρ1 with
      | nx ρ2 => rw [e] at q; exact fun σ' C0 C E' s' => ⟨C0, ρ2, E', q.mono s'⟩
      | ct ρ2 => rw [e] at q; exact fun σ' C0 C E' s' => ⟨C0, ρ2, E', q.mono s'⟩
      | bk ρ2 => rw [e] at q; exact q
      | rt s ρ2 => rw [e] at q; exact q
      | ex _ _ => rw [e] at q; exact q
      | bad => rw [e] at q; exact q
/-- what a walk gives, by data that stand in a base -/
def ItD (K : PySem.W.Frag) (J : It) (H0 : Hp) (ds : List Dt) : Prop := ∃ G Y, Walk J ds.length G Y ∧ (∀ H, Same H0 H → G H) ∧ ∀ i H x H', i < ds.length → Same H0 H → Y i H x H' → ∃ d, ds[i]? = some d ∧
  ((H' = H ∧ Da K H0 x d) ∨ ∃ T vs es, x = .ref T ∧ H T = none ∧ H' = upd H T (.tup vs) ∧ DaAll K H0 vs es ∧ d = .tup es)
def tI (g : Gx) (F : Fm) (W : WX) (f : Rho → R (List Dt)) : TI := fun σ H Rk => ∃ H0 ρ, En g.K F H0 H σ ρ ∧ match f ρ with
  | .ok ds ρ' => ∀ J H0' H', En g.K F H0' H' σ ρ' → Mv σ ρ ρ' H0 H H0' H' → ItD g.K J H0' ds → Rk J H'
  | .ex e ρ' => XW g F W σ e ρ'
  | .bad => False
/-- the item's data over a base of now -/
theorem item_at {K : PySem.W.Frag} {H0 B0 H H' : Hp} {ρ : Rho} {x : V} {d : Dt} (E : En K F B0 H σ ρ) (s : Same H0 B0)
    (h : (H' = H ∧ Da K H0 x d) ∨ ∃ T vs es, x = .ref T ∧ H T = none ∧ H' = upd H T (.tup vs) ∧ DaAll K H0 vs es ∧ d = .tup es) :
    ∃ C0, En K F C0 H' σ ρ ∧ Mv σ ρ ρ B0 H C0 H' ∧ Da K C0 x d := by
  rcases h with ⟨rfl, h⟩ | ⟨T, vs, es, rfl, hT, rfl, hd, rfl⟩
  · exact ⟨B0, E, Mv.refl, h.mono s⟩
  · have g1 := gr_new (o := .tup vs) hT E.ex
    exact ⟨upd B0 T (.tup vs), E.new hT, g1.mv, .tup (SqT.of upd_same) ((hd.mono s).mono g1.b0)⟩
theorem tFor_of {it : Rho → R (List Dt)} {t : Dt → Rho → Option Rho} {b : Rho → SR} {is : List Nat} {D : Ends} (h : tS g F W (forS it t b) D σ H) : tFor (tI g F W it) (tG g F is t) (tS g F W b) D σ H := by
  obtain ⟨H0, ρ, E, q⟩ := h
  refine ⟨H0, ρ, E, ?_⟩
  unfold forS at q
  cases e : it ρ with
  | ok ds ρ1 =>
    rw [e] at q
    intro J B0 B E1 m1 hJ
    obtain ⟨G, Y, wk, hG, hY⟩ := hJ
    have q1 : PostS g F W D B0 (forL t b ds ρ1) := PostS.mono m1.b0 q
    refine for_it wk (fun i σ H => ∃ C0 ρc, En g.K F C0 H σ ρc ∧ Same B0 C0 ∧ PostS g F W D C0 (forL t b (ds.drop i) ρc)) ⟨B0, ρ1, E1, Same.refl _, by rw [List.drop_zero]; exact q1⟩ (fun i σ H _ ⟨C0, ρc, Ec, sc', _⟩ => hG H (sc'.trans Ec.ex)) ?_ ?_
    · rintro i x σ H H' hi ⟨C0, ρc, Ec, sc', qc⟩ y
      obtain ⟨d, hd, hx⟩ := hY i H x H' hi (sc'.trans Ec.ex) y
      obtain ⟨D0, Ed, md, dd⟩ := item_at Ec sc' hx
      have hdrop : ds.drop i = d :: ds.drop (i + 1) := by
        obtain ⟨hlt, hget⟩ := List.getElem?_eq_some_iff.mp hd
        rw [List.drop_eq_getElem_cons hlt, hget]
      rw [hdrop] at qc
      unfold forL at qc
      cases et : t d ρc with
      | none => rw [et] at qc; exact qc.elim
      | some ρ2 =>
        rw [et] at qc
        dsimp only at qc
        refine ⟨D0, ρc, d, Ed, dd, ρ2, et, fun us E2 _ => ⟨D0, ρ2, E2, ?_⟩⟩
        cases eb : b ρ2 with
        | nx ρ3 => rw [eb] at qc; exact fun σ' I0 I E3 s3 => ⟨I0, ρ3, E3, (sc'.trans md.b0).trans s3, qc.mono (md.b0.trans s3)⟩
        | ct ρ3 => rw [eb] at qc; exact fun σ' I0 I E3 s3 => ⟨I0, ρ3, E3, (sc'.trans md.b0).trans s3, qc.mono (md.b0.trans s3)⟩
        | bk ρ3 => rw [eb] at qc; exact PostS.mono (r := .nx ρ3) md.b0 qc
        | rt s ρ3 => rw [eb] at qc; exact qc
        | ex _ _ => rw [eb] at qc; exact qc
        | bad => rw [eb] at qc; exact qc
    · rintro σ H ⟨C0, ρc, Ec, sc', qc⟩
      rw [List.drop_length] at qc
      exact qc σ C0 H Ec (Same.refl _)
  | ex x ρ1 =>
    rw [e] at q
    exact q σ
  | bad =>
    rw [e] at q
    exact q
end

section
variable {X : Cx} {W : WX} {a b c e : Expr} {es : List Expr} {pos p p2 : Pos} {f1 f2 f3 : Rho → R Dt} {st : Stmt} {rest : List Stmt} {s1 s2 : Rho → SR} {t1 : Rho → R Bool}
theorem ds_nil : DSs X W [] skipS := fun F => PSs.wk pss_nil fun D σ H ⟨H0, ρ, E, q⟩ => q σ H0 H E (Same.refl _)
theorem ds_cons (h1 : DS X W st s1) (h2 : DSs X W rest s2) : DSs X W (st :: rest) (seqS s1 s2) := fun F => PSs.wk (pss_cons (h1 F) (h2 F)) fun _ _ _ h => tSeq_of h
theorem ds_one (h1 : DS X W st s1) : DSs X W [st] s1 := fun F => pss_one (h1 F)
theorem ds_never : DS X W st badS := fun F => ⟨fun _ _ _ _ _ _ ⟨_, _, _, q⟩ => q.elim⟩
theorem dss_never {sts : List Stmt} : DSs X W sts badS := fun F => ⟨fun _ _ _ _ _ _ ⟨_, _, _, q⟩ => q.elim⟩
theorem ds_pass : DS X W (.Pass pos) skipS := fun F => PS.wk ps_pass fun D σ H ⟨H0, ρ, E, q⟩ => q σ H0 H E (Same.refl _)
theorem ds_break : DS X W (.Break pos) bkS := fun F => PS.wk ps_break fun D σ H ⟨H0, ρ, E, q⟩ => q σ H0 H E (Same.refl _)
theorem ds_continue : DS X W (.Continue pos) ctS := fun F => PS.wk ps_continue fun D σ H ⟨H0, ρ, E, q⟩ => q σ H0 H E (Same.refl _)
theorem ds_doc {x j p'} : DS X W (.Expr (.Constant (.str x) j p') pos) skipS := fun F => PS.wk ps_doc fun D σ H ⟨H0, ρ, E, q⟩ => q σ H0 H E (Same.refl _)
theorem ds_set (i : Nat) {x : Str} (hN : X.N.Nodup) (he : DE X W e f1) (hi : X.N[i]? = some x := by rfl) (hx : Loc X.env.scope x := by first | exact .inl rfl | exact .inr rfl) (hs : swapsWith e (some (.Name x p)) pos.line X.env = pure false := by rfl)
    (hf : X.fn x = true ∨ X.env.scope.names.lookup x = some .local := by first | exact .inl rfl | exact .inr rfl) : DS X W (.Assign [.Name x p] e pos) (setS i f1) := fun F => PS.wk (ps_set hN hi hx (he F) hs hf) fun D σ H h => by
  refine tD_bindS h fun v H0 H' ρ1 d E hd q => ?_
  obtain ⟨ρ2, e, k⟩ := nxO_post q
  exact k _ H' (E.putFr hd e)
theorem ds_setO (i : Nat) {x : Str} {fo : Rho → R Sl} (hN : X.N.Nodup) (he : DO X W e fo) (hi : X.N[i]? = some x := by rfl) (hx : Loc X.env.scope x := by first | exact .inl rfl | exact .inr rfl) (hs : swapsWith e (some (.Name x p)) pos.line X.env = pure false := by rfl)
    (hf : X.fn x = true ∨ X.env.scope.names.lookup x = some .local := by first | exact .inl rfl | exact .inr rfl) : DS X W (.Assign [.Name x p] e pos) (setOS i fo) := fun F => PS.wk (ps_set hN hi hx (he F) hs hf) fun D σ H h => by
  refine tO_bindS h fun v H0 H' ρ1 s E hd ho q => ?_
  cases s with
  | io _ => exact q.elim
  | fr d =>
    obtain ⟨ρ2, e, k⟩ := nxO_post q
    exact k _ H' (E.put hd (fun _ z => nomatch z) ho e)
  | ol d =>
    obtain ⟨ρ2, e, k⟩ := nxO_post q
    exact k _ H' (E.put hd (fun _ z => nomatch z) ho e)
  | od d =>
    obtain ⟨ρ2, e, k⟩ := nxO_post q
    exact k _ H' (E.put hd (fun _ z => nomatch z) ho e)
theorem ds_ret (he : DE X W e f1) : DS X W (.Return (some e) pos) (retS f1) := fun F => PS.wk (ps_ret (he F)) fun D σ H h => tD_bindS h fun v H0 H' ρ1 d E hd q => q v σ H0 H' E hd
theorem ds_retO {fo : Rho → R Sl} (he : DO X W e fo) : DS X W (.Return (some e) pos) (retOS fo) := fun F => PS.wk (ps_ret (he F)) fun D σ H h => tO_bindS h fun v H0 H' ρ1 d E hd ho q => q v σ H0 H' E hd
theorem ds_retN : DS X W (.Return none pos) (retS (cst .non)) := fun F => PS.wk ps_retN fun D σ H ⟨H0, ρ, E, q⟩ => q .non σ H0 H E (Da.non : Da X.K H0 .non .non)
theorem ds_expr (he : DE X W e f1) (hs : swapsWith e none pos.line X.env = pure false := by rfl) : DS X W (.Expr e pos) (exprS f1) := fun F => PS.wk (ps_expr (he F) hs) fun D σ H h => tD_bindS h fun v H0 H' ρ1 d E hd q => q σ H0 H' E (Same.refl _)
theorem ds_if {sa sb : List Stmt} (hc : DT X W c t1) (ha : DSs X W sa s1) (hb : DSs X W sb s2) : DS X W (.If c sa sb pos) (ifS t1 s1 s2) := fun F => PS.wk (ps_if (hc F) (ha F) (hb F)) fun D σ H h => by
  refine tDT_bindS h fun H0 H' ρ1 b E q => ?_
  cases b with
  | true =>
    rw [if_pos rfl] at q ⊢
    exact ⟨H0, ρ1, E, q⟩
  | false =>
    rw [if_neg Bool.false_ne_true] at q ⊢
    exact ⟨H0, ρ1, E, q⟩
theorem ds_while (n : Nat) {sa : List Stmt} (hp : PassesOwn (model X.prog X.w) X.A X.env X.xe) (hc : DT X W c t1) (ha : DSs X W sa s1) : DS X W (.While c sa [] pos) (whS t1 s1 n) := fun F => PS.wk (ps_while hp (hc F) (ha F)) fun D σ H h => tWhile_of h
def DI (X : Cx) (W : WX) (tg iter : Expr) (f : Rho → R (List Dt)) : Prop := ∀ F, PI X tg iter (tI (gx X) F W f)
def DG (X : Cx) (tg : Expr) (is : List Nat) (t : Dt → Rho → Option Rho) : Prop := ∀ F, PG X tg (tG (gx X) F is t)
def DGs (X : Cx) (tg : List Expr) (is : List Nat) : Prop := ∀ F, PGs X tg (tGs (gx X) F is)
theorem ds_for {tg iter : Expr} {sa : List Stmt} {it : Rho → R (List Dt)} {t : Dt → Rho → Option Rho} {is : List Nat} (hp : PassesOwn (model X.prog X.w) X.A X.env X.xe) (hc : X.calm = true) (hi : DI X W tg iter it) (hg : DG X tg is t) (ha : DSs X W sa s1)
    (hs : ∀ x, foldedSetIterable iter X.env x = pure x := by intro _; rfl) : DS X W (.For tg iter sa [] pos) (forS it t s1) := fun F => PS.wk (ps_for hp hc (hi F) (hg F) (ha F) hs) fun D σ H h => tFor_of h
/-! ### targets -/
theorem PG.wk {e : Expr} {t u : TG} (h : PG X e t) (k : ∀ v σ H Q, u v σ H Q → t v σ H Q) : PG X e u := ⟨fun pins s σ H v w Q I r q => h.run pins s σ H v w Q I r (k v σ H Q q)⟩
theorem PGs.wk {e : List Expr} {t u : TGs} (h : PGs X e t) (k : ∀ v σ H Q, u v σ H Q → t v σ H Q) : PGs X e u := ⟨fun pins s σ H v w Q I r q => h.run pins s σ H v w Q I r (k v σ H Q q)⟩
theorem dg_name (i : Nat) {x : Str} (hN : X.N.Nodup) (hi : X.N[i]? = some x := by rfl) (hx : Loc X.env.scope x := by first | exact .inl rfl | exact .inr rfl) (hf : X.fn x = true ∨ X.env.scope.names.lookup x = some .local := by first | exact .inl rfl | exact .inr rfl) : DG X (.Name x p) [i] (tgN i) :=
  fun F => PG.wk (pg_name hN hi hx hf) fun v σ H Q ⟨H0, ρ, d, E, hd, ρ', e, k⟩ => k [v] (E.putFr hd e) fun a o => own_put e o
theorem dgs_nil : DGs X [] [] := fun F => PGs.wk pgs_nil fun v σ H Q ⟨H0, ρ, d, E, hd, ρ', e, k⟩ => by
  cases d with
  | nil =>
    cases hd
    cases e
    exact ⟨rfl, k [] E fun _ o => o⟩
  | cons _ _ => cases e
theorem dgs_cons (i : Nat) {x : Str} {es : List Expr} {is : List Nat} (hN : X.N.Nodup) (h2 : DGs X es is) (hi : X.N[i]? = some x := by rfl) (hx : Loc X.env.scope x := by first | exact .inl rfl | exact .inr rfl) (hf : X.fn x = true ∨ X.env.scope.names.lookup x = some .local := by first | exact .inl rfl | exact .inr rfl)
    (hs : (assignEach (.Name x p :: es) X.env).map (·.2) = assign (.Name x p) X.env :: (assignEach es X.env).map (·.2) := by rfl) : DGs X (.Name x p :: es) (i :: is) :=
  fun F => PGs.wk (pgs_cons (pg_name hN hi hx hf) (h2 F) hs) fun v σ H Q ⟨H0, ρ, d, E, hd, ρ', e, k⟩ => by
    cases d with
    | nil => cases e
    | cons d ds =>
      cases hd with
      | @cons v0 vs _ _ h3 h4 =>
        refine ⟨v0, vs, rfl, H0, ?_⟩
        unfold putAll at e
        cases e1 : putR i (.fr d) ρ with
        | none => rw [e1] at e; cases e
        | some ρ1 =>
          rw [e1] at e
          exact ⟨ρ1, ds, E.putFr h3 e1, h4, ρ', e, fun us E' o' => k (v0 :: us) E' fun a o => own_put e1 (o' a o)⟩
theorem dg_tup {es : List Expr} {is : List Nat} {k : Nat} (hc : X.calm = true) (h : DGs X es is) (hn : (assignEach es X.env).length = is.length := by rfl) (hst : (assignEach es X.env).findIdx? (·.1) = none := by rfl) : DG X (.Tuple es k p) is (tgT is) :=
  fun F => PG.wk (pg_tup hc (h F) hn hst) fun v σ H Q ⟨H0, ρ, d, E, hd, ρ', e, k⟩ => by
    cases d with
    | tup ds =>
      cases hd with
      | tup h1 h2 =>
        refine ⟨_, _, rfl, seqT_mono E.ex h1, ?_, H0, ρ, ds, E, h2, ρ', e, k⟩
        rw [h2.length]
        have len : ∀ (is : List Nat) (ds : List Dt) (ρ ρ' : Rho), putAll is ds ρ = some ρ' → ds.length = is.length := by
          intro is
          induction is with
          | nil => intro ds ρ ρ' e; cases ds with | nil => rfl | cons _ _ => cases e
          | cons i is ih =>
            intro ds ρ ρ' e
            cases ds with
            | nil => cases e
            | cons d ds =>
              unfold putAll at e
              cases e1 : putR i (.fr d) ρ with
              | none => rw [e1] at e; cases e
              | some ρ1 => rw [e1] at e; rw [List.length_cons, List.length_cons, ih ds ρ1 ρ' e]
        exact len is ds ρ ρ' e
    | _ => cases e
theorem ds_asg {tg : Expr} {t : Dt → Rho → Option Rho} {is : List Nat} (he : DE X W e f1) (hg : DG X tg is t) (hs : swapsWithSole [tg] e pos.line X.env = pure false := by rfl) (hw : swappedStores [tg] e X.env = pure none := by rfl)
    (h1 : (assignEach [tg] X.env).map (·.2) = [assign tg X.env] := by rfl) : DS X W (.Assign [tg] e pos) (asgS t f1) := fun F => PS.wk (ps_asg (he F) (hg F) hs hw h1) fun D σ H h => by
  refine tD_bindS h fun v H0 H' ρ1 d E hd q => ?_
  obtain ⟨ρ2, e, k⟩ := nxO_post q
  exact ⟨H0, ρ1, d, E, hd, ρ2, e, fun us E' _ => k _ H' E'⟩
end
end DW

set_option Elab.async false
set_option linter.all false
set_option maxRecDepth 100000
set_option maxHeartbeats 4000000
/-! DW9: things that are made: displays, comprehensions; append, d[k] = v, a, b = x, y; what is walked -/
namespace DW
open PySem PySem.Spec PyProof.Rows L2

def toD : Sl → Option Dt
  | .fr d => some d
  | .ol xs => some (.lst xs)
  | .od kvs => some (.dct kvs)
  | .io _ => none
def frzR (f : Rho → R Sl) : Rho → R Dt := fun ρ => (f ρ).bind fun s ρ1 => match toD s with
  | some d => .ok d ρ1
  | none => .bad
def wipeR (ρ : Rho) : List Nat → Rho
  | [] => ρ
  | v :: vs => (wipeR ρ vs).set v none
def okW (vs : List Nat) (ρ : Rho) : Bool := noIo ρ || vs.all (fun v => decide (v ≠ 0))
def lcL (t : Dt → Rho → Option Rho) (c : Rho → R Bool) (e : Rho → R Dt) (vs : List Nat) : List Dt → Rho → R (List Dt)
  | [], ρ => .ok [] ρ
  | x :: xs, ρ => match t x ρ with
    | none => .bad
    | some ρ1 => (c ρ1).bind fun b ρ2 => if b = true then (e ρ2).bind fun d ρ3 => (lcL t c e vs xs (wipeR ρ3 vs)).bind fun ds ρ4 => .ok (d :: ds) ρ4 else lcL t c e vs xs (wipeR ρ2 vs)
def lcO (it : Rho → R (List Dt)) (t : Dt → Rho → Option Rho) (c : Rho → R Bool) (e : Rho → R Dt) (vs : List Nat) : Rho → R Sl := fun ρ => (it ρ).bind fun xs ρ1 =>
  if okW vs ρ1 = true ∧ xs.length ≤ 1000000 then (match lcL t c e vs xs (wipeR ρ1 vs) with
    | .ok ds ρ2 => .ok (.ol ds) ρ2
    | _ => .bad) else .bad
def yesT : Rho → R Bool := fun ρ => .ok true ρ
def dcL (t : Dt → Rho → Option Rho) (c : Rho → R Bool) (ek ev : Rho → R Dt) (vs : List Nat) : List Dt → Rho → List (Key × Dt) → R (List (Key × Dt))
  | [], ρ, acc => .ok acc ρ
  | x :: xs, ρ, acc => match t x ρ with
    | none => .bad
    | some ρ1 => (c ρ1).bind fun b ρ2 => if b = true then (ek ρ2).bind fun k ρ3 => (ev ρ3).bind fun d ρ4 => (match keyD k with
      | some k => dcL t c ek ev vs xs (wipeR ρ4 vs) (putKD acc k d)
      | none => .bad) else dcL t c ek ev vs xs (wipeR ρ2 vs) acc
def dcO (it : Rho → R (List Dt)) (t : Dt → Rho → Option Rho) (c : Rho → R Bool) (ek ev : Rho → R Dt) (vs : List Nat) : Rho → R Sl := fun ρ => (it ρ).bind fun xs ρ1 =>
  if okW vs ρ1 = true ∧ xs.length ≤ 1000000 then (match dcL t c ek ev vs xs (wipeR ρ1 vs) [] with
    | .ok ds ρ2 => .ok (.od ds) ρ2
    | _ => .bad) else .bad

section
variable {K : PySem.W.Frag} {F : Fm} {H0 H H0' H' : Hp} {σ : L2.St} {ρ : Rho} {v : V} {d : Dt} {s : Sl} {i : Nat} {a p : Addr} {o : HO} {g : Gx} {W : WX}
theorem wipe_get : ∀ (vs : List Nat) {i : Nat} {x : V}, (wipe σ vs)[i]? = some (some x) → σ[i]? = some (some x)
  | [], _, _, h => h
  | v :: vs, i, x, h => by
    unfold wipe at h
    rcases set_get h with ⟨_, z⟩ | ⟨_, z⟩
    · cases z
    · exact wipe_get vs z
theorem wipeR_get : ∀ (vs : List Nat) {i : Nat} {x : Sl}, (wipeR ρ vs)[i]? = some (some x) → ρ[i]? = some (some x)
  | [], _, _, h => h
  | v :: vs, i, x, h => by
    unfold wipeR at h
    rcases set_get h with ⟨_, z⟩ | ⟨_, z⟩
    · cases z
    · exact wipeR_get vs z
theorem noIo_iff : noIo ρ = true ↔ ∀ kvs, ρ[0]? ≠ some (some (.io kvs)) := by
  unfold noIo
  split
  · rename_i k e
    exact ⟨fun h => (Bool.false_ne_true h).elim, fun h => (h k e).elim⟩
  · rename_i h
    exact ⟨fun _ k e => h k e, fun _ => rfl⟩
theorem En.setN (E : En K F H0 H σ ρ) (hi : noIo ρ = true ∨ i ≠ 0) : En K F H0 H (σ.set i none) (ρ.set i none) := by
  have get : ∀ {j : Nat} {t : Sl}, (ρ.set i none)[j]? = some (some t) → j ≠ i ∧ ρ[j]? = some (some t) := fun {j t} e => by
    rcases set_get e with ⟨_, z⟩ | ⟨hne, z⟩
    · cases z
    · exact ⟨hne, z⟩
  refine ⟨E.gr, E.tb, E.ex, by rw [List.length_set, List.length_set, E.len], fun j t e => ?_, fun j k t u b hjk e1 e2 o1 o2 h1 h2 => ?_, fun b hb => ?_, fun j kvs e => E.io1 j kvs (get e).2⟩
  · obtain ⟨hne, z⟩ := get e
    obtain ⟨w, h1, h2⟩ := E.sl j t z
    exact ⟨w, by rw [List.getElem?_set_ne (Ne.symm hne)]; exact h1, h2⟩
  · obtain ⟨n1, z1⟩ := get e1
    obtain ⟨n2, z2⟩ := get e2
    rw [List.getElem?_set_ne (Ne.symm n1)] at h1
    rw [List.getElem?_set_ne (Ne.symm n2)] at h2
    exact E.sep j k t u b hjk z1 z2 o1 o2 h1 h2
  · obtain ⟨h1, ⟨kvs, h2⟩, h3⟩ := E.io b hb
    have hi0 : i ≠ 0 := by
      rcases hi with hi | hi
      · exact absurd h2 (noIo_iff.mp hi kvs)
      · exact hi
    exact ⟨by rw [List.getElem?_set_ne hi0]; exact h1, ⟨kvs, by rw [List.getElem?_set_ne hi0]; exact h2⟩, h3⟩
theorem noIo_wipe : ∀ (vs : List Nat), noIo ρ = true → noIo (wipeR ρ vs) = true := fun vs h => noIo_iff.mpr fun kvs e => noIo_iff.mp h kvs (wipeR_get vs e)
theorem En.wipe (E : En K F H0 H σ ρ) : ∀ (vs : List Nat), okW vs ρ = true → En K F H0 H (L2.wipe σ vs) (wipeR ρ vs)
  | [], _ => E
  | v :: vs, h => by
    unfold okW at h
    rw [Bool.or_eq_true] at h
    have h1 : okW vs ρ = true := by
      unfold okW
      rw [Bool.or_eq_true]
      rcases h with h | h
      · exact .inl h
      · rw [List.all_cons, Bool.and_eq_true] at h
        exact .inr h.2
    refine (E.wipe vs h1).setN ?_
    rcases h with h | h
    · exact .inl (noIo_wipe vs h)
    · rw [List.all_cons, Bool.and_eq_true] at h
      exact .inr (of_decide_eq_true h.1)
theorem En.unwipe {vs : List Nat} (E : En K F H0 H (L2.wipe σ vs) ρ) (hl : σ.length = ρ.length) : En K F H0 H σ ρ where
  gr := E.gr
  tb := E.tb
  ex := E.ex
  len := hl
  sl := fun j t e => by
    obtain ⟨w, h1, h2⟩ := E.sl j t e
    exact ⟨w, wipe_get vs h1, h2⟩
  sep := fun j k t u b hjk e1 e2 o1 o2 h1 h2 => by
    obtain ⟨w1, y1, _⟩ := E.sl j t e1
    obtain ⟨w2, y2, _⟩ := E.sl k u e2
    have z1 := wipe_get vs y1
    have z2 := wipe_get vs y2
    rw [h1] at z1
    rw [h2] at z2
    cases z1
    cases z2
    exact E.sep j k t u b hjk e1 e2 o1 o2 y1 y2
  io := fun b hb => by
    obtain ⟨h1, h2, h3⟩ := E.io b hb
    exact ⟨wipe_get vs h1, h2, h3⟩
  io1 := E.io1
theorem own_wipe {vs : List Nat} (o : OwnAt (wipe σ vs) ρ a) : OwnAt σ ρ a := by
  obtain ⟨i, s, h1, h2, h3⟩ := o
  exact ⟨i, s, h1, h2, wipe_get vs h3⟩
theorem own_wipeR {vs : List Nat} (o : OwnAt σ (wipeR ρ vs) a) : OwnAt σ ρ a := by
  obtain ⟨i, s, h1, h2, h3⟩ := o
  exact ⟨i, s, wipeR_get vs h1, h2, h3⟩
theorem wipe_set : ∀ (vs : List Nat) (σ : L2.St) {i : Nat} (x : Option V), i ∈ vs → wipe (σ.set i x) vs = wipe σ vs
  | v :: vs, σ, i, x, h => by
    unfold wipe
    by_cases hv : i = v
    · subst hv
      by_cases hm : i ∈ vs
      · rw [wipe_set vs σ x hm]
      · have : ∀ (us : List Nat) (σ : L2.St), i ∉ us → wipe (σ.set i x) us = (wipe σ us).set i x := by
          intro us
          induction us with
          | nil => intro σ _; rfl
          | cons u us ih =>
            intro σ hu
            unfold wipe
            rw [ih σ (fun z => hu (List.mem_cons_of_mem _ z))]
            have hne : i ≠ u := fun z => hu (by rw [z]; exact List.mem_cons_self)
            exact List.set_comm _ _ hne
        rw [this vs σ hm, List.set_set]
    · rw [wipe_set vs σ x (by rcases List.mem_cons.mp h with z | z; exact absurd z hv; exact z)]
theorem wipe_idem : ∀ (vs us : List Nat) (σ : L2.St), (∀ i ∈ us, i ∈ vs) → wipe (wipe σ us) vs = wipe σ vs
  | vs, [], σ, _ => rfl
  | vs, u :: us, σ, h => by
    show wipe ((wipe σ us).set u none) vs = _
    rw [wipe_set vs _ none (h u List.mem_cons_self), wipe_idem vs us σ fun i hi => h i (List.mem_cons_of_mem _ hi)]
theorem wipe_setAll (vs : List Nat) : ∀ (is : List Nat) (us : List V) (σ : L2.St), (∀ i ∈ is, i ∈ vs) → wipe (setAll is us σ) vs = wipe σ vs
  | [], _, σ, _ => rfl
  | i :: is, [], σ, _ => rfl
  | i :: is, u :: us, σ, h => by
    show wipe (setAll is us (σ.set i (some u))) vs = _
    rw [wipe_setAll vs is us _ fun j hj => h j (List.mem_cons_of_mem _ hj), wipe_set vs σ _ (h i List.mem_cons_self)]
/-- an object beside all is changed -/
theorem En.beside (E : En K F H0 H σ ρ) (h0 : H0 p = none) (hF : F.H p = none) (hn : ¬ OwnAt σ ρ p) (hl : (∃ xs, H p = some (.lst xs)) ∨ (∃ xs, H p = some (.dK xs)) ∨ H p = none) : En K F H0 (upd H p o) σ ρ := by
  have np : ∀ b u, H b = some u → (∀ xs, u ≠ .lst xs) → (∀ xs, u ≠ .dK xs) → b ≠ p := fun b u hb n1 n2 z => by
    rw [z] at hb
    rcases hl with ⟨xs, e⟩ | ⟨xs, e⟩ | e
    · rw [e] at hb; exact n1 xs (Option.some.inj hb).symm
    · rw [e] at hb; exact n2 xs (Option.some.inj hb).symm
    · rw [e] at hb; cases hb
  refine ⟨⟨E.gr.b0, fun b u hb nt hi => ?_, E.gr.off, fun b hb => ?_⟩, tab_away E.tb (fun b u hb n1 n2 => by rw [upd_ne (np b u hb n1 n2)]; exact hb) (fun _ _ h _ _ => h), fun b u hb => ?_, E.len, fun j t e => ?_, E.sep, E.io, E.io1⟩
  · have : b ≠ p := fun z => by rw [z, hF] at hb; cases hb
    rw [upd_ne this]
    exact E.gr.keep b u hb nt hi
  · have nb : b ≠ p := fun z => hb (by rw [z]; exact hF)
    rw [upd_ne nb]
    exact E.gr.st b hb
  · rw [upd_ne (ne_of_none hb h0)]
    exact E.ex b u hb
  · obtain ⟨w, y1, y2⟩ := E.sl j t e
    refine ⟨w, y1, ?_⟩
    cases t with
    | fr d => exact y2
    | ol es =>
      obtain ⟨c, us, rfl, q1, q2, q3, q4⟩ := y2
      have : c ≠ p := fun z => hn ⟨j, _, e, rfl, z ▸ y1⟩
      exact ⟨c, us, rfl, q1, q2, by rw [upd_ne this]; exact q3, q4⟩
    | od es =>
      obtain ⟨c, us, rfl, q1, q2, q3, q4⟩ := y2
      have : c ≠ p := fun z => hn ⟨j, _, e, rfl, z ▸ y1⟩
      exact ⟨c, us, rfl, q1, q2, by rw [upd_ne this]; exact q3, q4⟩
    | io es =>
      obtain ⟨c, us, rfl, q1, q2, q3, q4⟩ := y2
      have : c ≠ p := fun z => hn ⟨j, _, e, rfl, z ▸ y1⟩
      exact ⟨c, us, rfl, q1, q2, by rw [upd_ne this]; exact q3, q4⟩
theorem En.upF (E : En K F H0 H σ ρ) (hp : H p = none) : F.H p = none := by
  cases z : F.H p with
  | none => rfl
  | some o => exact absurd hp (E.still (by rw [z]; exact fun z => nomatch z))
theorem En.up0 (E : En K F H0 H σ ρ) (hp : H p = none) : H0 p = none := by
  cases z : H0 p with
  | none => rfl
  | some o => rw [E.ex p o z] at hp; cases hp
/-- a new thing becomes the base's -/
theorem tO_frz {f : Rho → R Sl} {σ : L2.St} {H : Hp} {Q : VK} (h : tD g F W (frzR f) σ H Q) : tO g F W f σ H Q := by
  obtain ⟨H0, ρ, E, q⟩ := h
  refine ⟨H0, ρ, E, ?_⟩
  unfold frzR at q
  cases e : f ρ with
  | ok s ρ1 =>
    rw [e] at q
    dsimp only [R.bind] at q
    intro v H0' H' E' m hs hfr
    cases s with
    | fr d => exact q v H0' H' E' m hs
    | io d => exact q.elim
    | ol ds =>
      obtain ⟨a, vs, rfl, h1, h2, h3, h4⟩ := hs
      have hn := hfr rfl a rfl
      have no : ¬ OwnAt σ ρ1 a := fun z => E.notOwn hn (m.sub a z)
      have sm : Same H0' (upd H0' a (.lst vs)) := fun b u hb => by rw [upd_ne (ne_of_none hb h1)]; exact hb
      have gr : Gr ⟨H0', H', none⟩ H0' H' := Gr.refl H0' H' none
      have E2 : En g.K F (upd H0' a (.lst vs)) H' σ ρ1 := by
        refine ⟨⟨E'.gr.b0.trans sm, E'.gr.keep, fun b hb h => ?_, E'.gr.st⟩, fun p hp => ⟨by
          have np : p.1 ≠ a := fun z => by
            obtain ⟨_, ps, w2, _⟩ := E'.tb p hp
            rw [z, h3] at w2
            cases w2
          rw [upd_ne np]
          exact (E'.tb p hp).1, (E'.tb p hp).2⟩, fun b u hb => ?_, E'.len, fun j t ej => ?_, E'.sep, E'.io, E'.io1⟩
        · have : b ≠ a := fun z => hb (z ▸ h2)
          rw [upd_ne this]
          exact E'.gr.off b hb h
        · by_cases hba : b = a
          · subst hba; rw [upd_same] at hb; cases hb; exact h3
          · rw [upd_ne hba] at hb; exact E'.ex b u hb
        · obtain ⟨w, y1, y2⟩ := E'.sl j t ej
          refine ⟨w, y1, ?_⟩
          cases t with
          | fr d => exact Da.mono sm y2
          | ol es =>
            obtain ⟨c, us, rfl, q1, q2, q3, q4⟩ := y2
            have : c ≠ a := fun z => no ⟨j, _, ej, rfl, z ▸ y1⟩
            exact ⟨c, us, rfl, by rw [upd_ne this]; exact q1, q2, q3, q4.mono sm⟩
          | od es =>
            obtain ⟨c, us, rfl, q1, q2, q3, q4⟩ := y2
            have : c ≠ a := fun z => no ⟨j, _, ej, rfl, z ▸ y1⟩
            exact ⟨c, us, rfl, by rw [upd_ne this]; exact q1, q2, q3, q4.mono sm⟩
          | io es =>
            obtain ⟨c, us, rfl, q1, q2, q3, q4⟩ := y2
            have : c ≠ a := fun z => no ⟨j, _, ej, rfl, z ▸ y1⟩
            exact ⟨c, us, rfl, by rw [upd_ne this]; exact q1, q2, q3, q4.mono sm⟩
      refine q _ _ H' E2 ⟨m.b0.trans sm, m.keep, fun b hb h hno => ?_, m.sub, m.st⟩ (.lst upd_same (h4.mono sm))
      have : b ≠ a := fun z => hb (z ▸ hn)
      rw [upd_ne this]
      exact m.off b hb h hno
    | od ds =>
      obtain ⟨a, vs, rfl, h1, h2, h3, h4⟩ := hs
      have hn := hfr rfl a rfl
      have no : ¬ OwnAt σ ρ1 a := fun z => E.notOwn hn (m.sub a z)
      have sm : Same H0' (upd H0' a (.dK vs)) := fun b u hb => by rw [upd_ne (ne_of_none hb h1)]; exact hb
      have E2 : En g.K F (upd H0' a (.dK vs)) H' σ ρ1 := by
        refine ⟨⟨E'.gr.b0.trans sm, E'.gr.keep, fun b hb h => ?_, E'.gr.st⟩, fun p hp => ⟨by
          have np : p.1 ≠ a := fun z => by
            obtain ⟨_, ps, w2, _⟩ := E'.tb p hp
            rw [z, h3] at w2
            cases w2
          rw [upd_ne np]
          exact (E'.tb p hp).1, (E'.tb p hp).2⟩, fun b u hb => ?_, E'.len, fun j t ej => ?_, E'.sep, E'.io, E'.io1⟩
        · have : b ≠ a := fun z => hb (z ▸ h2)
          rw [upd_ne this]
          exact E'.gr.off b hb h
        · by_cases hba : b = a
          · subst hba; rw [upd_same] at hb; cases hb; exact h3
          · rw [upd_ne hba] at hb; exact E'.ex b u hb
        · obtain ⟨w, y1, y2⟩ := E'.sl j t ej
          refine ⟨w, y1, ?_⟩
          cases t with
          | fr d => exact Da.mono sm y2
          | ol es =>
            obtain ⟨c, us, rfl, q1, q2, q3, q4⟩ := y2
            have : c ≠ a := fun z => no ⟨j, _, ej, rfl, z ▸ y1⟩
            exact ⟨c, us, rfl, by rw [upd_ne this]; exact q1, q2, q3, q4.mono sm⟩
          | od es =>
            obtain ⟨c, us, rfl, q1, q2, q3, q4⟩ := y2
            have : c ≠ a := fun z => no ⟨j, _, ej, rfl, z ▸ y1⟩
            exact ⟨c, us, rfl, by rw [upd_ne this]; exact q1, q2, q3, q4.mono sm⟩
          | io es =>
            obtain ⟨c, us, rfl, q1, q2, q3, q4⟩ := y2
            have : c ≠ a := fun z => no ⟨j, _, ej, rfl, z ▸ y1⟩
            exact ⟨c, us, rfl, by rw [upd_ne this]; exact q1, q2, q3, q4.mono sm⟩
      refine q _ _ H' E2 ⟨m.b0.trans sm, m.keep, fun b hb h hno => ?_, m.sub, m.st⟩ (.dct upd_same (h4.mono sm))
      have : b ≠ a := fun z => hb (z ▸ hn)
      rw [upd_ne this]
      exact m.off b hb h hno
  | ex x ρ1 =>
    rw [e] at q
    exact q
  | bad =>
    rw [e] at q
    exact q
/-- a new thing, not the base's -/
theorem En.postO {ρ1 : Rho} {B0 B : Hp} (E : En K F H0 H σ ρ1) (m : Mv σ ρ ρ1 B0 B H0 H) (hp : H p = none) : En K F H0 (upd H p o) σ ρ1 ∧ Mv σ ρ ρ1 B0 B H0 (upd H p o) ∧ H0 p = none ∧ F.H p = none ∧ B p = none :=
  ⟨E.grow (gr_newO hp) (same_newO hp E.ex), m.trans (gr_newO hp).mv, E.up0 hp, E.upF hp, m.fresh hp⟩
theorem tLstO_of {f : Rho → R (List Dt)} {σ : L2.St} {H : Hp} {Q : VK} (h : tO g F W (lstO f) σ H Q) : tLst (tDA g F W f) σ H Q := by
  obtain ⟨H0, ρ, E, q⟩ := h
  refine ⟨H0, ρ, E, ?_⟩
  unfold lstO at q
  cases e : f ρ with
  | ok ds ρ1 =>
    rw [e] at q
    dsimp only [R.bind] at q
    intro vs H0' H' E' m hd
    by_cases hl : ds.length ≤ 1000000
    · rw [if_pos hl] at q
      refine ⟨by rw [hd.length]; exact sizeM hl, fun p hp => ?_⟩
      obtain ⟨q1, q2, q3, q4, q5⟩ := E'.postO (o := .lst vs) m hp
      exact q _ _ _ q1 q2 ⟨p, vs, rfl, q3, q4, upd_same, hd⟩ fun _ b z => by cases z; exact q5
    · rw [if_neg hl] at q
      exact q.elim
  | ex x ρ1 =>
    rw [e] at q
    exact q
  | bad =>
    rw [e] at q
    exact q
theorem tDNew_of {σ : L2.St} {H : Hp} {Q : VK} (h : tO g F W dctO0 σ H Q) : tDNewK σ H Q := by
  obtain ⟨H0, ρ, E, q⟩ := h
  intro p hp
  obtain ⟨q1, q2, q3, q4, q5⟩ := E.postO (o := .dK []) Mv.refl hp
  exact q _ _ _ q1 q2 ⟨p, [], rfl, q3, q4, upd_same, .nil⟩ fun _ b z => by cases z; exact q5
theorem tO_fr {f : Rho → R Dt} {σ : L2.St} {H : Hp} {Q : VK} (h : tO g F W (frO f) σ H Q) : tD g F W f σ H Q := by
  obtain ⟨H0, ρ, E, q⟩ := h
  refine ⟨H0, ρ, E, ?_⟩
  unfold frO at q
  cases e : f ρ with
  | ok d ρ1 =>
    rw [e] at q
    exact fun v H0' H' E' m hd => q v H0' H' E' m hd (fun z => nomatch z)
  | ex x ρ1 =>
    rw [e] at q
    exact q
  | bad =>
    rw [e] at q
    exact q
theorem bind_okR {α β : Type} {r : R α} {k : α → Rho → R β} {b : β} {ρ' : Rho} (h : r.bind k = .ok b ρ') : ∃ a ρ1, r = .ok a ρ1 ∧ k a ρ1 = .ok b ρ' := bind_ok h

/-- [e for t in it if c] -/
theorem tLc_of {it : Rho → R (List Dt)} {t : Dt → Rho → Option Rho} {c : Rho → R Bool} {el : Rho → R Dt} {vs is : List Nat} (his : ∀ i ∈ is, i ∈ vs) {σ : L2.St} {H : Hp} {Q : VK} (h : tO g F W (lcO it t c el vs) σ H Q) :
    tLc (tI g F W it) (tG g F is t) (tDT g F WF c) (tD g F WF el) vs σ H Q := by
  obtain ⟨H0, ρ, E, q⟩ := h
  refine ⟨H0, ρ, E, ?_⟩
  unfold lcO at q
  cases e : it ρ with
  | ex x ρ1 =>
    rw [e] at q
    exact q
  | bad =>
    rw [e] at q
    exact q
  | ok xs ρ1 =>
    rw [e] at q
    dsimp only [R.bind] at q
    intro J B0 B E1 m1 hJ D hD
    by_cases hc : okW vs ρ1 = true ∧ xs.length ≤ 1000000
    · rw [if_pos hc] at q
      cases er : lcL t c el vs xs (wipeR ρ1 vs) with
      | ex _ _ => rw [er] at q; exact q.elim
      | bad => rw [er] at q; exact q.elim
      | ok full ρe =>
        rw [er] at q
        dsimp only at q
        obtain ⟨G, Y, wk, hG, hY⟩ := hJ
        have hFD : F.H D = none := E1.upF hD
        have nD : ¬ OwnAt σ ρ1 D := E1.notOwn hD
        have Ew := E1.wipe vs hc.1
        have nDw : ¬ OwnAt (wipe σ vs) (wipeR ρ1 vs) D := fun z => nD (own_wipe (own_wipeR z))
        refine lc_it wk (fun i H => ∃ C0 ρc acc done tl, En g.K F C0 H (wipe σ vs) ρc ∧ Mw σ ρ1 (wipe σ vs) ρc B0 B C0 H ∧ H D = some (.lst acc) ∧ C0 D = none ∧ DaAll g.K C0 acc done ∧ done.length ≤ i ∧
          lcL t c el vs (xs.drop i) ρc = .ok tl ρe ∧ full = done ++ tl) ?_ (fun i H _ ⟨C0, ρc, acc, done, tl, Ec, mc, _⟩ => hG H (mc.b0.trans Ec.ex)) ?_ ?_
        · refine ⟨B0, wipeR ρ1 vs, [], [], full, Ew.beside (E1.up0 hD) hFD nDw (.inr (.inr hD)), ⟨Same.refl _, fun a o h _ _ => ?_, fun _ _ h _ => h, fun a o => own_wipe (own_wipeR o), fun a h => ?_⟩, upd_same, E1.up0 hD, .nil, Nat.le_refl _, by rw [List.drop_zero]; exact er, rfl⟩
          · rw [upd_ne (ne_of_none h hD)]
            exact h
          · have : a ≠ D := fun z => h (z ▸ hD)
            rw [upd_ne this]
            exact h
        · rintro i x H H' hi ⟨C0, ρc, acc, done, tl, Ec, mc, hacc, hC, hdd, hlen, hrun, hfull⟩ y
          obtain ⟨d, hd, hx⟩ := hY i H x H' hi (mc.b0.trans Ec.ex) y
          have nc : ¬ OwnAt (wipe σ vs) ρc D := fun z => nD (mc.sub D z)
          obtain ⟨D0, Ed, md, dd⟩ := item_at Ec mc.b0 hx
          have hacc' : H' D = some (.lst acc) := md.kl D hacc nc
          have hC' : D0 D = none := md.off D (by rw [hacc]; exact fun z => nomatch z) hC nc
          have hdrop : xs.drop i = d :: xs.drop (i + 1) := by
            obtain ⟨hlt, hget⟩ := List.getElem?_eq_some_iff.mp hd
            rw [List.drop_eq_getElem_cons hlt, hget]
          rw [hdrop] at hrun
          unfold lcL at hrun
          cases et : t d ρc with
          | none => rw [et] at hrun; cases hrun
          | some ρ2 =>
            rw [et] at hrun
            dsimp only at hrun
            obtain ⟨b, ρ3, hb, hrun⟩ := bind_ok hrun
            refine ⟨D0, ρc, d, Ed, dd, ρ2, et, fun us E2 ow => ?_⟩
            have hw2 : wipe (setAll is us (wipe σ vs)) vs = wipe σ vs := by rw [wipe_setAll vs is us _ his, wipe_idem vs vs σ fun _ z => z]
            have n2 : ¬ OwnAt (setAll is us (wipe σ vs)) ρ2 D := fun z => nc (ow D z)
            have m2 : Mw (wipe σ vs) ρc (setAll is us (wipe σ vs)) ρ2 D0 H' D0 H' := ⟨Same.refl _, fun _ _ h _ _ => h, fun _ _ h _ => h, fun a o => ow a o, fun _ h => h⟩
            refine ⟨hw2, D0, ρ2, E2, ?_⟩
            rw [hb]
            intro I0 I E3 m3
            have n3 : ¬ OwnAt (setAll is us (wipe σ vs)) ρ3 D := fun z => n2 (m3.sub D z)
            have acc3 : I D = some (.lst acc) := m3.kl D hacc' n2
            have C3 : I0 D = none := m3.off D (by rw [hacc']; exact fun z => nomatch z) hC' n2
            have M3 := (mc.trans md).trans (m2.trans m3)
            have down : ∀ {J0 J : Hp} {ρ4 : Rho}, En g.K F J0 J (setAll is us (wipe σ vs)) ρ4 → Mw σ ρ1 (setAll is us (wipe σ vs)) ρ4 B0 B J0 J → En g.K F J0 J (wipe σ vs) (wipeR ρ4 vs) ∧ Mw σ ρ1 (wipe σ vs) (wipeR ρ4 vs) B0 B J0 J := fun {J0 J ρ4} E4 M4 => by
              have ok4 : okW vs ρ4 = true := by
                have h1 := hc.1
                unfold okW at h1 ⊢
                rw [Bool.or_eq_true] at h1 ⊢
                rcases h1 with h1 | h1
                · left
                  refine noIo_iff.mpr fun kvs ek => ?_
                  obtain ⟨w, y1, a, ks, rfl, z2, z3, z4, z5⟩ := E4.sl 0 _ ek
                  obtain ⟨_, ⟨kv, y2⟩, _⟩ := E1.io a z3
                  exact noIo_iff.mp h1 kv y2
                · exact .inr h1
              have E5 := E4.wipe vs ok4
              rw [hw2] at E5
              refine ⟨E5, M4.b0, M4.keep, M4.off, fun a o => M4.sub a ?_, M4.st⟩
              have o2 := own_wipeR o
              obtain ⟨i, s, y1, y2, y3⟩ := o2
              rw [← hw2] at y3
              exact ⟨i, s, y1, y2, wipe_get vs y3⟩
            cases b with
            | true =>
              rw [if_pos rfl] at hrun ⊢
              obtain ⟨d2, ρ4, hel, hrun⟩ := bind_ok hrun
              obtain ⟨ds, ρ5, hrest, hrun⟩ := bind_ok hrun
              cases hrun
              refine ⟨I0, ρ3, E3, ?_⟩
              rw [hel]
              intro v2 J0 J' E4 m4 dv
              have n4 : ¬ OwnAt (setAll is us (wipe σ vs)) ρ4 D := fun z => n3 (m4.sub D z)
              have acc4 : J' D = some (.lst acc) := m4.kl D acc3 n3
              have C4 : J0 D = none := m4.off D (by rw [acc3]; exact fun z => nomatch z) C3 n3
              obtain ⟨E5, M5⟩ := down E4 (M3.trans m4)
              have n5 : ¬ OwnAt (wipe σ vs) (wipeR ρ4 vs) D := fun z => nD (M5.sub D z)
              have hal : acc.length = done.length := hdd.length
              refine ⟨acc, acc4, Nat.lt_of_le_of_lt (by rw [hal]; exact Nat.le_trans hlen (Nat.le_trans (Nat.le_of_lt hi) hc.2)) (by decide), J0, wipeR ρ4 vs, acc ++ [v2], done ++ [d2], ds, E5.beside C4 hFD n5 (.inl ⟨_, acc4⟩), ⟨M5.b0, fun a o h nt ho => ?_, M5.off, M5.sub, fun a h => ?_⟩, upd_same, C4,
                (((hdd.mono md.b0).mono m3.b0).mono m4.b0).append (.cons dv .nil), by rw [List.length_append]; exact Nat.succ_le_succ hlen, hrest, by rw [hfull, List.append_assoc]; rfl⟩
              · rw [upd_ne (ne_of_none h hD)]
                exact M5.keep a o h nt ho
              · have : a ≠ D := fun z => h (z ▸ hD)
                rw [upd_ne this]
                exact M5.st a h
            | false =>
              rw [if_neg Bool.false_ne_true] at hrun ⊢
              obtain ⟨E5, M5⟩ := down E3 M3
              exact ⟨I0, wipeR ρ3 vs, acc, done, tl, E5, M5, acc3, C3, (hdd.mono md.b0).mono m3.b0, Nat.le_succ_of_le hlen, hrun, hfull⟩
        · rintro H ⟨C0, ρc, acc, done, tl, Ec, mc, hacc, hC, hdd, hlen, hrun, hfull⟩
          rw [List.drop_length] at hrun
          cases hrun
          rw [List.append_nil] at hfull
          subst hfull
          have E6 : En g.K F C0 H σ ρe := Ec.unwipe (by rw [E1.len, ← E1.len, ← wipe_length σ vs, Ec.len])
          refine q _ C0 H E6 (m1.trans ⟨mc.b0, mc.keep, mc.off, fun a o => ?_, mc.st⟩) ⟨D, acc, rfl, hC, hFD, hacc, hdd⟩ fun _ b z => by cases z; exact m1.fresh hD
          obtain ⟨i, s, y1, y2, y3⟩ := o
          obtain ⟨w, z1, _⟩ := Ec.sl i s y1
          have z2 := wipe_get vs z1
          rw [y3] at z2
          cases z2
          exact mc.sub a ⟨i, s, y1, y2, z1⟩
    · rw [if_neg hc] at q
      exact q.elim
end
end DW

set_option Elab.async false
set_option linter.all false
set_option maxRecDepth 100000
set_option maxHeartbeats 4000000
/-! DWA: the text's side of DW9; walks; append, d[k] = v, a, b = x, y -/
namespace DW
open PySem PySem.Spec PyProof.Rows L2

/-! ### what is walked -/
def itD : Dt → Option (List Dt)
  | .lst ds => some ds
  | .tup ds => some ds
  | .scr ns => some (ns.map .int)
  | .str z => some (z.cps.toList.map fun c => .str ⟨#[c]⟩)
  | _ => none
def itF (f : Rho → R Dt) : Rho → R (List Dt) := fun ρ => (f ρ).bind fun d ρ1 => match itD d with
  | some ds => .ok ds ρ1
  | none => .bad
def rngD1 : List Dt → Option (List Dt)
  | [.int n] => if -(2 ^ 62) ≤ n ∧ n < 2 ^ 62 then some ((List.range n.toNat).map fun i => .int (i : Nat)) else none
  | _ => none
def rngD2 : List Dt → Option (List Dt)
  | [.int a, .int b] => if -(2 ^ 62) ≤ a ∧ a < 2 ^ 62 ∧ -(2 ^ 62) ≤ b ∧ b < 2 ^ 62 then some ((List.range (b - a).toNat).map fun i => .int (a + (i : Nat))) else none
  | _ => none
def rngD3 : List Dt → Option (List Dt)
  | [.int a, .int b, .int c] => if 0 < c ∧ c < 2 ^ 29 ∧ -(2 ^ 62) ≤ a ∧ a < 2 ^ 62 ∧ -(2 ^ 62) ≤ b ∧ b < 2 ^ 62 then some ((List.range (if a < b then (b - a - 1) / c + 1 else 0).toNat).map fun i => .int (a + (i : Nat) * c)) else none
  | _ => none
def rngF (gd : List Dt → Option (List Dt)) (f : Rho → R (List Dt)) : Rho → R (List Dt) := fun ρ => (f ρ).bind fun ds ρ1 => match gd ds with
  | some xs => .ok xs ρ1
  | none => .bad
theorem PI.wk {X : Cx} {tg e : Expr} {t u : TI} (h : PI X tg e t) (k : ∀ σ H Q, u σ H Q → t σ H Q) : PI X tg e u := ⟨fun pins s σ H Q I q => h.run pins s σ H Q I (k σ H Q q)⟩
theorem PI.or {X : Cx} {tg e : Expr} {t u : TI} (h : PI X tg e t) (h' : PI X tg e u) : PI X tg e (fun σ H Q => t σ H Q ∨ u σ H Q) := ⟨fun pins s σ H Q I q => by
  rcases q with q | q
  · exact h.run pins s σ H Q I q
  · exact h'.run pins s σ H Q I q⟩
section
variable {g : Gx} {F : Fm} {W : WX} {σ : L2.St} {H : Hp} {K : PySem.W.Frag}
theorem itd_list {H0 : Hp} {a : Addr} {vs : List V} {ds : List Dt} (h1 : H0 a = some (.lst vs)) (h2 : DaAll K H0 vs ds) : ItD K (Itl K a) H0 ds := by
  refine ⟨_, _, by rw [← h2.length]; exact walk_list (K := K) (a := a) (xs := vs), fun H s => SqL.of (s _ _ h1), fun i H x H' hi s y => ?_⟩
  obtain ⟨rfl, hx⟩ := y
  obtain ⟨d, hd, dd⟩ := h2.getV hx
  exact ⟨d, hd, .inl ⟨rfl, dd⟩⟩
theorem itd_tup {H0 : Hp} {a : Addr} {vs : List V} {ds : List Dt} (h1 : SqT K H0 a vs) (h2 : DaAll K H0 vs ds) : ItD K (Itt K a) H0 ds := by
  refine ⟨_, _, by rw [← h2.length]; exact walk_tup (K := K) (a := a) (xs := vs), fun H s => seqT_mono s h1, fun i H x H' hi s y => ?_⟩
  obtain ⟨rfl, hx⟩ := y
  obtain ⟨d, hd, dd⟩ := h2.getV hx
  exact ⟨d, hd, .inl ⟨rfl, dd⟩⟩
theorem itd_scr {H0 : Hp} {a : Addr} {ns : List Int} (h1 : SqL K H0 a (ns.map V.int)) : ItD K (Itl K a) H0 (ns.map .int) := by
  refine ⟨_, _, by rw [List.length_map, ← List.length_map (f := V.int) (as := ns)]; exact walk_list (K := K) (a := a) (xs := ns.map V.int), fun H s => seqL_mono s h1, fun i H x H' hi s y => ?_⟩
  obtain ⟨rfl, hx⟩ := y
  obtain ⟨d, hd, dd⟩ := (daInts (K := K) (H := H0) ns).getV hx
  exact ⟨d, hd, .inl ⟨rfl, dd⟩⟩
theorem itd_str {H0 : Hp} {z : Str} : ItD K (Its z) H0 (z.cps.toList.map fun c => .str ⟨#[c]⟩) := by
  refine ⟨_, _, by rw [List.length_map]; exact walk_str (z := z), fun H s => trivial, fun i H x H' hi s y => ?_⟩
  obtain ⟨rfl, c, hc, rfl⟩ := y
  refine ⟨.str ⟨#[c]⟩, ?_, .inl ⟨rfl, .str _⟩⟩
  rw [List.getElem?_map, Array.getElem?_toList, hc]
  rfl
theorem itd_rng {H0 : Hp} (lo : Int) (n : Nat) : ItD K (Itr lo n) H0 ((List.range n).map fun i => .int (lo + (i : Nat))) := by
  refine ⟨_, _, by rw [List.length_map, List.length_range]; exact walk_range (lo := lo) (n := n), fun H s => trivial, fun i H x H' hi s y => ?_⟩
  rw [List.length_map, List.length_range] at hi
  obtain ⟨rfl, rfl⟩ := y
  refine ⟨.int (lo + i), ?_, .inl ⟨rfl, .int _⟩⟩
  rw [List.getElem?_map, List.getElem?_range hi]
  rfl
theorem itd_rngC {H0 : Hp} (lo c : Int) (n : Nat) : ItD K (Itc lo c n) H0 ((List.range n).map fun i => .int (lo + (i : Nat) * c)) := by
  refine ⟨_, _, by rw [List.length_map, List.length_range]; exact walk_rangeC (lo := lo) (c := c) (n := n), fun H s => trivial, fun i H x H' hi s y => ?_⟩
  rw [List.length_map, List.length_range] at hi
  obtain ⟨rfl, rfl⟩ := y
  refine ⟨.int (lo + i * c), ?_, .inl ⟨rfl, .int _⟩⟩
  rw [List.getElem?_map, List.getElem?_range hi]
  rfl
def iAll (K : PySem.W.Frag) (t : TE) : TI := fun σ H R => iList K t σ H R ∨ iTup K t σ H R ∨ iStr t σ H R
theorem iAll_of {f : Rho → R Dt} {Rk : It → Hp → Prop} (h : tI g F W (itF f) σ H Rk) : iAll g.K (tD g F W f) σ H Rk := by
  obtain ⟨H0, ρ, E, q⟩ := h
  unfold itF at q
  cases e : f ρ with
  | ok d ρ1 =>
    rw [e] at q
    dsimp only [R.bind] at q
    cases d with
    | lst ds =>
      refine .inl ⟨H0, ρ, E, ?_⟩
      rw [e]
      intro v H0' H' E' m hd
      cases hd with
      | lst h1 h2 => exact ⟨_, rfl, ⟨_, SqL.of (E'.ex _ _ h1)⟩, q _ H0' H' E' m (itd_list h1 h2)⟩
    | scr ds =>
      refine .inl ⟨H0, ρ, E, ?_⟩
      rw [e]
      intro v H0' H' E' m hd
      cases hd with
      | scr h1 => exact ⟨_, rfl, ⟨_, seqL_mono E'.ex h1⟩, q _ H0' H' E' m (itd_scr h1)⟩
    | tup ds =>
      refine .inr (.inl ⟨H0, ρ, E, ?_⟩)
      rw [e]
      intro v H0' H' E' m hd
      cases hd with
      | tup h1 h2 => exact ⟨_, rfl, ⟨_, seqT_mono E'.ex h1⟩, q _ H0' H' E' m (itd_tup h1 h2)⟩
    | str z =>
      refine .inr (.inr ⟨H0, ρ, E, ?_⟩)
      rw [e]
      intro v H0' H' E' m hd
      cases hd
      exact ⟨z, rfl, q _ H0' H' E' m itd_str⟩
    | _ => exact q.elim
  | ex x ρ1 =>
    rw [e] at q
    refine .inl ⟨H0, ρ, E, ?_⟩
    rw [e]
    exact q
  | bad =>
    rw [e] at q
    exact q.elim
theorem rng_small {a b c : Int} (h : 0 < c ∧ c < 2 ^ 29 ∧ -(2 ^ 62) ≤ a ∧ a < 2 ^ 62 ∧ -(2 ^ 62) ≤ b ∧ b < 2 ^ 62) : RgC a b c (if a < b then (b - a - 1) / c + 1 else 0).toNat := by
  obtain ⟨h1, h2, h3, h4, h5, h6⟩ := h
  refine ⟨by omega, by omega, ?_, ?_⟩
  · have hs : Builtin.Range.rangeSize a b c = (if a < b then (b - a - 1) / c + 1 else 0) := by
      unfold Builtin.Range.rangeSize
      rw [if_pos h1]
    have hq : a < b → 0 ≤ (b - a - 1) / c ∧ (b - a - 1) / c ≤ b - a - 1 := fun hab => ⟨Int.ediv_nonneg (by omega) (by omega), Int.ediv_le_self _ (by omega)⟩
    unfold Builtin.Range.small
    rw [hs]
    simp only [Builtin.Range.rangeFitsLong, Bool.and_eq_true, Bool.or_eq_true, decide_eq_true_eq, beq_iff_eq, gt_iff_lt, h1, if_true]
    split
    · rename_i hab
      obtain ⟨q1, q2⟩ := hq hab
      omega
    · omega
  · unfold Builtin.Range.rangeSize
    rw [if_pos h1]
    split
    · have : 0 ≤ (b - a - 1) / c := Int.ediv_nonneg (by omega) (by omega)
      omega
    · rfl
theorem iRng1_of {f : Rho → R (List Dt)} {Rk : It → Hp → Prop} (h : tI g F W (rngF rngD1 f) σ H Rk) : iRng1 (tDA g F W f) σ H Rk := by
  obtain ⟨H0, ρ, E, q⟩ := h
  refine ⟨H0, ρ, E, ?_⟩
  unfold rngF at q
  cases e : f ρ with
  | ok ds ρ1 =>
    rw [e] at q
    dsimp only [R.bind] at q
    intro vs H0' H' E' m hd
    cases e2 : rngD1 ds with
    | none => rw [e2] at q; exact q.elim
    | some xs =>
      rw [e2] at q
      unfold rngD1 at e2
      split at e2
      · split at e2
        · rename_i n hb
          cases e2
          have : vs = [V.int n] := hd.ints (ns := [n])
          refine ⟨n, this, hb.1, hb.2, q _ H0' H' E' m ?_⟩
          have z := itd_rng (K := g.K) (H0 := H0') 0 n.toNat
          simpa using z
        · cases e2
      · cases e2
  | ex x ρ1 =>
    rw [e] at q
    exact q
  | bad =>
    rw [e] at q
    exact q
theorem iRng2_of {f : Rho → R (List Dt)} {Rk : It → Hp → Prop} (h : tI g F W (rngF rngD2 f) σ H Rk) : iRng2 (tDA g F W f) σ H Rk := by
  obtain ⟨H0, ρ, E, q⟩ := h
  refine ⟨H0, ρ, E, ?_⟩
  unfold rngF at q
  cases e : f ρ with
  | ok ds ρ1 =>
    rw [e] at q
    dsimp only [R.bind] at q
    intro vs H0' H' E' m hd
    cases e2 : rngD2 ds with
    | none => rw [e2] at q; exact q.elim
    | some xs =>
      rw [e2] at q
      unfold rngD2 at e2
      split at e2
      · split at e2
        · rename_i a b hb
          cases e2
          have : vs = [V.int a, V.int b] := hd.ints (ns := [a, b])
          exact ⟨a, b, this, hb, q _ H0' H' E' m (itd_rng _ _)⟩
        · cases e2
      · cases e2
  | ex x ρ1 =>
    rw [e] at q
    exact q
  | bad =>
    rw [e] at q
    exact q
theorem iRng3_of {f : Rho → R (List Dt)} {Rk : It → Hp → Prop} (h : tI g F W (rngF rngD3 f) σ H Rk) : iRng3 (tDA g F W f) σ H Rk := by
  obtain ⟨H0, ρ, E, q⟩ := h
  refine ⟨H0, ρ, E, ?_⟩
  unfold rngF at q
  cases e : f ρ with
  | ok ds ρ1 =>
    rw [e] at q
    dsimp only [R.bind] at q
    intro vs H0' H' E' m hd
    cases e2 : rngD3 ds with
    | none => rw [e2] at q; exact q.elim
    | some xs =>
      rw [e2] at q
      unfold rngD3 at e2
      split at e2
      · split at e2
        · rename_i a b c hb
          cases e2
          have : vs = [V.int a, V.int b, V.int c] := hd.ints (ns := [a, b, c])
          exact ⟨a, b, c, _, this, rng_small hb, q _ H0' H' E' m (itd_rngC _ _ _)⟩
        · cases e2
      · cases e2
  | ex x ρ1 =>
    rw [e] at q
    exact q
  | bad =>
    rw [e] at q
    exact q
end
end DW

set_option Elab.async false
set_option linter.all false
set_option maxRecDepth 100000
set_option maxHeartbeats 4000000
/-! DWB: rules: made things, walks, append, stores, methods -/
namespace DW
open PySem PySem.Spec PyProof.Rows L2

section
variable {X : Cx} {W : WX} {a b c e : Expr} {es : List Expr} {pos p p2 p3 : Pos} {f1 f2 f3 : Rho → R Dt} {fa : Rho → R (List Dt)} {fo : Rho → R Sl}
theorem do_lst (h : DA X W es fa) : DO X W (.List es pos) (lstO fa) := fun F => PE.wk (pe_lst (h F)) fun _ _ _ q => tLstO_of q
theorem do_dct0 : DO X W (.Dict [] [] pos) dctO0 := fun F => PE.wk pe_dnewK fun _ _ _ q => tDNew_of q
theorem do_fr (h : DE X W e f1) : DO X W e (frO f1) := fun F => PE.wk (h F) fun _ _ _ q => tO_fr q
theorem de_do (h : DO X W e fo) : DE X W e (frzR fo) := fun F => PE.wk (h F) fun _ _ _ q => tO_frz q
/-! ### walks -/
theorem di_all {tg : Expr} (h : DE X W e f1) : DI X W tg e (itF f1) := fun F => PI.wk (PI.or (pi_list (h F)) (PI.or (pi_tup (h F)) (pi_str (h F)))) fun _ _ _ q => iAll_of q
theorem di_range1 {tg : Expr} (hg : Gl X "range") (hm : X.mg "range" = none) (h : DA X W [a] fa) (hs : starEach [a] X.env = [(false, eval a X.env)] := by rfl) : DI X W tg (.Call (.Name "range" p) [a] [] pos) (rngF rngD1 fa) := fun F => PI.wk (pi_range1 hg hm (h F) hs) fun _ _ _ q => iRng1_of q
theorem di_range2 {tg : Expr} (hg : Gl X "range") (hm : X.mg "range" = none) (h : DA X W [a, b] fa) (hs : starEach [a, b] X.env = [(false, eval a X.env), (false, eval b X.env)] := by rfl) (hs2 : starEach [b] X.env = [(false, eval b X.env)] := by rfl) : DI X W tg (.Call (.Name "range" p) [a, b] [] pos) (rngF rngD2 fa) := fun F => PI.wk (pi_range2 hg hm (h F) hs hs2) fun _ _ _ q => iRng2_of q
theorem di_range3 {tg : Expr} (hg : Gl X "range") (hm : X.mg "range" = none) (h : DA X W [a, b, c] fa) (hs : starEach [a, b, c] X.env = (false, eval a X.env) :: starEach [b, c] X.env := by rfl) (hpl : (backTo pos (starEach [b, c] X.env)).any (·.1) = false := by rfl) : DI X W tg (.Call (.Name "range" p) [a, b, c] [] pos) (rngF rngD3 fa) := fun F => PI.wk (pi_range3 hg hm (h F) hs hpl) fun _ _ _ q => iRng3_of q
/-! ### tests of comprehensions -/
def DTs (X : Cx) (W : WX) (ifs : List Expr) (f : Rho → R Bool) : Prop := ∀ F, PTs X ifs (tDT (gx X) F W f)
theorem PTs.wk {ifs : List Expr} {t u : TT} (h : PTs X ifs t) (k : ∀ σ H Q, u σ H Q → t σ H Q) : PTs X ifs u := ⟨fun pins s σ H Q I q => h.run pins s σ H Q I (k σ H Q q)⟩
theorem dts_nil : DTs X W [] yesT := fun F => PTs.wk pts_nil fun σ H Q ⟨H0, ρ, E, q⟩ => q H0 H E Mv.refl
theorem dts_one {t1 : Rho → R Bool} (h : DT X W c t1) : DTs X W [c] t1 := fun F => pts_one (h F)
abbrev blkX (X : Cx) (scope : Scope) (s : Shared) (H : Hp) (C : Addr) (cl : List (Str × Addr)) (fp : List Addr) : Cx := X.blk s H scope (compEnvC scope cl C X.env) fp
theorem do_lc {elt tg iter : Expr} {ifs : List Expr} {scope : Scope} {own : List (Str × Nat)} {it : Rho → R (List Dt)} {t : Dt → Rho → Option Rho} {ct : Rho → R Bool} {el : Rho → R Dt} {is : List Nat} (hc : X.calm = true) (hN : X.N.Nodup) (hi : DI X W tg iter it) (ok : BlkOk X.N X.env.scope scope own)
    (hg : ∀ s H C cl fp, DG (blkX X scope s H C cl fp) tg is t) (ht : ∀ s H C cl fp, DTs (blkX X scope s H C cl fp) WF ifs ct) (he : ∀ s H C cl fp, DE (blkX X scope s H C cl fp) WF elt el) (his : ∀ i ∈ is, i ∈ own.map (·.2))
    (hs : ∀ x, foldedSetIterable iter X.env x = pure x := by intro _; rfl) : DO X W (.ListComp elt [⟨tg, iter, ifs, 0⟩] scope pos) (lcO it t ct el (own.map (·.2))) :=
  fun F => PE.wk (pe_lc hc hN (hi F) ok (fun s H C cl fp => hg s H C cl fp F) (fun s H C cl fp => ht s H C cl fp F) (fun s H C cl fp => he s H C cl fp F) hs) fun _ _ _ q => tLc_of his q
theorem ds_setLc (i : Nat) {y : Str} {py spos : Pos} {elt tg iter : Expr} {ifs : List Expr} {scope : Scope} {own : List (Str × Nat)} {it : Rho → R (List Dt)} {t : Dt → Rho → Option Rho} {ct : Rho → R Bool} {el : Rho → R Dt} {is : List Nat} (hc : X.calm = true) (hN : X.N.Nodup)
    (hsw : swapsWith (.ListComp elt [⟨tg, iter, ifs, 0⟩] scope pos) (some (.Name y py)) spos.line X.env = pure true) (hi : DI X W tg iter it) (ok : BlkOk X.N X.env.scope scope own)
    (hg : ∀ s H C cl fp, DG (blkX X scope s H C cl fp) tg is t) (ht : ∀ s H C cl fp, DTs (blkX X scope s H C cl fp) WF ifs ct) (he : ∀ s H C cl fp, DE (blkX X scope s H C cl fp) WF elt el) (his : ∀ i ∈ is, i ∈ own.map (·.2))
    (hy : X.N[i]? = some y := by rfl) (hyl : X.env.scope.names.lookup y = some .local := by rfl)
    (hs : ∀ x, foldedSetIterable iter X.env x = pure x := by intro _; rfl) : DS X W (.Assign [.Name y py] (.ListComp elt [⟨tg, iter, ifs, 0⟩] scope pos) spos) (setS i (frzR (lcO it t ct el (own.map (·.2))))) :=
  fun F => PS.wk (ps_setLc hc hN hy hyl hsw (hi F) ok (fun s H C cl fp => hg s H C cl fp F) (fun s H C cl fp => ht s H C cl fp F) (fun s H C cl fp => he s H C cl fp F) hs) fun D σ H h => by
    have h2 : tD (gx X) F W (frzR (lcO it t ct el (own.map (·.2)))) σ H (fun x H1 => gName i x σ H1 D.nx) := by
      refine tD_bindS h fun v H0 H' ρ1 d E hd q => ?_
      obtain ⟨ρ2, e, k⟩ := nxO_post q
      exact k _ H' (E.putFr hd e)
    exact tLc_of his (tO_frz h2)
theorem ds_setLcO (i : Nat) {y : Str} {py spos : Pos} {elt tg iter : Expr} {ifs : List Expr} {scope : Scope} {own : List (Str × Nat)} {it : Rho → R (List Dt)} {t : Dt → Rho → Option Rho} {ct : Rho → R Bool} {el : Rho → R Dt} {is : List Nat} (hc : X.calm = true) (hN : X.N.Nodup)
    (hsw : swapsWith (.ListComp elt [⟨tg, iter, ifs, 0⟩] scope pos) (some (.Name y py)) spos.line X.env = pure true) (hi : DI X W tg iter it) (ok : BlkOk X.N X.env.scope scope own)
    (hg : ∀ s H C cl fp, DG (blkX X scope s H C cl fp) tg is t) (ht : ∀ s H C cl fp, DTs (blkX X scope s H C cl fp) WF ifs ct) (he : ∀ s H C cl fp, DE (blkX X scope s H C cl fp) WF elt el) (his : ∀ i ∈ is, i ∈ own.map (·.2))
    (hy : X.N[i]? = some y := by rfl) (hyl : X.env.scope.names.lookup y = some .local := by rfl)
    (hs : ∀ x, foldedSetIterable iter X.env x = pure x := by intro _; rfl) : DS X W (.Assign [.Name y py] (.ListComp elt [⟨tg, iter, ifs, 0⟩] scope pos) spos) (setOS i (lcO it t ct el (own.map (·.2)))) :=
  fun F => PS.wk (ps_setLc hc hN hy hyl hsw (hi F) ok (fun s H C cl fp => hg s H C cl fp F) (fun s H C cl fp => ht s H C cl fp F) (fun s H C cl fp => he s H C cl fp F) hs) fun D σ H h => by
    refine tLc_of his (tO_bindS h fun v H0 H' ρ1 s E hd ho q => ?_)
    cases s with
    | io _ => exact q.elim
    | fr d =>
      obtain ⟨ρ2, e, k⟩ := nxO_post q
      exact k _ H' (E.put hd (fun _ z => nomatch z) ho e)
    | ol d =>
      obtain ⟨ρ2, e, k⟩ := nxO_post q
      exact k _ H' (E.put hd (fun _ z => nomatch z) ho e)
    | od d =>
      obtain ⟨ρ2, e, k⟩ := nxO_post q
      exact k _ H' (E.put hd (fun _ z => nomatch z) ho e)

/-! ### x.append(e) -/
theorem ds_app (i : Nat) {x : Str} {apos cpos spos : Pos} (hx : PE X (.Name x p) (tVar i)) (he : DE X W e f1) (hbase : attributeBase (.Name x p) "append" X.env (eval (.Name x p) X.env) = eval (.Name x p) X.env := by rfl)
    (hfew : ((backTo cpos (starEach (e :: []) X.env)).all (fun x => !x.1) && (backToKw cpos (keywordEach [] X.env)).all (fun x => x.1.isSome)
      && decide ((e :: ([] : List Expr)).length + ([] : List Keyword).length + (if ([] : List Keyword).isEmpty then 0 else 1) < 30)) = true := by rfl)
    (hline : (apos.endLine == cpos.line) = true := by rfl) (hs : starEach (e :: []) X.env = (false, eval e X.env) :: starEach [] X.env := by rfl) (hplain : (backTo cpos (starEach [] X.env)).any (·.1) = false := by rfl)
    (hsw : swapsWith (.Call (.Attribute (.Name x p) "append" apos) [e] [] cpos) none spos.line X.env = pure false := by rfl) :
    DS X W (.Expr (.Call (.Attribute (.Name x p) "append" apos) [e] [] cpos) spos) (appS i f1) :=
  fun F => PS.wk (ps_expr (pe_bm PySem.F.plainAttrs_list PySem.F.slot_list_append PySem.F.type_list_append mt_append hx (pa_cons (he F) pa_nil hs) hbase hfew hline hs hplain) hsw) fun D σ H ⟨H0, ρ, E, q⟩ => by
    unfold appS at q
    cases e0 : lAt i ρ with
    | none => rw [e0] at q; exact q.elim
    | some xs0 =>
      rw [e0] at q
      dsimp only at q
      have at_ : ∀ {H0 H : Hp} {ρ : Rho} {xs : List Dt}, En X.K F H0 H σ ρ → lAt i ρ = some xs → ∃ a vs, σ[i]? = some (some (.ref a)) ∧ H a = some (.lst vs) ∧ DaAll X.K H0 vs xs ∧ ρ[i]? = some (some (.ol xs)) := fun {H0 H ρ xs} E h => by
        unfold lAt at h
        split at h
        · rename_i e
          cases h
          obtain ⟨v, h1, a, vs, rfl, h2, h3, h4, h5⟩ := E.sl i _ e
          exact ⟨a, vs, h1, h4, h5, e⟩
        · cases h
      obtain ⟨a, vs, ha, hv, _⟩ := at_ E e0
      refine ⟨.ref a, ha, .inl ⟨rfl, _, SqL.of hv⟩, H0, ρ, E, ?_⟩
      cases e1 : f1 ρ with
      | ok d ρ1 =>
        rw [e1] at q
        dsimp only [R.bindS] at q
        intro v H0' H' E' m hd
        cases e2 : lAt i ρ1 with
        | none => rw [e2] at q; exact q.elim
        | some xs =>
          rw [e2] at q
          dsimp only at q
          obtain ⟨a', vs', ha', hv', hd', hi'⟩ := at_ E' e2
          rw [ha] at ha'
          cases ha'
          split at q
          · rename_i hl
            refine ⟨a, vs', v, rfl, rfl, hv', by rw [hd'.length]; exact Nat.lt_of_lt_of_le hl (by decide), ?_⟩
            exact q σ H0' _ (E'.mutL hi' ha (hd'.append (.cons hd .nil))) m.b0
          · exact q.elim
      | ex x ρ1 => rw [e1] at q; exact q σ
      | bad => rw [e1] at q; exact q
/-! ### d[k] = v -/
theorem ds_dput (i : Nat) {x : Str} {k v : Expr} {spos : Pos} {fk fv : Rho → R Dt} (hu : X.A.units + 1 < cLine) (hx : PE X (.Name x p) (tVar i)) (hk : DE X W k fk) (hv : DE X W v fv) (hs : swapsWith v (some (.Subscript (.Name x p) k p2)) spos.line X.env = pure false := by rfl) :
    DS X W (.Assign [.Subscript (.Name x p) k p2] v spos) (dputS i fk fv) := fun F => PS.wk (ps_dput hu hx (hk F) (hv F) hs) fun D σ H h => by
  refine tD_bindS h fun v H0 H' ρ1 d E hd q => ?_
  cases e0 : dAt i ρ1 with
  | none => rw [e0] at q; exact q.elim
  | some kvs0 =>
    rw [e0] at q
    dsimp only at q
    obtain ⟨a, ks0, ha, _⟩ := dAt_put E e0
    refine ⟨.ref a, ha, H0, ρ1, E, ?_⟩
    cases e1 : fk ρ1 with
    | ok kd ρ2 =>
      rw [e1] at q
      dsimp only [R.bindS] at q
      intro y B0 B E2 m2 dy
      cases ek : keyD kd with
      | none => rw [ek] at q; exact q.elim
      | some key =>
        cases e2 : dAt i ρ2 with
        | none => rw [ek, e2] at q; exact q.elim
        | some kvs =>
          rw [ek, e2] at q
          dsimp only at q
          obtain ⟨a', ks, ha', h0, hH, hkv, own, put⟩ := dAt_put E2 e2
          rw [ha] at ha'
          cases ha'
          split at q
          · rename_i hl
            have hy : y = kV key := keyD_V (H := B) (Da.pk E2.ex dy) ek
            refine ⟨a, upd B a (.dK (putK ks key v)), rfl, ?_, q σ B0 _ (put (putK ks key v) _ B0 _ (gw_upd hH) (tb_upd E2.tb hH) ?_ upd_same (hkv.put (hd.mono m2.b0))).1 m2.b0⟩
            · rw [hy]
              exact DPut.k hH (by rw [hkv.length]; exact Nat.lt_of_lt_of_le hl (by decide))
            · intro b o hb
              rw [upd_ne (ne_of_none hb h0)]
              exact E2.ex b o hb
          · exact q.elim
    | ex x ρ1 => rw [e1] at q; exact q σ
    | bad => rw [e1] at q; exact q
end
end DW

set_option Elab.async false
set_option linter.all false
set_option maxRecDepth 100000
set_option maxHeartbeats 4000000
/-! DWC: a, b = x, y; dict comprehensions; methods of dicts and lists; sorted; ranges as lists -/
namespace DW
open PySem PySem.Spec PyProof.Rows L2

/-! ### a, b = x, y -/
def SlAll (K : PySem.W.Frag) (F : Fm) (B H0 H : Hp) : List V → List Sl → Prop
  | [], [] => True
  | v :: vs, s :: ss => SlR K F H0 H v s ∧ (∀ k, s ≠ .io k) ∧ (s.own = true → ∀ a, v = .ref a → B a = none ∧ ∀ w ∈ vs, w ≠ v ∨ ∀ (i : Nat) (t : Sl), vs[i]? = some w → ss[i]? = some t → t.own = false) ∧ SlAll K F B H0 H vs ss
  | _, _ => False
def notIo : Sl → Bool
  | .io _ => false
  | _ => true
def argsP : List (Rho → R Sl) → Rho → R (List Sl)
  | [], ρ => .ok [] ρ
  | f :: fs, ρ => (f ρ).bind fun s ρ1 => if notIo s = true then (argsP fs ρ1).bind fun ss ρ2 => .ok (s :: ss) ρ2 else .bad
def putP : List Nat → List Sl → Rho → Option Rho
  | [], [], ρ => some ρ
  | i :: is, s :: ss, ρ => match putR i s ρ with
    | some ρ1 => putP is ss ρ1
    | none => none
  | _, _, _ => none
def parP (is : List Nat) (fs : List (Rho → R Sl)) : Rho → SR := fun ρ => (argsP fs ρ).bindS fun ss ρ1 => nxO (putP is ss ρ1)
theorem SlR.mv {K : PySem.W.Frag} {F : Fm} {H0 H H0' H' : Hp} {σ : L2.St} {ρ ρ' : Rho} {v : V} {s : Sl} (h : SlR K F H0 H v s) (hn : s.own = true → ∀ a, v = .ref a → ¬ OwnAt σ ρ a) (hio : ∀ k, s ≠ .io k) (m : Mv σ ρ ρ' H0 H H0' H') : SlR K F H0' H' v s := by
  cases s with
  | fr d => exact Da.mono m.b0 h
  | ol ds =>
    obtain ⟨a, vs, rfl, h1, h2, h3, h4⟩ := h
    exact ⟨a, vs, rfl, m.off a (by rw [h3]; exact fun z => nomatch z) h1 (hn rfl a rfl), h2, m.kl a h3 (hn rfl a rfl), h4.mono m.b0⟩
  | od ds =>
    obtain ⟨a, vs, rfl, h1, h2, h3, h4⟩ := h
    exact ⟨a, vs, rfl, m.off a (by rw [h3]; exact fun z => nomatch z) h1 (hn rfl a rfl), h2, m.kd a h3 (hn rfl a rfl), h4.mono m.b0⟩
  | io k => exact absurd rfl (hio k)
theorem own_addr {K : PySem.W.Frag} {F : Fm} {H0 H : Hp} {v : V} {s : Sl} (h : SlR K F H0 H v s) (ho : s.own = true) : ∃ a, v = .ref a ∧ H a ≠ none := by
  cases s with
  | fr d => cases ho
  | ol ds => obtain ⟨a, vs, rfl, h1, h2, h3, h4⟩ := h; exact ⟨a, rfl, by rw [h3]; exact fun z => nomatch z⟩
  | od ds => obtain ⟨a, vs, rfl, h1, h2, h3, h4⟩ := h; exact ⟨a, rfl, by rw [h3]; exact fun z => nomatch z⟩
  | io k => cases ho
def tP (g : Gx) (F : Fm) (W : WX) (fs : List (Rho → R Sl)) : TA := fun σ H Q => ∃ H0 ρ, En g.K F H0 H σ ρ ∧ match argsP fs ρ with
  | .ok ss ρ' => ∀ vs H0' H', En g.K F H0' H' σ ρ' → Mv σ ρ ρ' H0 H H0' H' → vs.length = ss.length → (∀ (i : Nat) v s, vs[i]? = some v → ss[i]? = some s → SlR g.K F H0' H' v s ∧ (∀ k, s ≠ .io k) ∧ (s.own = true → ∀ a, v = .ref a → H a = none)) →
      (∀ (i j : Nat) v s t, i ≠ j → vs[i]? = some v → vs[j]? = some v → ss[i]? = some s → ss[j]? = some t → s.own = true → t.own = true → False) → Q vs H'
  | .ex e ρ' => XW g F W σ e ρ'
  | .bad => False
section
variable {g : Gx} {F : Fm} {W : WX} {σ : L2.St} {H : Hp}
theorem tP_nil {Q : List V → Hp → Prop} (h : tP g F W [] σ H Q) : tNil σ H Q := by
  obtain ⟨H0, ρ, E, q⟩ := h
  exact q [] H0 H E Mv.refl rfl (fun i v s z => by simp at z) (fun i j v s t _ z => by simp at z)
theorem tP_cons {f : Rho → R Sl} {fs : List (Rho → R Sl)} {Q : List V → Hp → Prop} (h : tP g F W (f :: fs) σ H Q) : tCons (tO g F W f) (tP g F W fs) σ H Q := by
  obtain ⟨H0, ρ, E, q⟩ := h
  refine ⟨H0, ρ, E, ?_⟩
  unfold argsP at q
  cases e : f ρ with
  | ok s ρ1 =>
    rw [e] at q
    dsimp only [R.bind] at q
    intro v H0' H' E' m hs hfr
    by_cases hio : notIo s = true
    · rw [if_pos hio] at q
      have hio' : ∀ k, s ≠ .io k := fun k z => by rw [z] at hio; cases hio
      refine ⟨H0', ρ1, E', ?_⟩
      cases e2 : argsP fs ρ1 with
      | ok ss ρ2 =>
        rw [e2] at q
        intro vs C0 C E2 m2 hl hall hdis
        have hno : s.own = true → ∀ a, v = .ref a → ¬ OwnAt σ ρ1 a := fun ho a ea z => E.notOwn (hfr ho a ea) (m.sub a z)
        have hs2 := hs.mv hno hio' m2
        refine q (v :: vs) C0 C E2 (m.trans m2) (by rw [List.length_cons, List.length_cons, hl]) (fun i w t hw ht => ?_) (fun i j w t u hij hw hw' ht hu o1 o2 => ?_)
        · cases i with
          | zero =>
            simp at hw ht
            subst hw ht
            exact ⟨hs2, hio', hfr⟩
          | succ i =>
            obtain ⟨q1, q2, q3⟩ := hall i w t (by simpa using hw) (by simpa using ht)
            exact ⟨q1, q2, fun o a ea => m.fresh (q3 o a ea)⟩
        · have cross : ∀ (k : Nat) (w : V) (u : Sl), vs[k]? = some w → ss[k]? = some u → u.own = true → s.own = true → w = v → False := fun k w u hw hu o2 o1 ev => by
            obtain ⟨_, _, q3⟩ := hall k w u hw hu
            obtain ⟨a, ea, hne⟩ := own_addr hs o1
            exact hne (q3 o2 a (ev.trans ea))
          cases i with
          | zero =>
            cases j with
            | zero => exact hij rfl
            | succ j =>
              simp at hw ht
              subst hw ht
              exact cross j _ u (by simpa using hw') (by simpa using hu) o2 o1 rfl
          | succ i =>
            cases j with
            | zero =>
              simp at hw' hu
              subst hw' hu
              exact cross i _ t (by simpa using hw) (by simpa using ht) o1 o2 rfl
            | succ j => exact hdis i j w t u (fun z => hij (by rw [z])) (by simpa using hw) (by simpa using hw') (by simpa using ht) (by simpa using hu) o1 o2
      | ex x ρ1 => rw [e2] at q; exact q
      | bad => rw [e2] at q; exact q
    · rw [if_neg hio] at q
      exact q.elim
  | ex x ρ1 => rw [e] at q; exact q
  | bad => rw [e] at q; exact q
theorem put_all {K : PySem.W.Frag} : ∀ (is : List Nat) (vs : List V) (ss : List Sl) {σ : L2.St} {ρ ρ' : Rho} {H0 H : Hp}, En K F H0 H σ ρ → vs.length = ss.length → (∀ (i : Nat) v s, vs[i]? = some v → ss[i]? = some s → SlR K F H0 H v s ∧ (∀ k, s ≠ .io k) ∧ (s.own = true → ∀ a, v = .ref a → ¬ OwnAt σ ρ a)) →
    (∀ (i j : Nat) v s t, i ≠ j → vs[i]? = some v → vs[j]? = some v → ss[i]? = some s → ss[j]? = some t → s.own = true → t.own = true → False) → putP is ss ρ = some ρ' → En K F H0 H (setAll is vs σ) ρ'
  | [], vs, [], σ, ρ, ρ', H0, H, E, hl, hall, hd, h => by
    cases h
    cases vs with
    | nil => exact E
    | cons _ _ => cases hl
  | [], vs, s :: ss, σ, ρ, ρ', H0, H, E, hl, hall, hd, h => by cases h
  | i :: is, vs, [], σ, ρ, ρ', H0, H, E, hl, hall, hd, h => by cases h
  | i :: is, [], s :: ss, σ, ρ, ρ', H0, H, E, hl, hall, hd, h => by cases hl
  | i :: is, v :: vs, s :: ss, σ, ρ, ρ', H0, H, E, hl, hall, hd, h => by
    unfold putP at h
    cases e : putR i s ρ with
    | none => rw [e] at h; cases h
    | some ρ1 =>
      rw [e] at h
      obtain ⟨h1, h2, h3⟩ := hall 0 v s rfl rfl
      have E1 := E.put h1 h2 h3 e
      refine put_all is vs ss E1 (by simpa using hl) (fun k w t hw ht => ?_) (fun j k w t u hjk hw hw' ht hu o1 o2 => hd (j + 1) (k + 1) w t u (fun z => hjk (Nat.succ.inj z)) (by simpa using hw) (by simpa using hw') (by simpa using ht) (by simpa using hu) o1 o2) h
      obtain ⟨q1, q2, q3⟩ := hall (k + 1) w t (by simpa using hw) (by simpa using ht)
      refine ⟨q1, q2, fun o a ea own => ?_⟩
      unfold putR at e
      split at e
      · cases e
      · cases e
        obtain ⟨j, u, y1, y2, y3⟩ := own
        rcases set_get y1 with ⟨rfl, z⟩ | ⟨hne, z⟩
        · cases z
          rcases set_get y3 with ⟨_, z3⟩ | ⟨hne, _⟩
          · cases z3
            refine hd (k + 1) 0 (.ref a) t s (Nat.succ_ne_zero k) (by rw [← ea]; simpa using hw) rfl (by simpa using ht) rfl o ?_
            cases s with
            | fr _ => cases y2
            | ol _ => rfl
            | od _ => rfl
            | io k => exact absurd rfl (h2 k)
          · exact hne rfl
        · rw [List.getElem?_set_ne (Ne.symm hne)] at y3
          exact q3 o a ea ⟨j, u, z, y2, y3⟩
theorem tPar_post {D : Ends} {fs : List (Rho → R Sl)} {is : List Nat} {Q : List V → Hp → Prop} (h : tS g F W (parP is fs) D σ H) (hQ : ∀ vs H', vs.length = is.length → D.nx (setAll is vs σ) H' → Q vs H') : tP g F W fs σ H Q := by
  obtain ⟨H0, ρ, E, q⟩ := h
  refine ⟨H0, ρ, E, ?_⟩
  unfold parP at q
  cases e : argsP fs ρ with
  | ok ss ρ1 =>
    rw [e] at q
    intro vs H0' H' E' m hl hall hd
    obtain ⟨ρ2, e2, k⟩ := nxO_post (PostS.mono m.b0 q)
    have hlen : ∀ (is : List Nat) (ss : List Sl) (ρ ρ' : Rho), putP is ss ρ = some ρ' → ss.length = is.length := by
      intro is
      induction is with
      | nil => intro ss ρ ρ' e; cases ss with | nil => rfl | cons _ _ => cases e
      | cons i is ih =>
        intro ss ρ ρ' e
        cases ss with
        | nil => cases e
        | cons s ss =>
          unfold putP at e
          cases e1 : putR i s ρ with
          | none => rw [e1] at e; cases e
          | some ρ1 => rw [e1] at e; rw [List.length_cons, List.length_cons, ih ss ρ1 ρ' e]
    refine hQ vs H' (by rw [hl]; exact hlen is ss ρ1 ρ2 e2) (k _ H' (put_all is vs ss E' hl (fun i v s hv hs => ?_) hd e2))
    obtain ⟨q1, q2, q3⟩ := hall i v s hv hs
    exact ⟨q1, q2, fun o a ea z => E.notOwn (q3 o a ea) (m.sub a z)⟩
  | ex x ρ1 => rw [e] at q; exact q σ
  | bad => rw [e] at q; exact q
end
section
variable {X : Cx} {W : WX} {a b c e : Expr} {es : List Expr} {pos p p2 p3 : Pos} {f1 f2 f3 : Rho → R Dt} {fa : Rho → R (List Dt)} {fo : Rho → R Sl} {fs : List (Rho → R Sl)}
def DPs (X : Cx) (W : WX) (es : List Expr) (fs : List (Rho → R Sl)) : Prop := ∀ F, PA X es (tP (gx X) F W fs)
theorem dps_nil : DPs X W [] [] := fun F => PA.wk pa_nil fun _ _ _ h => tP_nil h
theorem dps_cons (ha : DO X W a fo) (hr : DPs X W es fs) (he : starEach (a :: es) X.env = (false, eval a X.env) :: starEach es X.env := by rfl) : DPs X W (a :: es) (fo :: fs) := fun F => PA.wk (pa_cons (ha F) (hr F) he) fun _ _ _ h => tP_cons h
theorem ds_par2 {i j : Nat} {x y : Str} {px py pt : Pos} {kt k2 pt2} (hc : X.calm = true) (hN : X.N.Nodup) (hij : i ≠ j) (ha : DPs X W [a, b] fs) (hw : swappedStores [.Tuple [.Name x px, .Name y py] kt pt] (.Tuple [a, b] k2 pt2) X.env = pure (some [x, y]))
    (hi : X.N[i]? = some x := by rfl) (hj : X.N[j]? = some y := by rfl) (hx : X.env.scope.names.lookup x = some .local := by rfl) (hy : X.env.scope.names.lookup y = some .local := by rfl)
    (hs : swapsWithSole [.Tuple [.Name x px, .Name y py] kt pt] (.Tuple [a, b] k2 pt2) pos.line X.env = pure false := by rfl) :
    DS X W (.Assign [.Tuple [.Name x px, .Name y py] kt pt] (.Tuple [a, b] k2 pt2) pos) (parP [i, j] fs) := fun F => PS.wk (ps_par hc hN hi hj hij hx hy (ha F) hw hs) fun D σ H h => tPar_post h fun vs H' hl k => by
  match vs, hl with
  | [v, w], _ => exact ⟨v, w, rfl, k⟩
theorem ds_par3 {i j l : Nat} {x y z : Str} {px py pz pt : Pos} {kt k2 pt2} (hc : X.calm = true) (hN : X.N.Nodup) (hij : i ≠ j) (hil : i ≠ l) (hjl : j ≠ l) (ha : DPs X W [a, b, c] fs)
    (hw : swappedStores [.Tuple [.Name x px, .Name y py, .Name z pz] kt pt] (.Tuple [a, b, c] k2 pt2) X.env = pure (some [x, y, z]))
    (hi : X.N[i]? = some x := by rfl) (hj : X.N[j]? = some y := by rfl) (hl : X.N[l]? = some z := by rfl) (hx : X.env.scope.names.lookup x = some .local := by rfl) (hy : X.env.scope.names.lookup y = some .local := by rfl) (hz : X.env.scope.names.lookup z = some .local := by rfl)
    (hs : swapsWithSole [.Tuple [.Name x px, .Name y py, .Name z pz] kt pt] (.Tuple [a, b, c] k2 pt2) pos.line X.env = pure false := by rfl) :
    DS X W (.Assign [.Tuple [.Name x px, .Name y py, .Name z pz] kt pt] (.Tuple [a, b, c] k2 pt2) pos) (parP [i, j, l] fs) := fun F => PS.wk (ps_par3 hc hN hi hj hl hij hil hjl hx hy hz (ha F) hw hs) fun D σ H h => tPar_post h fun vs H' hl k => by
  match vs, hl with
  | [v, w, u], _ => exact ⟨v, w, u, rfl, k⟩
end
end DW

set_option Elab.async false
set_option linter.all false
set_option maxRecDepth 100000
set_option maxHeartbeats 4000000
/-! DWD: dict comprehensions; methods of dicts and lists; sorted; ranges as lists -/
namespace DW
open PySem PySem.Spec PyProof.Rows L2
theorem dc_it {J : It} {n : Nat} {G : Hp → Prop} {Y : Nat → Hp → V → Hp → Prop} (w : Walk J n G Y) {g : TG} {tt : TT} {tk tv : TE} {vs : List Nat} {σ : L2.St} {H1 : Hp} {D : Addr} {Qd : Hp → Prop} (Pv : Nat → Hp → Prop) (h0 : Pv 0 (upd H1 D (.dK []))) (hG : ∀ i H, i ≤ n → Pv i H → G H)
    (hs : ∀ i x H H', i < n → Pv i H → Y i H x H' → g x (wipe σ vs) H' fun σ2 H2 => wipe σ2 vs = wipe σ vs ∧ tt σ2 H2 fun b H3 =>
      if b = true then tk σ2 H3 fun y H4 => tv σ2 H4 fun z H5 => ∃ kvs k, y = kV k ∧ H5 D = some (.dK kvs) ∧ kvs.length < sizeLine ∧ Pv (i + 1) (upd H5 D (.dK (putK kvs k z))) else Pv (i + 1) H3) (hd : ∀ H, Pv n H → Qd H) :
    ∃ W : Nat → Nat → Hp → Prop, (∃ m, W 0 m (upd H1 D (.dK []))) ∧ ∀ i m H, W i m H →
      (J.stop i H ∧ Qd H) ∨ (J.go i H ∧ ∃ Nx : Hp → Prop, (∀ H', Nx H' → ∃ m', m' < m ∧ W (i + 1) m' H') ∧ ∀ x H', J.yld i H x H' → g x (wipe σ vs) H' fun σ2 H2 => wipe σ2 vs = wipe σ vs ∧ tt σ2 H2 fun b H3 =>
        if b = true then tk σ2 H3 fun y H4 => tv σ2 H4 fun z H5 => ∃ kvs k, y = kV k ∧ H5 D = some (.dK kvs) ∧ kvs.length < sizeLine ∧ Nx (upd H5 D (.dK (putK kvs k z))) else Nx H3) := by
  refine ⟨fun i m H => m = n - i ∧ i ≤ n ∧ Pv i H, ⟨n, by simp, Nat.zero_le _, h0⟩, ?_⟩
  rintro i m H ⟨rfl, hi, p⟩
  have q := hG i H hi p
  by_cases hlt : i < n
  · exact .inr ⟨w.goes i H hlt q, Pv (i + 1), fun H' p' => ⟨n - (i + 1), by omega, rfl, hlt, p'⟩, fun x H' y => hs i x H H' hlt p (w.yields i H x H' hlt q y)⟩
  · have e : i = n := by omega
    subst e
    exact .inl ⟨w.stops H q, hd H p⟩
section
variable {K : PySem.W.Frag} {F : Fm} {H0 H H0' H' : Hp} {σ : L2.St} {ρ : Rho} {v : V} {d : Dt} {s : Sl} {i : Nat} {a p : Addr} {o : HO} {g : Gx} {W : WX}
/-- {k: v for t in it if c} -/
theorem tDc_of {it : Rho → R (List Dt)} {t : Dt → Rho → Option Rho} {c : Rho → R Bool} {ek ev : Rho → R Dt} {vs is : List Nat} (his : ∀ i ∈ is, i ∈ vs) {σ : L2.St} {H : Hp} {Q : VK} (h : tO g F W (dcO it t c ek ev vs) σ H Q) :
    tDc (tI g F W it) (tG g F is t) (tDT g F WF c) (tD g F WF ek) (tD g F WF ev) vs σ H Q := by
  obtain ⟨H0, ρ, E, q⟩ := h
  refine ⟨H0, ρ, E, ?_⟩
  unfold dcO at q
  cases e : it ρ with
  | ex x ρ1 =>
    rw [e] at q
    exact q
  | bad =>
    rw [e] at q
    exact q
  | ok xs ρ1 =>
    rw [e] at q
    dsimp only [R.bind] at q
    intro J B0 B E1 m1 hJ D hD
    by_cases hc : okW vs ρ1 = true ∧ xs.length ≤ 1000000
    · rw [if_pos hc] at q
      cases er : dcL t c ek ev vs xs (wipeR ρ1 vs) [] with
      | ex _ _ => rw [er] at q; exact q.elim
      | bad => rw [er] at q; exact q.elim
      | ok full ρe =>
        rw [er] at q
        dsimp only at q
        obtain ⟨G, Y, wk, hG, hY⟩ := hJ
        have hFD : F.H D = none := E1.upF hD
        have nD : ¬ OwnAt σ ρ1 D := E1.notOwn hD
        have Ew := E1.wipe vs hc.1
        have nDw : ¬ OwnAt (wipe σ vs) (wipeR ρ1 vs) D := fun z => nD (own_wipe (own_wipeR z))
        refine dc_it wk (fun i H => ∃ C0 ρc acc done, En g.K F C0 H (wipe σ vs) ρc ∧ Mw σ ρ1 (wipe σ vs) ρc B0 B C0 H ∧ H D = some (.dK acc) ∧ C0 D = none ∧ DaKv g.K C0 acc done ∧ done.length ≤ i ∧
          dcL t c ek ev vs (xs.drop i) ρc done = .ok full ρe) ?_ (fun i H _ ⟨C0, ρc, acc, done, Ec, mc, _⟩ => hG H (mc.b0.trans Ec.ex)) ?_ ?_
        · refine ⟨B0, wipeR ρ1 vs, [], [], Ew.beside (E1.up0 hD) hFD nDw (.inr (.inr hD)), ⟨Same.refl _, fun a o h _ _ => ?_, fun _ _ h _ => h, fun a o => own_wipe (own_wipeR o), fun a h => ?_⟩, upd_same, E1.up0 hD, .nil, Nat.le_refl _, by rw [List.drop_zero]; exact er⟩
          · rw [upd_ne (ne_of_none h hD)]
            exact h
          · have : a ≠ D := fun z => h (z ▸ hD)
            rw [upd_ne this]
            exact h
        · rintro i x H H' hi ⟨C0, ρc, acc, done, Ec, mc, hacc, hC, hdd, hlen, hrun⟩ y
          obtain ⟨d, hd, hx⟩ := hY i H x H' hi (mc.b0.trans Ec.ex) y
          have nc : ¬ OwnAt (wipe σ vs) ρc D := fun z => nD (mc.sub D z)
          obtain ⟨D0, Ed, md, dd⟩ := item_at Ec mc.b0 hx
          have hacc' : H' D = some (.dK acc) := md.kd D hacc nc
          have hC' : D0 D = none := md.off D (by rw [hacc]; exact fun z => nomatch z) hC nc
          have hdrop : xs.drop i = d :: xs.drop (i + 1) := by
            obtain ⟨hlt, hget⟩ := List.getElem?_eq_some_iff.mp hd
            rw [List.drop_eq_getElem_cons hlt, hget]
          rw [hdrop] at hrun
          unfold dcL at hrun
          cases et : t d ρc with
          | none => rw [et] at hrun; cases hrun
          | some ρ2 =>
            rw [et] at hrun
            dsimp only at hrun
            obtain ⟨b, ρ3, hb, hrun⟩ := bind_ok hrun
            refine ⟨D0, ρc, d, Ed, dd, ρ2, et, fun us E2 ow => ?_⟩
            have hw2 : wipe (setAll is us (wipe σ vs)) vs = wipe σ vs := by rw [wipe_setAll vs is us _ his, wipe_idem vs vs σ fun _ z => z]
            have n2 : ¬ OwnAt (setAll is us (wipe σ vs)) ρ2 D := fun z => nc (ow D z)
            have m2 : Mw (wipe σ vs) ρc (setAll is us (wipe σ vs)) ρ2 D0 H' D0 H' := ⟨Same.refl _, fun _ _ h _ _ => h, fun _ _ h _ => h, fun a o => ow a o, fun _ h => h⟩
            refine ⟨hw2, D0, ρ2, E2, ?_⟩
            rw [hb]
            intro I0 I E3 m3
            have n3 : ¬ OwnAt (setAll is us (wipe σ vs)) ρ3 D := fun z => n2 (m3.sub D z)
            have acc3 : I D = some (.dK acc) := m3.kd D hacc' n2
            have C3 : I0 D = none := m3.off D (by rw [hacc']; exact fun z => nomatch z) hC' n2
            have M3 := (mc.trans md).trans (m2.trans m3)
            have down : ∀ {J0 J : Hp} {ρ4 : Rho}, En g.K F J0 J (setAll is us (wipe σ vs)) ρ4 → Mw σ ρ1 (setAll is us (wipe σ vs)) ρ4 B0 B J0 J → En g.K F J0 J (wipe σ vs) (wipeR ρ4 vs) ∧ Mw σ ρ1 (wipe σ vs) (wipeR ρ4 vs) B0 B J0 J := fun {J0 J ρ4} E4 M4 => by
              have ok4 : okW vs ρ4 = true := by
                have h1 := hc.1
                unfold okW at h1 ⊢
                rw [Bool.or_eq_true] at h1 ⊢
                rcases h1 with h1 | h1
                · left
                  refine noIo_iff.mpr fun kvs ek => ?_
                  obtain ⟨w, y1, a, ks, rfl, z2, z3, z4, z5⟩ := E4.sl 0 _ ek
                  obtain ⟨_, ⟨kv, y2⟩, _⟩ := E1.io a z3
                  exact noIo_iff.mp h1 kv y2
                · exact .inr h1
              have E5 := E4.wipe vs ok4
              rw [hw2] at E5
              refine ⟨E5, M4.b0, M4.keep, M4.off, fun a o => M4.sub a ?_, M4.st⟩
              have o2 := own_wipeR o
              obtain ⟨i, s, y1, y2, y3⟩ := o2
              rw [← hw2] at y3
              exact ⟨i, s, y1, y2, wipe_get vs y3⟩
            cases b with
            | true =>
              rw [if_pos rfl] at hrun ⊢
              obtain ⟨kd, ρ4, hek, hrun⟩ := bind_ok hrun
              obtain ⟨d2, ρ5, hev, hrun⟩ := bind_ok hrun
              cases eky : keyD kd with
              | none => rw [eky] at hrun; cases hrun
              | some key =>
                rw [eky] at hrun
                dsimp only at hrun
                refine ⟨I0, ρ3, E3, ?_⟩
                rw [hek]
                intro yv J0 J' E4 m4 dy
                have n4 : ¬ OwnAt (setAll is us (wipe σ vs)) ρ4 D := fun z => n3 (m4.sub D z)
                have acc4 : J' D = some (.dK acc) := m4.kd D acc3 n3
                have C4 : J0 D = none := m4.off D (by rw [acc3]; exact fun z => nomatch z) C3 n3
                refine ⟨J0, ρ4, E4, ?_⟩
                rw [hev]
                intro zv L0 L E5 m5 dz
                have n5 : ¬ OwnAt (setAll is us (wipe σ vs)) ρ5 D := fun z => n4 (m5.sub D z)
                have acc5 : L D = some (.dK acc) := m5.kd D acc4 n4
                have C5 : L0 D = none := m5.off D (by rw [acc4]; exact fun z => nomatch z) C4 n4
                have hy : yv = kV key := keyD_V (H := J') (Da.pk E4.ex dy) eky
                obtain ⟨E6, M6⟩ := down E5 ((M3.trans m4).trans m5)
                have n6 : ¬ OwnAt (wipe σ vs) (wipeR ρ5 vs) D := fun z => nD (M6.sub D z)
                have hal : acc.length = done.length := hdd.length
                have hdd5 := ((((hdd.mono md.b0).mono m3.b0).mono m4.b0).mono m5.b0)
                refine ⟨acc, key, hy, acc5, Nat.lt_of_le_of_lt (by rw [hal]; exact Nat.le_trans hlen (Nat.le_trans (Nat.le_of_lt hi) hc.2)) (by decide), L0, wipeR ρ5 vs, putK acc key zv, putKD done key d2, E6.beside C5 hFD n6 (.inr (.inl ⟨_, acc5⟩)), ⟨M6.b0, fun a o h nt ho => ?_, M6.off, M6.sub, fun a h => ?_⟩, upd_same, C5,
                  hdd5.put dz, ?_, hrun⟩
                · rw [upd_ne (ne_of_none h hD)]
                  exact M6.keep a o h nt ho
                · have : a ≠ D := fun z => h (z ▸ hD)
                  rw [upd_ne this]
                  exact M6.st a h
                · have h1 := length_putK acc key zv
                  have h2 := (hdd5.put (k := key) dz).length
                  omega
            | false =>
              rw [if_neg Bool.false_ne_true] at hrun ⊢
              obtain ⟨E5, M5⟩ := down E3 M3
              exact ⟨I0, wipeR ρ3 vs, acc, done, E5, M5, acc3, C3, (hdd.mono md.b0).mono m3.b0, Nat.le_succ_of_le hlen, hrun⟩
        · rintro H ⟨C0, ρc, acc, done, Ec, mc, hacc, hC, hdd, hlen, hrun⟩
          rw [List.drop_length] at hrun
          cases hrun
          have E6 : En g.K F C0 H σ ρe := Ec.unwipe (by rw [E1.len, ← E1.len, ← wipe_length σ vs, Ec.len])
          refine q _ C0 H E6 (m1.trans ⟨mc.b0, mc.keep, mc.off, fun a o => ?_, mc.st⟩) ⟨D, acc, rfl, hC, hFD, hacc, hdd⟩ fun _ b z => by cases z; exact m1.fresh hD
          obtain ⟨i, s, y1, y2, y3⟩ := o
          obtain ⟨w, z1, _⟩ := Ec.sl i s y1
          have z2 := wipe_get vs z1
          rw [y3] at z2
          cases z2
          exact mc.sub a ⟨i, s, y1, y2, z1⟩
    · rw [if_neg hc] at q
      exact q.elim
end
section
variable {X : Cx} {W : WX} {a b c e : Expr} {es : List Expr} {pos p p2 p3 : Pos} {f1 f2 f3 : Rho → R Dt} {fa : Rho → R (List Dt)} {fo : Rho → R Sl}
theorem do_dc {kx vx tg iter : Expr} {ifs : List Expr} {scope : Scope} {own : List (Str × Nat)} {it : Rho → R (List Dt)} {t : Dt → Rho → Option Rho} {ct : Rho → R Bool} {ek ev : Rho → R Dt} {is : List Nat} (hc : X.calm = true) (hN : X.N.Nodup) (hi : DI X W tg iter it) (ok : BlkOk X.N X.env.scope scope own)
    (hg : ∀ s H C cl fp, DG (blkX X scope s H C cl fp) tg is t) (ht : ∀ s H C cl fp, DTs (blkX X scope s H C cl fp) WF ifs ct) (hk : ∀ s H C cl fp, DE (blkX X scope s H C cl fp) WF kx ek) (he : ∀ s H C cl fp, DE (blkX X scope s H C cl fp) WF vx ev) (his : ∀ i ∈ is, i ∈ own.map (·.2))
    (hs : ∀ x, foldedSetIterable iter X.env x = pure x := by intro _; rfl) : DO X W (.DictComp kx vx [⟨tg, iter, ifs, 0⟩] scope pos) (dcO it t ct ek ev (own.map (·.2))) :=
  fun F => PE.wk (pe_dc hc hN (hi F) ok (fun s H C cl fp => hg s H C cl fp F) (fun s H C cl fp => ht s H C cl fp F) (fun s H C cl fp => hk s H C cl fp F) (fun s H C cl fp => he s H C cl fp F) hs) fun _ _ _ q => tDc_of his q
/-! ### list(range(..)), tuple(range(..)) -/
def rgList (gd : List Dt → Option (List Dt)) (f : Rho → R (List Dt)) : Rho → R Dt := fun ρ => (f ρ).bind fun ds ρ1 => match gd ds with
  | some xs => if xs.length ≤ 1000000 then .ok (.lst xs) ρ1 else .bad
  | none => .bad
def rgTup (gd : List Dt → Option (List Dt)) (f : Rho → R (List Dt)) : Rho → R Dt := fun ρ => (f ρ).bind fun ds ρ1 => match gd ds with
  | some xs => if xs.length ≤ 1000000 then .ok (.tup xs) ρ1 else .bad
  | none => .bad
theorem rgV_da {K : PySem.W.Frag} {H : Hp} (a b : Int) : DaAll K H (rgV a b) ((List.range (b - a).toNat).map fun i => .int (a + (i : Nat))) := by
  have := daInts (K := K) (H := H) ((List.range (b - a).toNat).map fun i => a + ((i : Nat) : Int))
  rw [List.map_map, List.map_map] at this
  exact this
theorem rgOk2 {a b : Int} (h : -(2 ^ 62) ≤ a ∧ a < 2 ^ 62 ∧ -(2 ^ 62) ≤ b ∧ b < 2 ^ 62) (hl : ((List.range (b - a).toNat).map fun i => Dt.int (a + (i : Nat))).length ≤ 1000000) : RgOk a b := by
  rw [List.length_map, List.length_range] at hl
  exact ⟨h.1, h.2.1, h.2.2.1, h.2.2.2, by omega⟩
theorem de_listRg2 {pr : Pos} (hc : X.calm = true) (hg : Gl X "list") (hm : X.mg "list" = none) (hgr : Gl X "range") (hmr : X.mg "range" = none) (ha : DE X W a f1) (hb : DE X W b f2)
    (na : starEach [.Call (.Name "range" p2) [a, b] [] p3] X.env = (false, eval (.Call (.Name "range" p2) [a, b] [] p3) X.env) :: starEach [] X.env := by rfl) (nb : starEach [a, b] X.env = (false, eval a X.env) :: starEach [b] X.env := by rfl) (nc : starEach [b] X.env = (false, eval b X.env) :: starEach [] X.env := by rfl) (nd : (backTo p3 (starEach [b] X.env)).any (·.1) = false := by rfl) :
    DE X W (.Call (.Name "list" p) [.Call (.Name "range" p2) [a, b] [] p3] [] pos) (rgList rngD2 (consA f1 (consA f2 nilA))) := fun F => PE.wk (pe_listRg hc hg hm (prg_2 hgr hmr (ha F) (hb F) nb nc nd) na) fun σ H Q ⟨H0, ρ, E, q⟩ => by
  refine ⟨H0, ρ, E, ?_⟩
  unfold rgList consA at q
  cases e1 : f1 ρ with
  | ok x ρ1 =>
    rw [e1] at q
    dsimp only [R.bind] at q
    intro v B0 B E1 m1 d1
    refine ⟨B0, ρ1, E1, ?_⟩
    cases e2 : f2 ρ1 with
    | ok y ρ2 =>
      rw [e2] at q
      dsimp only [R.bind, nilA] at q
      intro w C0 C E2 m2 d2
      cases e3 : rngD2 [x, y] with
      | none => rw [e3] at q; exact q.elim
      | some xs =>
        rw [e3] at q
        dsimp only at q
        by_cases hl : xs.length ≤ 1000000
        · rw [if_pos hl] at q
          unfold rngD2 at e3
          split at e3
          · rename_i ds i j hd
            cases hd
            split at e3
            · rename_i hb
              cases e3
              cases d1
              cases d2
              refine ⟨i, j, rfl, rfl, rgOk2 hb hl, al_lst (K := X.K) E2.ex (rgV_da i j) fun v D0 D gr s3 hv => ?_⟩
              obtain ⟨E3, m3⟩ := E2.post (m1.trans m2) gr s3
              exact q v D0 D E3 m3 hv
            · cases e3
          · cases e3
        · rw [if_neg hl] at q
          exact q.elim
    | ex x ρ1 => rw [e2] at q; exact q
    | bad => rw [e2] at q; exact q
  | ex x ρ1 => rw [e1] at q; exact q
  | bad => rw [e1] at q; exact q
theorem de_tupRg2 {pr : Pos} (hc : X.calm = true) (hg : Gl X "tuple") (hm : X.mg "tuple" = none) (hgr : Gl X "range") (hmr : X.mg "range" = none) (ha : DE X W a f1) (hb : DE X W b f2)
    (na : starEach [.Call (.Name "range" p2) [a, b] [] p3] X.env = (false, eval (.Call (.Name "range" p2) [a, b] [] p3) X.env) :: starEach [] X.env := by rfl) (nb : starEach [a, b] X.env = (false, eval a X.env) :: starEach [b] X.env := by rfl) (nc : starEach [b] X.env = (false, eval b X.env) :: starEach [] X.env := by rfl) (nd : (backTo p3 (starEach [b] X.env)).any (·.1) = false := by rfl) :
    DE X W (.Call (.Name "tuple" p) [.Call (.Name "range" p2) [a, b] [] p3] [] pos) (rgTup rngD2 (consA f1 (consA f2 nilA))) := fun F => PE.wk (pe_tupRg hc hg hm (prg_2 hgr hmr (ha F) (hb F) nb nc nd) na) fun σ H Q ⟨H0, ρ, E, q⟩ => by
  refine ⟨H0, ρ, E, ?_⟩
  unfold rgTup consA at q
  cases e1 : f1 ρ with
  | ok x ρ1 =>
    rw [e1] at q
    dsimp only [R.bind] at q
    intro v B0 B E1 m1 d1
    refine ⟨B0, ρ1, E1, ?_⟩
    cases e2 : f2 ρ1 with
    | ok y ρ2 =>
      rw [e2] at q
      dsimp only [R.bind, nilA] at q
      intro w C0 C E2 m2 d2
      cases e3 : rngD2 [x, y] with
      | none => rw [e3] at q; exact q.elim
      | some xs =>
        rw [e3] at q
        dsimp only at q
        by_cases hl : xs.length ≤ 1000000
        · rw [if_pos hl] at q
          unfold rngD2 at e3
          split at e3
          · rename_i ds i j hd
            cases hd
            split at e3
            · rename_i hb
              cases e3
              cases d1
              cases d2
              refine ⟨i, j, rfl, rfl, rgOk2 hb hl, al_tup (K := X.K) E2.ex (rgV_da i j) fun v D0 D gr s3 hv => ?_⟩
              obtain ⟨E3, m3⟩ := E2.post (m1.trans m2) gr s3
              exact q v D0 D E3 m3 hv
            · cases e3
          · cases e3
        · rw [if_neg hl] at q
          exact q.elim
    | ex x ρ1 => rw [e2] at q; exact q
    | bad => rw [e2] at q; exact q
  | ex x ρ1 => rw [e1] at q; exact q
  | bad => rw [e1] at q; exact q
/-! ### sorted -/
def insI (n : Int) : List Int → List Int
  | [] => [n]
  | m :: ms => if n ≤ m then n :: m :: ms else m :: insI n ms
def sortI : List Int → List Int
  | [] => []
  | n :: ns => insI n (sortI ns)
theorem insI_perm (n : Int) : ∀ ms : List Int, (insI n ms).Perm (n :: ms)
  | [] => .refl _
  | m :: ms => by
    unfold insI
    split
    · exact .refl _
    · exact ((insI_perm n ms).cons m).trans (.swap n m ms)
theorem insI_sorted (n : Int) : ∀ {ms : List Int}, ms.Pairwise (· ≤ ·) → (insI n ms).Pairwise (· ≤ ·)
  | [], _ => List.pairwise_singleton _ _
  | m :: ms, h => by
    unfold insI
    obtain ⟨h1, h2⟩ := List.pairwise_cons.mp h
    split
    · rename_i hn
      exact List.pairwise_cons.mpr ⟨fun x hx => by
        rcases List.mem_cons.mp hx with rfl | hx
        · exact hn
        · exact Int.le_trans hn (h1 x hx), h⟩
    · rename_i hn
      refine List.pairwise_cons.mpr ⟨fun x hx => ?_, insI_sorted n h2⟩
      rcases List.mem_cons.mp ((insI_perm n ms).mem_iff.mp hx) with rfl | hx
      · omega
      · exact h1 x hx
theorem sortI_perm : ∀ ns : List Int, (sortI ns).Perm ns
  | [] => .refl _
  | n :: ns => (insI_perm n _).trans ((sortI_perm ns).cons n)
theorem sortI_sorted : ∀ ns : List Int, (sortI ns).Pairwise (· ≤ ·)
  | [] => .nil
  | n :: ns => insI_sorted n (sortI_sorted ns)
theorem sortI_one {ns ms : List Int} (h1 : ms.Perm ns) (h2 : ms.Pairwise (· ≤ ·)) : ms = sortI ns := PySem.W.ksm_same (h1.trans (sortI_perm ns).symm) h2 (sortI_sorted ns)
def keysI : List (Key × Dt) → Option (List Int)
  | [] => some []
  | (.inl i, _) :: r => (keysI r).map (i :: ·)
  | _ => none
theorem keysI_eq : ∀ {kvs : List (Key × Dt)} {ns : List Int}, keysI kvs = some ns → kvs.map (·.1) = ns.map Sum.inl
  | [], _, h => by cases h; rfl
  | (.inl i, _) :: r, ns, h => by
    obtain ⟨ms, h1, rfl⟩ := Option.map_eq_some_iff.mp h
    rw [List.map_cons, keysI_eq h1]
    rfl
  | (.inr _, _) :: r, ns, h => by cases h
theorem DaKv.keys {K : PySem.W.Frag} {H : Hp} : ∀ {ks : List (Key × V)} {kvs : List (Key × Dt)}, DaKv K H ks kvs → ks.map (·.1) = kvs.map (·.1)
  | _, _, .nil => rfl
  | _, _, .cons _ h => by rw [List.map_cons, List.map_cons, h.keys]
def sortD : Dt → Option Dt
  | .lst ds => (intsOf ds).map fun ns => .lst ((sortI ns).map .int)
  | .dct kvs => (keysI kvs).bind fun ns => if ns.length < 64 then some (.lst ((sortI ns).map .int)) else none
  | _ => none
theorem callr_sorted (hc : X.calm = true) : CallR X (.builtin "sorted") (fun xs H Q => rSortedI X.K xs H Q ∨ ∃ (a : Addr) (kvs : List (Key × V)) (ks : List Int), xs = [.ref a] ∧ Rd H a (.dK kvs) ∧ kvs.map (·.1) = ks.map Sum.inl ∧ ks.length < 64 ∧
    ∀ (ys : List Int) (p : Addr), ys.Perm ks → ys.Pairwise (· ≤ ·) → H p = none → Q (.ref p) (upd H p (.lst (ys.map V.int)))) := callr_or cr_sortedI (call_sortedDI hc)
theorem und_sort (K : PySem.W.Frag) : UnD K (fun x H Q => rSortedI K [x] H Q ∨ ∃ (a : Addr) (kvs : List (Key × V)) (ks : List Int), [x] = [V.ref a] ∧ Rd H a (.dK kvs) ∧ kvs.map (·.1) = ks.map Sum.inl ∧ ks.length < 64 ∧
    ∀ (ys : List Int) (p : Addr), ys.Perm ks → ys.Pairwise (· ≤ ·) → H p = none → Q (.ref p) (upd H p (.lst (ys.map V.int)))) sortD := by
  intro x d z H0 H s hx hg Q k
  unfold sortD at hg
  split at hg
  · obtain ⟨ns, h, rfl⟩ := Option.map_eq_some_iff.mp hg
    obtain ⟨a, vs, rfl, h1, h2⟩ := hx
    rw [intsOf_eq h] at h2
    rw [h2.ints] at h1
    refine .inl ⟨a, ns, rfl, SqL.of h1, fun ns' p q1 q2 => ?_⟩
    rw [sortI_one q1 q2]
    exact al_lst s (daInts _) k p
  · obtain ⟨ns, h, hg⟩ := Option.bind_eq_some_iff.mp hg
    split at hg
    · rename_i hl
      cases hg
      obtain ⟨a, ks, rfl, h1, h2⟩ := hx
      refine .inr ⟨a, ks, ns, rfl, .inl h1, h2.keys.trans (keysI_eq h), hl, fun ns' p q1 q2 => ?_⟩
      rw [sortI_one q1 q2]
      exact al_lst s (daInts _) k p
    · cases hg
  · cases hg
theorem de_sorted (hc : X.calm = true) (hg : Gl X "sorted") (hm : X.mg "sorted" = none) (ha : DK X W e f1) (he : starEach (e :: []) X.env = (false, eval e X.env) :: starEach [] X.env := by rfl) : DE X W (.Call (.Name "sorted" p) [e] [] pos) (un sortD f1) :=
  de_b1 (callr_sorted hc) (und_sort _) hg hm (by decide +kernel) ha (he := he)
/-! ### d.update(e) -/
def mergeD (kvs more : List (Key × Dt)) : List (Key × Dt) := more.foldl (fun acc kv => putKD acc kv.1 kv.2) kvs
theorem DaKv.merge {K : PySem.W.Frag} {H : Hp} : ∀ {ms : List (Key × V)} {more : List (Key × Dt)}, DaKv K H ms more → ∀ {ks : List (Key × V)} {kvs : List (Key × Dt)}, DaKv K H ks kvs → DaKv K H (mergeK ks ms) (mergeD kvs more)
  | _, _, .nil, _, _, h => h
  | _, _, .cons h1 h2, _, _, h => h2.merge (h.put h1)
def updS (i : Nat) (f : Rho → R Dt) : Rho → SR := fun ρ => match dAt i ρ with
  | none => .bad
  | some _ => (f ρ).bindS fun d ρ1 => match d, dAt i ρ1 with
    | .dct more, some kvs => if kvs.length + more.length ≤ 1000000 then .nx (dPut i (mergeD kvs more) ρ1) else .bad
    | _, _ => .bad
def rUpd : V → List V → Hp → VK → Prop := fun x xs H Q => ∃ d o kvs more, x = .ref d ∧ xs = [.ref o] ∧ d ≠ o ∧ H d = some (.dK kvs) ∧ H o = some (.dK more) ∧ kvs.length + more.length ≤ sizeLine ∧ Q .non (upd H d (.dK (mergeK kvs more)))
theorem mt_upd : MtR X "dict.update" rUpd := by
  intro pins s σ H x xs v us Q I rx rs h
  obtain ⟨d, o, kvs, more, rfl, rfl, hne, hd, ho, hz, q⟩ := h
  cases rx
  cases rs with
  | cons r1 r2 =>
    cases r2
    cases r1
    obtain ⟨z1, lo1, vs1, rel1, dd1⟩ := L2.dk_of I.hok hd
    obtain ⟨z2, lo2, vs2, rel2, dd2⟩ := L2.dk_of I.hok ho
    refine call_meetsIn PySem.F.slot_dict_update dd1.typeIs PySem.F.entry_dict_update (PySem.F.args_dict_update_2 _ _) (meets_dict_update (mixKind X.prog X.w) d o hne lo2)
      ⟨vs1, vs2, dd1, dd2, (by rw [← rel1.length, ← rel2.length]; exact hz), fun h' hmm _ hs => ?_⟩
    have hl : (mergeK kvs more).length ≤ sizeLine := Nat.le_trans (length_mergeK more kvs) hz
    refine ⟨.non, _, d_write (t' := s.toks) (ob := .dK (mergeK kvs more)) I (by rw [hd]; trivial) hs ?_ (dk_new hl lo1 (KV.merge rel2 rel1) hmm), rfl, q⟩
    obtain ⟨ob, _, _, e, _⟩ := hmm
    exact ⟨ob, e⟩
theorem ds_upd (i : Nat) {x : Str} {apos cpos spos : Pos} (hx : PE X (.Name x p) (tVar i)) (he : DE X W e f1) (hbase : attributeBase (.Name x p) "update" X.env (eval (.Name x p) X.env) = eval (.Name x p) X.env := by rfl)
    (hfew : ((backTo cpos (starEach (e :: []) X.env)).all (fun x => !x.1) && (backToKw cpos (keywordEach [] X.env)).all (fun x => x.1.isSome)
      && decide ((e :: ([] : List Expr)).length + ([] : List Keyword).length + (if ([] : List Keyword).isEmpty then 0 else 1) < 30)) = true := by rfl)
    (hline : (apos.endLine == cpos.line) = true := by rfl) (hs : starEach (e :: []) X.env = (false, eval e X.env) :: starEach [] X.env := by rfl) (hplain : (backTo cpos (starEach [] X.env)).any (·.1) = false := by rfl)
    (hsw : swapsWith (.Call (.Attribute (.Name x p) "update" apos) [e] [] cpos) none spos.line X.env = pure false := by rfl) :
    DS X W (.Expr (.Call (.Attribute (.Name x p) "update" apos) [e] [] cpos) spos) (updS i f1) :=
  fun F => PS.wk (ps_expr (pe_bm PySem.F.plainAttrs_dict PySem.F.slot_dict_update PySem.F.type_dict_update mt_upd hx (pa_cons (he F) pa_nil hs) hbase hfew hline hs hplain) hsw) fun D σ H ⟨H0, ρ, E, q⟩ => by
    unfold updS at q
    cases e0 : dAt i ρ with
    | none => rw [e0] at q; exact q.elim
    | some kvs0 =>
      rw [e0] at q
      dsimp only at q
      obtain ⟨a, ks0, ha, _, hH0, _⟩ := dAt_put E e0
      refine ⟨.ref a, ha, .inr (.inr (.inl ⟨rfl, .inl ⟨_, hH0⟩⟩)), H0, ρ, E, ?_⟩
      cases e1 : f1 ρ with
      | ok d ρ1 =>
        rw [e1] at q
        dsimp only [R.bindS] at q
        intro v B0 B E2 m2 dv
        cases d with
        | dct more =>
          cases e2 : dAt i ρ1 with
          | none => rw [e2] at q; exact q.elim
          | some kvs =>
            rw [e2] at q
            dsimp only at q
            obtain ⟨a', ks, ha', h0, hH, hkv, own, put⟩ := dAt_put E2 e2
            rw [ha] at ha'
            cases ha'
            split at q
            · rename_i hl
              cases dv with
              | @dct o ms _ h1 h2 =>
                have hne : a ≠ o := fun z => by rw [z, h1] at h0; cases h0
                refine ⟨a, o, ks, ms, rfl, rfl, hne, hH, E2.ex _ _ h1, by rw [hkv.length, h2.length]; exact sizeM hl, ?_⟩
                refine q σ B0 _ (put (mergeK ks ms) _ B0 _ (gw_upd hH) (tb_upd E2.tb hH) ?_ upd_same (h2.merge hkv)).1 m2.b0
                · intro b o hb
                  rw [upd_ne (ne_of_none hb h0)]
                  exact E2.ex b o hb
            · exact q.elim
        | _ => exact q.elim
      | ex x ρ1 => rw [e1] at q; exact q σ
      | bad => rw [e1] at q; exact q
/-! ### xs.index(e) -/
def idxV (y : V) : List V → Nat → Option Nat
  | [], _ => none
  | x :: xs, j => if eqV x y = true then some j else idxV y xs (j + 1)
theorem idxV_spec (y : V) : ∀ (xs : List V) (j k : Nat), idxV y xs j = some k → ∃ i, k = j + i ∧ (∃ z, xs[i]? = some z ∧ eqV z y = true) ∧ ∀ (m : Nat) (z' : V), m < i → xs[m]? = some z' → eqV z' y = false
  | [], j, k, h => by cases h
  | x :: xs, j, k, h => by
    unfold idxV at h
    split at h
    · rename_i he
      cases h
      exact ⟨0, rfl, ⟨x, rfl, he⟩, fun m _ hm => absurd hm (Nat.not_lt_zero m)⟩
    · rename_i he
      obtain ⟨i, rfl, ⟨z, h1, h2⟩, h3⟩ := idxV_spec y xs (j + 1) k h
      refine ⟨i + 1, by omega, ⟨z, by simpa using h1, h2⟩, fun m z' hm hz => ?_⟩
      cases m with
      | zero =>
        simp at hz
        subst hz
        simpa using he
      | succ m => exact h3 m z' (Nat.lt_of_succ_lt_succ hm) (by simpa using hz)
def idxD : Dt → Dt → Option Dt
  | .lst xs, d => if flatD d = true ∧ xs.all flatD = true then (idxV (toV d) (xs.map toV) 0).map fun k => .int (k : Nat) else none
  | _, _ => none
def meth1 (g : Dt → Dt → Option Dt) (ok : Dt → Bool) (f1 f2 : Rho → R Dt) : Rho → R Dt := fun ρ => (f1 ρ).bind fun d ρ1 => if ok d = true then (f2 ρ1).bind fun e ρ2 => (match g d e with
  | some z => .ok z ρ2
  | none => .bad) else .bad
def isLst : Dt → Bool
  | .lst _ => true
  | _ => false
theorem de_index {apos cpos : Pos} {o : Expr} (ho : DE X W o f1) (he : DE X W e f2) (hbase : attributeBase o "index" X.env (eval o X.env) = eval o X.env := by rfl)
    (hfew : ((backTo cpos (starEach (e :: []) X.env)).all (fun x => !x.1) && (backToKw cpos (keywordEach [] X.env)).all (fun x => x.1.isSome)
      && decide ((e :: ([] : List Expr)).length + ([] : List Keyword).length + (if ([] : List Keyword).isEmpty then 0 else 1) < 30)) = true := by rfl)
    (hline : (apos.endLine == cpos.line) = true := by rfl) (hs : starEach (e :: []) X.env = (false, eval e X.env) :: starEach [] X.env := by rfl) (hplain : (backTo cpos (starEach [] X.env)).any (·.1) = false := by rfl) :
    DE X W (.Call (.Attribute o "index" apos) [e] [] cpos) (meth1 idxD isLst f1 f2) :=
  fun F => PE.wk (pe_bm PySem.F.plainAttrs_list PySem.F.slot_list_index PySem.F.type_list_index mt_index (ho F) (pa_cons (he F) pa_nil hs) hbase hfew hline hs hplain) fun σ H Q ⟨H0, ρ, E, q⟩ => by
    refine ⟨H0, ρ, E, ?_⟩
    unfold meth1 at q
    cases e1 : f1 ρ with
    | ok d ρ1 =>
      rw [e1] at q
      dsimp only [R.bind] at q
      intro v B0 B E1 m1 dv
      cases d with
      | lst xs =>
        rw [if_pos (by rfl)] at q
        cases dv with
        | @lst a vs _ h1 h2 =>
          refine ⟨.inl ⟨rfl, _, SqL.of (E1.ex _ _ h1)⟩, B0, ρ1, E1, ?_⟩
          cases e2 : f2 ρ1 with
          | ok y ρ2 =>
            rw [e2] at q
            dsimp only [R.bind] at q
            intro w C0 C E2 m2 d2
            cases e3 : idxD (.lst xs) y with
            | none => rw [e3] at q; exact q.elim
            | some z =>
              rw [e3] at q
              unfold idxD at e3
              dsimp only at e3
              split at e3
              · rename_i hf
                obtain ⟨k, hk, rfl⟩ := Option.map_eq_some_iff.mp e3
                obtain ⟨q1, q2⟩ := (h2.mono m2.b0).flat hf.2
                obtain ⟨q3, q4⟩ := d2.flat hf.1
                rw [← q1, ← q3] at hk
                obtain ⟨i, ei, ⟨z, hz1, hz2⟩, hno⟩ := idxV_spec _ _ _ _ hk
                have ei' : k = i := by omega
                refine ⟨a, vs, w, i, z, rfl, rfl, SqL.of (E2.ex _ _ (m2.b0 _ _ h1)), q4, q2, hz1, hz2, hno, ?_⟩
                rw [← ei']
                exact q _ C0 C E2 (m1.trans m2) (.int _)
              · cases e3
          | ex x ρ1 => rw [e2] at q; exact q
          | bad => rw [e2] at q; exact q
      | _ => exact q.elim
    | ex x ρ1 => rw [e1] at q; exact q
    | bad => rw [e1] at q; exact q
end
end DW

set_option Elab.async false
set_option linter.all false
set_option maxRecDepth 100000
set_option maxHeartbeats 4000000
/-! DWE: any of a tuple of ints -/
namespace DW
open PySem PySem.Spec PyProof.Rows L2
theorem truth_ints {prog : Program} {w : World} {A : Around} {ns : List Int} {its : List Value} (e : IntsAre its ns) :
    TruthOf prog w A (fun i v => its.toArray[i]? = some v) (fun i => (ns.map (· != 0)).getD i false) := fun i v s Q E hv hq => by
  have hv' : its[i]? = some v := by simpa using hv
  have : ∀ {its : List Value} {ns : List Int}, IntsAre its ns → ∀ (i : Nat), its[i]? = some v → ∃ n t, ns[i]? = some n ∧ v = .int n t := by
    intro its ns h
    induction h with
    | nil => intro i h; simp at h
    | cons n t _ ih =>
      intro i h
      cases i with
      | zero => simp at h; exact ⟨n, t, rfl, h.symm⟩
      | succ i => exact ih i (by simpa using h)
  obtain ⟨n, t, hn, rfl⟩ := this e i hv'
  have hg : (ns.map (· != 0)).getD i false = (n != 0) := by rw [List.getD_eq_getElem?_getD, List.getElem?_map, hn]; rfl
  have hq' : Q ((ns.map (· != 0)).getD i false) s := hq
  rw [hg] at hq'
  exact PyProof.Rows.truthy_int hq'
section
variable {X : Cx} {W : WX} {e : Expr} {pos p : Pos} {f1 : Rho → R Dt}
def rAnyT (K : PySem.W.Frag) : List V → Hp → VK → Prop := fun vs H Q => ∃ (a : Addr) (ns : List Int), vs = [V.ref a] ∧ SqT K H a (ns.map V.int) ∧ Q (.bl (ns.any (· != 0))) H
theorem cr_anyT (hc : X.calm = true) : CallR X (.builtin "any") (rAnyT X.K) := by
  intro pins s σ H vs us Q I r h
  obtain ⟨a, ns, rfl, hs, q⟩ := h
  obtain ⟨its, rv, hl, _⟩ := I.tuple hs
  rw [Vals.ref1 r]
  have hi : IntsAre its ns := intsAre_of rv
  have hT : s.heap.IsTuple a its.toArray := by obtain ⟨o, h1, h2, n, h3⟩ := hl; exact ⟨o, h1, h2, n, h3⟩
  have hlt : a < s.heap.objs.size := hl.lt
  refine call_any_walk (wpAny_pyIter_tuple hT ?_)
  refine ⟨_, _, _, _, _, _, _, rfl, Walks.tuple (A := X.A.in1) (I.ok.hd hc) s.heap.objs.size a (Nat.ne_of_lt hlt) its.toArray, ⟨⟨_, Heap.get?_push_size _ rfl, rfl, rfl⟩, hT.push _⟩, truth_ints hi, fun h' tk hk => ?_⟩
  refine ⟨.bl _, H, I.kept fun b o eo => hk b o (fun hmem => ?_) (Heap.get?_push_of_some _ eo), ?_, q⟩
  · rcases List.mem_cons.mp hmem with e1 | hmem
    · exact absurd (e1 ▸ Heap.lt_size eo) (Nat.lt_irrefl _)
    · cases hmem
  · show Value.bool _ = Value.bool _
    have hlen : its.toArray.size = (ns.map (· != 0)).length := by rw [List.size_toArray, List.length_map, ← rv.length, List.length_map]
    rw [hlen, L2.any_range, List.any_map]
    rfl
def anyD : Dt → Option Dt
  | .tup ds => (intsOf ds).map fun ns => .bl (ns.any (· != 0))
  | .lst ds => (blsOf ds).map fun ns => .bl (ns.any id)
  | _ => none
theorem und_any (K : PySem.W.Frag) : UnD K (fun x H Q => rAny K [x] H Q ∨ rAnyT K [x] H Q) anyD := by
  intro x d z H0 H s hx hg Q k
  unfold anyD at hg
  split at hg
  · obtain ⟨ns, h, rfl⟩ := Option.map_eq_some_iff.mp hg
    cases hx with
    | tup h1 h2 =>
      rw [intsOf_eq h] at h2
      rw [h2.ints] at h1
      exact .inr ⟨_, ns, rfl, seqT_mono s h1, sc s (.bl _) k⟩
  · obtain ⟨ns, h, rfl⟩ := Option.map_eq_some_iff.mp hg
    obtain ⟨a, vs, rfl, h1, h2⟩ := hx
    rw [blsOf_eq h] at h2
    rw [h2.bls] at h1
    exact .inl ⟨a, ns, rfl, SqL.of h1, sc s (.bl _) k⟩
  · cases hg
theorem de_any (hc : X.calm = true) (hg : Gl X "any") (hm : X.mg "any" = none) (ha : DK X W e f1) (he : starEach (e :: []) X.env = (false, eval e X.env) :: starEach [] X.env := by rfl) : DE X W (.Call (.Name "any" p) [e] [] pos) (un anyD f1) :=
  de_b1 (callr_or (cr_any hc) (cr_anyT hc)) (und_any _) hg hm (by decide +kernel) ha (he := he)
end
end DW

set_option Elab.async false
set_option linter.all false
set_option maxRecDepth 100000
set_option maxHeartbeats 4000000
/-! DWG0: promises of defs where no repr is on its way (guards known) -/
namespace DW
open PySem PySem.Spec PyProof.Rows L2
abbrev Quiet (A : Around) : Prop := A.guards = some []
theorem quiet_deeper {A : Around} (h : Quiet A) (env : Env) : Quiet (A.deeper env) := by
  show (A.deeper env).guards = some []
  first
    | exact h
    | simpa [Around.deeper, Around.under, Code.guards, pushGuards] using h
structure FnG (P : Program) (w : World) (K : PySem.W.Frag) (mg : Str → Option Value) (base : Heap) (CX : CXT) (k : Nat) (f : Addr) (fd : FuncData) (ps : List Str) (sp : Sp) : Prop where
  len : ∀ vs H Q E, sp vs H Q E → vs.length = ps.length
  run : ∀ (A : Around) (out : List Env) (s : Shared) (H : Hp) (args : Args) (us : List Value) (vs : List V) (Q : VK) (E : XK), Room k A → Quiet A → Env0 P w K mg base A out s H → BindsTo s fd args (ps.zip us) → Vals vs us → sp vs H Q E → codeAny (model P w) A (.call (.ref f) args) (CR CX out P w H s Q E) s
section
variable {P : Program} {w : World} {K : PySem.W.Frag} {mg : Str → Option Value} {base : Heap}
/-- cdv is the code of the def at f -/
def CdOk (K : PySem.W.Frag) (f : Addr) (cdv : Value) : Prop := ∃ (oc : Value) (od : Option Addr) (fd : FuncData) (osl : Array (Option Value)), K.lookup f = some ⟨oc, od, .func fd, osl⟩ ∧ fd.code = cdv ∧ ∃ c, cdv = .ref c
/-- a def's promise from its body -/
theorem fnG {CX : CXT} {x qual : Str} {params : Arguments} {bd : List Stmt} {scope : Scope} {dvs : List V} {kws : List (Str × V)} {f : Addr} {fd : FuncData} {N ps : List Str} {k : Nat} {sp : Sp} (F : FunD K x qual params bd scope dvs kws f fd) (S : FnScope N ps scope)
    (hlen : ∀ vs H Q E, sp vs H Q E → vs.length = ps.length)
    (hb : ∀ (cdv : Value) (A : Around) (out : List Env) (s : Shared) (H : Hp) (vs : List V) (Q : VK) (E : XK), Room k (A.deeper (envOfC qual scope s.heap.objs.size f cdv)) → Quiet (A.deeper (envOfC qual scope s.heap.objs.size f cdv)) → CdOk K f cdv → sp vs H Q E →
      ∃ t, PSs (cxOf CX P w K mg base N qual scope f cdv A out s H E) bd t ∧ t { nx := fun _ H' => Q .non H', rt := Q } (L2.start N vs) H) : FnG P w K mg base CX (k + 1) f fd ps sp := by
  obtain ⟨oc, od, dV, kV, doc, pm, an, cdv, ct, osl, rfl, lk, hcd, -, -⟩ := F.ex
  refine ⟨hlen, fun A out s H args us vs Q E room quiet env0 bind rel hsp => ?_⟩
  have there : ∀ b o, base.get? b = some o → s.heap.get? b = some o := fun b o e => (env0.bs b o e).1
  have kin : K.In s.heap := env0.mod.kin.keeps there
  have kinds : ∀ y ∈ ps.zip us, scope.names.lookup y.1 = some .local ∨ (scope.names.lookup y.1 = some .cell ∧ ((cellsFrom (s.heap.objs.size + 1) scope.names []).lookup y.1).isSome = true) := by
    rintro ⟨n, v⟩ hy
    exact (S.par n (List.of_mem_zip hy).1).imp id fun q => ⟨q, PySem.W.cellsFrom_some _ _ _ (.inl q)⟩
  refine codeAny_call_function room.depth (kin _ _ lk) rfl S.co S.gen rfl (PySem.W.codeRec_of kin hcd) (bind _ _ _ _ (wpAny_newFunctionEnv_cells S.kind kinds fun env henv s1 inc => ?_))
  subst henv
  refine ⟨(env0.mod.nolimit.keeps there).keeps inc.toInCall.keep, codeAny_func ?_⟩
  obtain ⟨t, ht, hq⟩ := hb cdv A out s H vs Q E (room.deeper _) (quiet_deeper quiet _) ⟨oc, od, _, osl, lk, rfl, He.codeIn_ref hcd⟩ hsp
  refine wpAny_mono (ht.run [] s1 (L2.start N vs) H _ (inv_start S room.hd env0 (hlen _ _ _ _ hsp) rel inc) hq) (fun flow s' hs => ?_) (fun _ _ z => z)
  match flow, hs with
  | .ret u, ⟨v, σ', H', J, rv, q⟩ => exact ⟨v, H', J.os, J.bare, J.base, J.hok, rv, q⟩
  | .next, ⟨σ', H', J, q⟩ => exact ⟨V.non, H', J.os, J.bare, J.base, J.hok, (rfl : RelV V.non Value.none), q⟩
  | .brk, ⟨_, _, _, q⟩ => exact q.elim
  | .cont, ⟨_, _, _, q⟩ => exact q.elim
end
section
variable {X : Cx} {CX : CXT} {k : Nat} {f : Addr} {fd : FuncData} {ps : List Str} {sp : Sp} {E : XK} {x : Str} {p pos : Pos} {e : Expr} {es : List Expr} {t : TA}
theorem runG {pins : List (Addr × Obj)} {σ : L2.St} {H : Hp} {s : Shared} {Q : VK} {us : List Value} {vs : List V} (G : FnG X.prog X.w X.K X.mg X.base CX k f fd ps sp) (room : Room k X.A) (quiet : Quiet X.A) (bind : Binds X.K fd ps []) (hx : Passes CX X E)
    (J : Inv X pins σ H s) (rel : Vals vs us) (h : sp vs H Q E) : wpAny (model X.prog X.w) X.A (call (.ref f) us) (EP X pins σ Q) X.xe s := by
  have hl : (us ++ []).length = ps.length := by rw [List.append_nil, ← rel.length]; exact G.len _ _ _ _ h
  have hb : BindsTo s fd ⟨us, []⟩ (ps.zip us) := by
    have := bind s us J.kIn hl
    rwa [List.append_nil] at this
  refine wpAny_call (codeAny_mono (G.run X.A X.stack s H ⟨us, []⟩ us vs Q E room quiet J.env0 hb rel h) fun res s' hq => ?_)
  match res, hq with
  | .error err, hq => exact hx pins σ H s err s' J hq
  | .ok (.ret u), hq => exact J.after hq
  | .ok .next, hq => exact False.elim hq
  | .ok .brk, hq => exact False.elim hq
  | .ok .cont, hq => exact False.elim hq
theorem pe_callG (G : FnG X.prog X.w X.K X.mg X.base CX k f fd ps sp) (room : Room k X.A) (quiet : Quiet X.A) (hgl : Gl X x) (hmg : X.mg x = some (.ref f)) (keep : PySem.W.keepIn X.K (.ref f) = true) (bind : Binds X.K fd ps []) (hx : Passes CX X E)
    (args : PA X (e :: es) t) (hdb : (x == ("__debug__" : Str)) = false) (he : starEach (e :: es) X.env = (false, eval e X.env) :: starEach es X.env) (hpl : (backTo pos (starEach es X.env)).any (·.1) = false) :
    PE X (.Call (.Name x p) (e :: es) [] pos) (tCall sp [] E t) :=
  ⟨fun pins s σ H Q J h => wpAny_Call_Name_kw (ld_glob J hgl hmg (PySem.W.callWith_K (h₀ := X.base) J.ok.mod.kin keep (thn (args.run pos pins s σ H _ J h) fun us s1 z => by
    obtain ⟨vs, H1, J1, rel, q⟩ := z
    rw [List.append_nil] at q
    exact ⟨J1.kIn, runG G room quiet bind hx J1 rel q⟩) he hpl) hdb)⟩
theorem pe_callG0 (G : FnG X.prog X.w X.K X.mg X.base CX k f fd ps sp) (room : Room k X.A) (quiet : Quiet X.A) (hgl : Gl X x) (hmg : X.mg x = some (.ref f)) (keep : PySem.W.keepIn X.K (.ref f) = true) (bind : Binds X.K fd ps []) (hx : Passes CX X E)
    (hdb : (x == ("__debug__" : Str)) = false) : PE X (.Call (.Name x p) [] [] pos) (tCall sp [] E tNil) :=
  ⟨fun pins s σ H Q J h => wpAny_Call_Name_kw (ld_glob J hgl hmg (PySem.W.callWith_K0 J.kIn keep (runG (us := []) (vs := []) G room quiet bind hx J .nil h)) hdb)⟩
end
/-! ### the law's end -/
theorem lawG {P : Program} {w : World} {K : PySem.W.Frag} {mg mb : Str → Option Value} {CX : CXT} {k : Nat} {fa a : Addr} {fd : FuncData} {x : Str} {sp : Sp} {t : Shared} {us : List Value} {ns : List Int}
    (kin : K.In t.heap) (glob : t.heap.Ns mainGlobals mg) (blt : t.heap.Ns builtinsNs mb) (boot : ∀ x : Str, x ≠ "__name__" → mb x = bootBuiltins x) (lim : t.heap.NoLimit) (gens : t.gens = #[])
    (obj : t.heap.get? a = some { cls := .type "list", data := .seq us.toArray }) (hints : IntsAre us ns) (len : ns.length ≤ sizeLine) (room : Room k callerA)
    (G : ∀ base : Heap, K.In base → base.Ns mainGlobals mg → FnG P w K mg base CX k fa fd [x] sp) (bind : ∀ (s : Shared) (u : Value), BindsTo s fd ⟨[u], []⟩ [(x, u)])
    (hsp : ∀ H : Hp, SqL K H a (ns.map V.int) → sp [.ref a] H (fun v _ => v = .bl true) fun _ _ _ => False)
    (hCX : ∀ H e s', CX [] H t (fun _ _ _ => False) e s' → False) :
    codeAny (model P w) callerA (.call (.ref fa) ⟨[.ref a], []⟩) (fun r s' => r = .ok (.ret (.bool true)) ∧ OldK t.heap s'.heap ∧ s'.os = t.os ∧ AllBare s'.gens) t := by
  have key : ∀ H : Hp, Only H → SqL K H a (ns.map V.int) → HOk P w H t.heap → (∀ b, H b ≠ none → b = a) → (H a ≠ none → K.lookup a = none) →
      codeAny (model P w) callerA (.call (.ref fa) ⟨[.ref a], []⟩) (fun r s' => r = .ok (.ret (.bool true)) ∧ OldK t.heap s'.heap ∧ s'.os = t.os ∧ AllBare s'.gens) t := fun H only sq hok at_ off => by
    have away : ∀ {b : Addr}, b ≠ a → H b = none := fun {b} hb => by
      cases q : H b with
      | none => rfl
      | some u => exact absurd (at_ b (by rw [q]; exact fun z => nomatch z)) hb
    have dictAway : ∀ {b : Addr} {m : Str → Option Value}, t.heap.Ns b m → b ≠ a := fun {b m} ⟨o, es, ep, e, d, _⟩ z => by
      rw [z, obj] at e
      cases e
      cases d
    have move : ∀ {b : Addr} {m : Str → Option Value}, t.heap.Ns b m → (hidT t.heap H).Ns b m := fun {b m} n => by
      have hb := dictAway n
      obtain ⟨o, es, ep, e, rest⟩ := n
      exact ⟨o, es, ep, hidT_get e (away hb), rest⟩
    have kinH : K.In (hidT t.heap H) := fun b o e => by
      refine hidT_get (kin b o e) ?_
      by_cases hb : b = a
      · subst hb
        cases q : H b with
        | none => rfl
        | some u =>
          rw [off (by rw [q]; exact fun z => nomatch z)] at e
          cases e
      · exact away hb
    obtain ⟨mc, l1, l2⟩ := lim
    have env0 : Env0 P w K mg (hidT t.heap H) callerA [] t H := ⟨rfl, ⟨kinH, move glob, ⟨mb, move blt, boot⟩, ⟨mc, move l1, l2⟩⟩, fun _ _ e => of_hidT e, Nat.le_of_eq (hidT_size _ _), trivial, fun b hb => (nomatch hb), hok, .of_eq gens⟩
    refine codeAny_mono ((G _ kinH (move glob)).run callerA [] t H ⟨[.ref a], []⟩ [.ref a] [.ref a] _ _ room rfl env0 (bind t (.ref a)) (.cons rfl .nil) (hsp H sq)) fun res s' h => ?_
    match res, h with
    | .error e, h => exact (hCX H e s' h).elim
    | .ok .next, h => exact False.elim h
    | .ok .brk, h => exact False.elim h
    | .ok .cont, h => exact False.elim h
    | .ok (.ret u), ⟨v, H', os, bare, un, hok', rel, q⟩ =>
      have hv : v = .bl true := q
      subst hv
      have hu : u = Value.bool true := rel
      subst hu
      refine ⟨rfl, OldK.of_keep fun b o e => ?_, os, bare⟩
      rcases only b with z | ⟨ob, xs, z⟩
      · exact un.keep b o e z (fun m => nomatch m) (fun m => nomatch m)
      · have e1 := (hok b _ z).1
        rw [e] at e1
        cases e1
        exact (hok' b _ (un.frzs b _ _ z)).1
  have rel := vals_ints hints
  by_cases hk : ∃ o, K.lookup a = some o
  · obtain ⟨o, hk⟩ := hk
    have e := kin a o hk
    rw [obj] at e
    cases e
    exact key (fun _ => none) (fun _ => .inl rfl) (.inr ⟨_, us.toArray, _, hk, rfl, rfl, rfl, by rw [List.size_toArray, hints.length]; exact len, by simpa using rel⟩) (fun _ _ z => nomatch z) (fun _ z => absurd rfl z) fun z => absurd rfl z
  · have hk' : K.lookup a = none := by
      cases q : K.lookup a with
      | none => rfl
      | some o => exact absurd ⟨o, q⟩ hk
    refine key (fun b => if b = a then some (.frz { cls := .type "list", data := .seq us.toArray } (.lst (ns.map V.int))) else none) (fun b => ?_) (.inl (.inr ⟨_, if_pos rfl⟩)) (fun b u z => ?_) (fun b z => ?_) fun _ => hk'
    · by_cases hb : b = a
      · exact .inr ⟨_, _, if_pos hb⟩
      · exact .inl (if_neg hb)
    · by_cases hb : b = a
      · subst hb
        cases (if_pos rfl).symm.trans z
        exact ⟨obj, by rw [List.length_map]; exact len, us, _, rel, obj⟩
      · cases (if_neg hb).symm.trans z
    · by_cases hb : b = a
      · exact hb
      · exact absurd (if_neg hb) z
theorem walkG {l : PySem.W.OpenLaw} {n k : Nat} {q : Program} {loose : List Str} {XP : (Str → Option Value) → Heap → Prop} {YP : World → Heap → Prop} {d : DefRec} {CX : CXT} {x : Str}
    (most : l.most = some n) (line : n ≤ sizeLine) (dfl : d.params.defaults = []) (room : Room k callerA)
    (F : ∀ (w : World) (mg : Str → Option Value) (fa : Addr) (h : Heap), YP w h → h.Ns mainGlobals mg → mg d.name = some (.ref fa) →
      ∃ (K : PySem.W.Frag) (fd : FuncData) (sp : Sp), K.In h ∧ (∀ (s : Shared) (u : Value), BindsTo s fd ⟨[u], []⟩ [(x, u)]) ∧
        (∀ (H : Hp) (a : Addr) (ns : List Int), ns.length ≤ n → SqL K H a (ns.map V.int) → sp [.ref a] H (fun v _ => v = .bl true) fun _ _ _ => False) ∧
        ∀ base : Heap, K.In base → base.Ns mainGlobals mg → FnG l.prog w K mg base CX k fa fd [x] sp)
    (hCX : ∀ (H : Hp) (s : Shared) (e : Value) (s' : Shared), CX [] H s (fun _ _ _ => False) e s' → False) :
    PySem.W.WalkO q loose XP YP l.row.toRowW d [] (fun f vs => PySem.call f vs) :=
  Att.attach_call most dfl fun w _ t mg mb fa _ _ _ _ a us ns Gd Y _ _ _ hmg hobj hints hlen hg => by
    obtain ⟨K, fd, sp, kin, bind, hsp, hF⟩ := F w mg fa _ Y Gd.T.g hmg
    exact lawG kin Gd.T.g Gd.T.b Gd.T.builtins Gd.T.nolimit hg hobj hints (Nat.le_trans hlen line) room hF bind (fun H sq => hsp H a ns hlen sq) fun H e s' => hCX H t e s'
end DW

set_option Elab.async false
set_option linter.all false
set_option maxRecDepth 100000
set_option maxHeartbeats 4000000
/-! DWF: defs by their names; a law's end -/
namespace DW
open PySem PySem.Spec PyProof.Rows L2
def IsDef (K : PySem.W.Frag) (mg : Str → Option Value) (x : Str) (st : Stmt) : Prop := ∃ f fd, FunD K x x (defArgs st) (defBody st) (defScope st) [] [] f fd ∧ mg x = some (.ref f)
def Has (P : Program) (w : World) (K : PySem.W.Frag) (mg : Str → Option Value) (base : Heap) (x : Str) (ps : List Str) (fn : Fn) (k : Nat) : Prop :=
  ∃ f fd, mg x = some (.ref f) ∧ PySem.W.keepIn K (.ref f) = true ∧ Binds K fd ps [] ∧ FnG P w K mg base CX0 k f fd ps (spF ⟨K, mg⟩ fn)
def HasM (P : Program) (w : World) (K : PySem.W.Frag) (mg : Str → Option Value) (base : Heap) (x : Str) (ps : List Str) (fn : FnM) (k : Nat) : Prop :=
  ∃ f fd, mg x = some (.ref f) ∧ PySem.W.keepIn K (.ref f) = true ∧ Binds K fd ps [] ∧ FnG P w K mg base CX0 k f fd ps (spM ⟨K, mg⟩ fn)
section
variable {P : Program} {w : World} {K : PySem.W.Frag} {mg : Str → Option Value} {base : Heap}
theorem fnD0 {x qual : Str} {params : Arguments} {bd : List Stmt} {scope : Scope} {f : Addr} {fd : FuncData} {N ps : List Str} {k : Nat} {body : Rho → SR} (F : FunD K x qual params bd scope [] [] f fd) (S : FnScope N ps scope) (hN : ps.length ≤ N.length)
    (hb : ∀ (cdv : Value) (A : Around) (outer : List Env) (s : Shared) (H : Hp) (E : XK), Room k (A.deeper (envOfC qual scope s.heap.objs.size f cdv)) → Quiet (A.deeper (envOfC qual scope s.heap.objs.size f cdv)) → CdOk K f cdv → DSs (cxOf CX0 P w K mg base N qual scope f cdv A outer s H E).nox WF bd body) :
    FnG P w K mg base CX0 (k + 1) f fd ps (spF ⟨K, mg⟩ (runF ps.length N.length body)) := by
  have lem : ∀ ds : List Dt, (∃ s, runF ps.length N.length body ds = .ok s) → ds.length = ps.length := fun ds ⟨s, h⟩ => by
    unfold runF at h
    split at h
    · assumption
    · cases h
  refine fnG F S (fun vs H Q E h => ?_) (fun cdv A outer s H vs Q E hr hq hcd h => ?_)
  · obtain ⟨H0, ds, h1, tb, h2, h3⟩ := h
    cases e : runF ps.length N.length body ds with
    | ok s => rw [h2.length]; exact lem ds ⟨s, e⟩
    | ex _ => rw [e] at h3; exact h3.elim
    | bad => rw [e] at h3; exact h3.elim
  · obtain ⟨H0, ds, h1, tb, h2, h3⟩ := h
    have hl : ds.length = ps.length := by
      cases e : runF ps.length N.length body ds with
      | ok s => exact lem ds ⟨s, e⟩
      | ex _ => rw [e] at h3; exact h3.elim
      | bad => rw [e] at h3; exact h3.elim
    refine ⟨_, PSs.nox (hb cdv A outer s H E hr hq hcd ⟨H0, H, none⟩), H0, envOf N.length ds, en_start h1 tb h2 (by omega), ?_⟩
    unfold runF at h3
    rw [if_pos hl] at h3
    cases e : body (envOf N.length ds) with
    | nx ρ' =>
      rw [e] at h3
      exact fun σ' H0' H' E' _ => h3 _ H0' H' E'.gr E'.tb E'.ex (Da.non : Da K H0' .non .non)
    | rt s ρ' =>
      rw [e] at h3
      exact fun v σ' H0' H' E' hs => h3 _ H0' H' E'.gr E'.tb E'.ex hs
    | bk _ => rw [e] at h3; exact h3.elim
    | ct _ => rw [e] at h3; exact h3.elim
    | ex _ _ => rw [e] at h3; exact h3.elim
    | bad => rw [e] at h3; exact h3.elim
theorem fnDM {x qual : Str} {params : Arguments} {bd : List Stmt} {scope : Scope} {f : Addr} {fd : FuncData} {N ps : List Str} {k : Nat} {body : Rho → SR} (F : FunD K x qual params bd scope [] [] f fd) (S : FnScope N ps scope) (hN : ps.length ≤ N.length)
    (hb : ∀ (cdv : Value) (A : Around) (outer : List Env) (s : Shared) (H : Hp) (E : XK), Room k (A.deeper (envOfC qual scope s.heap.objs.size f cdv)) → Quiet (A.deeper (envOfC qual scope s.heap.objs.size f cdv)) → CdOk K f cdv → DSs (cxOf CX0 P w K mg base N qual scope f cdv A outer s H E).nox WF bd body) :
    FnG P w K mg base CX0 (k + 1) f fd ps (spM ⟨K, mg⟩ (runM ps.length N.length body)) := by
  have lem : ∀ kvs (ds : List Dt), (∃ s kvs', runM ps.length N.length body kvs ds = .ok s kvs') → ds.length + 1 = ps.length := fun kvs ds ⟨s, kvs', h⟩ => by
    unfold runM at h
    split at h
    · assumption
    · cases h
  have lem2 : ∀ {Q : VK} {E : XK} {vs : List V} {H : Hp}, spM ⟨K, mg⟩ (runM ps.length N.length body) vs H Q E → vs.length = ps.length := fun {Q E vs H} h => by
    obtain ⟨H0, a, ks, kvs, vs', ds, rfl, h1, tb, h2, h3, h4, h5, h6⟩ := h
    cases e : runM ps.length N.length body kvs ds with
    | ok s kvs' => rw [List.length_cons, h5.length]; exact lem kvs ds ⟨s, kvs', e⟩
    | ex _ => rw [e] at h6; exact h6.elim
    | bad => rw [e] at h6; exact h6.elim
  refine fnG F S (fun vs H Q E h => lem2 h) (fun cdv A outer s H vs Q E hr hq hcd h => ?_)
  have hvl := lem2 h
  obtain ⟨H0, a, ks, kvs, vs', ds, rfl, h1, tb, h2, h3, h4, h5, h6⟩ := h
  have hl : ds.length + 1 = ps.length := by rw [List.length_cons, h5.length] at hvl; exact hvl
  refine ⟨_, PSs.nox (hb cdv A outer s H E hr hq hcd ⟨H0, H, some a⟩), H0, envM N.length kvs ds, en_startM h1 tb h2 h3 h4 h5 (by omega), ?_⟩
  unfold runM at h6
  rw [if_pos hl] at h6
  have atIo : ∀ {σ' : L2.St} {ρ' : Rho} {H0' H' : Hp} {kvs' : List (Key × Dt)}, En K ⟨H0, H, some a⟩ H0' H' σ' ρ' → ioOf ρ' = some kvs' → ∃ ks', H' a = some (.dK ks') ∧ DaKv K H0' ks' kvs' := fun {σ' ρ' H0' H' kvs'} E' hio => by
    obtain ⟨y1, ⟨kv, y2⟩, _⟩ := E'.io a rfl
    obtain ⟨v, z1, b, ks2, rfl, z2, z3, z4, z5⟩ := E'.sl 0 _ y2
    rw [y1] at z1
    cases z1
    refine ⟨ks2, z4, ?_⟩
    cases ρ' with
    | nil => cases y2
    | cons x r =>
      have hx : x = some (.io kv) := by simpa using y2
      subst hx
      have : kv = kvs' := by simpa [ioOf] using hio
      subst this
      exact z5
  cases e : body (envM N.length kvs ds) with
  | nx ρ' =>
    rw [e] at h6
    intro σ' H0' H' E' _
    cases e2 : ioOf ρ' with
    | none => dsimp only at h6; rw [e2] at h6; exact h6.elim
    | some kvs' =>
      dsimp only at h6
      rw [e2] at h6
      obtain ⟨ks', q1, q2⟩ := atIo E' e2
      exact h6 _ ks' H0' H' E'.gr E'.tb E'.ex q1 q2 (Da.non : Da K H0' .non .non)
  | rt s ρ' =>
    rw [e] at h6
    intro v σ' H0' H' E' hs
    cases e2 : ioOf ρ' with
    | none => dsimp only at h6; rw [e2] at h6; exact h6.elim
    | some kvs' =>
      dsimp only at h6
      rw [e2] at h6
      obtain ⟨ks', q1, q2⟩ := atIo E' e2
      exact h6 _ ks' H0' H' E'.gr E'.tb E'.ex q1 q2 hs
  | bk _ => rw [e] at h6; exact h6.elim
  | ct _ => rw [e] at h6; exact h6.elim
  | ex _ _ => rw [e] at h6; exact h6.elim
  | bad => rw [e] at h6; exact h6.elim
theorem has0 {x : Str} {st : Stmt} {N ps : List Str} {k : Nat} {body : Rho → SR} (D : IsDef K mg x st) (S : FnScope N ps (defScope st)) (hN : ps.length ≤ N.length)
    (hbi : ∀ (kV doc pm : Value) (an : Option Addr) (cdv ct : Value) (us : List Value), us.length = ps.length → bindArgs (PySem.W.fnOf x x (defArgs st) (defBody st) (defScope st) .none kV doc pm an cdv ct) ⟨us, []⟩ = pure (ps.zip us))
    (hb : ∀ (f : Addr) (cdv : Value) (A : Around) (outer : List Env) (s : Shared) (H : Hp) (E : XK), Room k (A.deeper (envOfC x (defScope st) s.heap.objs.size f cdv)) → Quiet (A.deeper (envOfC x (defScope st) s.heap.objs.size f cdv)) → mg x = some (.ref f) ∧ CdOk K f cdv → DSs (cxOf CX0 P w K mg base N x (defScope st) f cdv A outer s H E).nox WF (defBody st) body) :
    Has P w K mg base x ps (runF ps.length N.length body) (k + 1) := by
  obtain ⟨f, fd, F, hm⟩ := D
  exact ⟨f, fd, hm, F.kp, F.bindsN hbi, fnD0 F S hN fun cdv A outer s H E hr hq hc => hb f cdv A outer s H E hr hq ⟨hm, hc⟩⟩
theorem hasM {x : Str} {st : Stmt} {N ps : List Str} {k : Nat} {body : Rho → SR} (D : IsDef K mg x st) (S : FnScope N ps (defScope st)) (hN : ps.length ≤ N.length)
    (hbi : ∀ (kV doc pm : Value) (an : Option Addr) (cdv ct : Value) (us : List Value), us.length = ps.length → bindArgs (PySem.W.fnOf x x (defArgs st) (defBody st) (defScope st) .none kV doc pm an cdv ct) ⟨us, []⟩ = pure (ps.zip us))
    (hb : ∀ (f : Addr) (cdv : Value) (A : Around) (outer : List Env) (s : Shared) (H : Hp) (E : XK), Room k (A.deeper (envOfC x (defScope st) s.heap.objs.size f cdv)) → Quiet (A.deeper (envOfC x (defScope st) s.heap.objs.size f cdv)) → mg x = some (.ref f) ∧ CdOk K f cdv → DSs (cxOf CX0 P w K mg base N x (defScope st) f cdv A outer s H E).nox WF (defBody st) body) :
    HasM P w K mg base x ps (runM ps.length N.length body) (k + 1) := by
  obtain ⟨f, fd, F, hm⟩ := D
  exact ⟨f, fd, hm, F.kp, F.bindsN hbi, fnDM F S hN fun cdv A outer s H E hr hq hc => hb f cdv A outer s H E hr hq ⟨hm, hc⟩⟩
end
section
variable {X : Cx} {W : WX} {e : Expr} {es : List Expr} {pos p p2 : Pos} {fa : Rho → R (List Dt)} {k j : Nat} {ps : List Str} {x : Str}
theorem de_h {fn : Fn} (h : Has X.prog X.w X.K X.mg X.base x ps fn j) (hr : Room k X.A) (hq : Quiet X.A) (hjk : j ≤ k) (hg : Gl X x)
    (ha : DA X W (e :: es) fa) (hdb : (x == ("__debug__" : Str)) = false := by decide) (he : starEach (e :: es) X.env = (false, eval e X.env) :: starEach es X.env := by rfl) (hpl : (backTo pos (starEach es X.env)).any (·.1) = false := by rfl) :
    DE X W (.Call (.Name x p) (e :: es) [] pos) (callF fn fa) := by
  obtain ⟨f, fd, hm, hk, hb, G⟩ := h
  exact fun F => PE.wk (pe_callG G (hr.mono hjk) hq hg hm hk hb pass0 (ha F) hdb he hpl) fun _ _ _ h => tCall_of h
theorem de_h0 {fn : Fn} (h : Has X.prog X.w X.K X.mg X.base x ps fn j) (hr : Room k X.A) (hq : Quiet X.A) (hjk : j ≤ k) (hg : Gl X x) (hdb : (x == ("__debug__" : Str)) = false := by decide) : DE X W (.Call (.Name x p) [] [] pos) (callF fn nilA) := by
  obtain ⟨f, fd, hm, hk, hb, G⟩ := h
  exact fun F => PE.wk (pe_callG0 G (hr.mono hjk) hq hg hm hk hb pass0 hdb) fun σ H Q h => by
    obtain ⟨H0, ρ, E, q⟩ := tCall_of (E := E0) h
    exact q [] H0 H E Mv.refl .nil
theorem do_h {fn : Fn} (h : Has X.prog X.w X.K X.mg X.base x ps fn j) (hr : Room k X.A) (hq : Quiet X.A) (hjk : j ≤ k) (hg : Gl X x)
    (ha : DA X W (e :: es) fa) (hdb : (x == ("__debug__" : Str)) = false := by decide) (he : starEach (e :: es) X.env = (false, eval e X.env) :: starEach es X.env := by rfl) (hpl : (backTo pos (starEach es X.env)).any (·.1) = false := by rfl) :
    DO X W (.Call (.Name x p) (e :: es) [] pos) (callO fn fa) := by
  obtain ⟨f, fd, hm, hk, hb, G⟩ := h
  exact fun F => PE.wk (pe_callG G (hr.mono hjk) hq hg hm hk hb pass0 (ha F) hdb he hpl) fun _ _ _ h => tCallO_of h
theorem de_hM {fn : FnM} {i : Nat} {y : Str} (h : HasM X.prog X.w X.K X.mg X.base x ps fn j) (hr : Room k X.A) (hq : Quiet X.A) (hjk : j ≤ k) (hg : Gl X x)
    (hy : PE X (.Name y p2) (tVar i)) (ha : DA X W es fa) (hdb : (x == ("__debug__" : Str)) = false := by decide) (he : starEach (.Name y p2 :: es) X.env = (false, eval (.Name y p2) X.env) :: starEach es X.env := by rfl) (hpl : (backTo pos (starEach es X.env)).any (·.1) = false := by rfl) :
    DE X W (.Call (.Name x p) (.Name y p2 :: es) [] pos) (callM fn i fa) := by
  obtain ⟨f, fd, hm, hk, hb, G⟩ := h
  exact fun F => PE.wk (pe_callG G (hr.mono hjk) hq hg hm hk hb pass0 (pa_cons hy (ha F) he) hdb he hpl) fun _ _ _ h => tCallM_of h
end
theorem u64 {A : Around} {k : Nat} (hr : Room k A) : A.units + 64 < cLine := by have := hr.un; omega
theorem u1 {A : Around} {k : Nat} (hr : Room k A) : A.units + 1 < cLine := by have := hr.un; omega
/-- the law's promise from its function: the tables are not the base's -/
theorem law_sp {K : PySem.W.Frag} {mg : Str → Option Value} {fn : Fn} (h : ∀ ns : List Int, ns.length ≤ 63 → fn [.scr ns] = .ok (.fr (.bl true))) (H : Hp) (a : Addr) (ns : List Int) (hl : ns.length ≤ 63) (hS : SqL K H a (ns.map V.int)) (hT : ∀ p ∈ tT K, H p.1 = some (.tbl #[])) : spF ⟨K, mg⟩ fn [.ref a] H (fun v _ => v = .bl true) fun _ _ _ => False := by
  have sm : Same (fun b => match H b with | some (.tbl _) => none | o => o) H := fun b o e => by
    dsimp only at e
    split at e
    · cases e
    · exact e
  have hS0 : SqL K (fun b => match H b with | some (.tbl _) => none | o => o) a (ns.map V.int) := by
    rcases hS with (h | ⟨o, h⟩) | h
    · exact .inl (.inl (by show (match H a with | some (.tbl _) => none | o => o) = _; rw [h]))
    · exact .inl (.inr ⟨o, by show (match H a with | some (.tbl _) => none | o => o) = _; rw [h]⟩)
    · exact .inr h
  refine ⟨_, [.scr ns], sm, fun p hp => ⟨?_, LamX.TabS.nil (hT p hp)⟩, .cons (.scr hS0) .nil, ?_⟩
  · show (match H p.1 with | some (.tbl _) => none | o => o) = _
    rw [hT p hp]
  · rw [h ns hl]
    intro v H0' H' _ _ _ hv
    cases hv
    rfl
end DW

set_option Elab.async false
set_option linter.all false
set_option maxRecDepth 100000
set_option maxHeartbeats 4000000
/-! DWG: repr -/
namespace DW
open PySem PySem.Spec PyProof.Rows L2
mutual
/-- a bound of a thing's text -/
def wtD : Dt → Nat
  | .lst xs => wtAll xs + 2
  | .tup xs => wtAll xs + 3
  | .dct _ => 0
  | .non => 4
  | .bl _ => 5
  | .int _ => 600
  | .str x => (reprText x).length
  | .scr ns => 602 * ns.length + 2
  | .xo _ _ _ => 0
def wtAll : List Dt → Nat
  | [] => 0
  | d :: ds => wtD d + 2 + wtAll ds
end
theorem ints_noDict : ∀ ns : List Int, PyData.hasDictAll (ns.map PyData.int) = false
  | [] => rfl
  | n :: ns => by simpa [PyData.hasDictAll, PyData.hasDict] using ints_noDict ns
mutual
theorem plain_noDict : ∀ d : Dt, plainD d = true → (toPy d).hasDict = false
  | .lst xs, h => by simp only [toPy, PyData.hasDict]; exact plain_noDictAll xs (by simpa [plainD] using h)
  | .tup xs, h => by simp only [toPy, PyData.hasDict]; exact plain_noDictAll xs (by simpa [plainD] using h)
  | .dct _, h => by simp [plainD] at h
  | .non, _ => by simp [toPy, PyData.hasDict]
  | .bl _, _ => by simp [toPy, PyData.hasDict]
  | .int _, _ => by simp [toPy, PyData.hasDict]
  | .str _, _ => by simp [toPy, PyData.hasDict]
  | .scr ns, _ => by
    simp only [toPy, PyData.hasDict]
    exact ints_noDict ns
  | .xo _ _ _, h => by simp [plainD] at h
theorem plain_noDictAll : ∀ ds : List Dt, plainAll ds = true → PyData.hasDictAll (toPyAll ds) = false
  | [], _ => rfl
  | d :: ds, h => by
    simp only [plainAll, Bool.and_eq_true] at h
    simp only [toPyAll, PyData.hasDictAll, plain_noDict d h.1, plain_noDictAll ds h.2, Bool.or_self]
end
theorem listText_len_le (ts : List Str) : (listText ts).length ≤ piled ts + 2 := by
  cases ts with
  | nil => decide
  | cons t r =>
    have h := textFrom_length_pos r 1 (("[" : Str) ++ (if (0 : Nat) > 0 then ", " else "" : String) ++ t) (Nat.succ_pos 0)
    have e : ((("[" : Str) ++ (if (0 : Nat) > 0 then ", " else "" : String) ++ t)).length = 1 + t.length := by
      rw [strLen_append, strLen_append]; rfl
    have hX : (listText (t :: r)).length = (textFrom 0 "[" (t :: r)).length + 1 := by
      show (textFrom 0 "[" (t :: r) ++ "]").length = _
      rw [strLen_append]; rfl
    have hY : (textFrom 0 "[" (t :: r)).length = (textFrom 1 (("[" : Str) ++ (if (0 : Nat) > 0 then ", " else "" : String) ++ t) r).length := rfl
    rw [hX, hY, h, e, piled_cons]; omega
theorem tupleText_len_le (ts : List Str) : (tupleText ts).length ≤ piled ts + 3 := by
  unfold tupleText
  rw [strLen_append, strLen_append]
  have e1 : ((("(" : String) : Str)).length = 1 := rfl
  have e3 : (((if ts.length == 1 then ",)" else ")" : String) : Str)).length ≤ 2 := by split <;> decide
  rw [e1]
  by_cases h : ts = []
  · subst h
    have : (Str.join ", " ([] : List Str)).length = 0 := rfl
    omega
  · have := join_length_add ts h
    omega
theorem int_len {i : Int} (h : i.natAbs.log2 < 1920) : (Str.ofString (toString i)).length ≤ 600 := by
  have h2 : i.natAbs < 2 ^ 1920 := by
    by_cases z : i.natAbs = 0
    · rw [z]; exact Nat.two_pow_pos 1920
    · exact (Nat.log2_lt z).mp h
  have h3 : i.natAbs < 10 ^ 599 := Nat.lt_of_lt_of_le h2 (by decide +kernel)
  have e := int_text_length_le10 (k := 599) (by decide) h3
  rw [PySem.ofString_length]; omega
theorem shownAll_eq : ∀ ds : List PyData, PyData.shownAll ds = ds.map PyData.shown
  | [] => rfl
  | d :: ds => by simp [PyData.shownAll, shownAll_eq ds]
theorem ints_len : ∀ ns : List Int, PyData.showableAll (ns.map PyData.int) = true → piled (PyData.shownAll (ns.map PyData.int)) ≤ 602 * ns.length
  | [], _ => Nat.le_refl _
  | n :: ns, h => by
    simp only [List.map_cons, PyData.showableAll, PyData.showable, Bool.and_eq_true, decide_eq_true_eq] at h
    have h1 := ints_len ns h.2
    have h2 := int_len h.1
    simp only [List.map_cons, PyData.shownAll, PyData.shown, piled_cons, List.length_cons]
    omega
mutual
theorem shown_len : ∀ d : Dt, (toPy d).showable = true → plainD d = true → (toPy d).shown.length ≤ wtD d
  | .lst xs, h, p => by
    have := listText_len_le (PyData.shownAll (toPyAll xs))
    have := shown_lenAll xs (by simpa [toPy, PyData.showable] using h) (by simpa [plainD] using p)
    simp only [toPy, PyData.shown, wtD]
    omega
  | .tup xs, h, p => by
    have := tupleText_len_le (PyData.shownAll (toPyAll xs))
    have := shown_lenAll xs (by simpa [toPy, PyData.showable] using h) (by simpa [plainD] using p)
    simp only [toPy, PyData.shown, wtD]
    omega
  | .dct _, _, p => by simp [plainD] at p
  | .xo _ _ _, _, p => by simp [plainD] at p
  | .non, _, _ => by decide
  | .bl b, _, _ => by cases b <;> decide
  | .int i, h, _ => by
    simp only [toPy, PyData.showable, decide_eq_true_eq] at h
    exact int_len h
  | .str _, _, _ => Nat.le_refl _
  | .scr ns, h, _ => by
    have := listText_len_le (PyData.shownAll (ns.map PyData.int))
    have := ints_len ns (by simpa [toPy, PyData.showable] using h)
    simp only [toPy, PyData.shown, wtD]
    omega
theorem shown_lenAll : ∀ ds : List Dt, PyData.showableAll (toPyAll ds) = true → plainAll ds = true → piled (PyData.shownAll (toPyAll ds)) ≤ wtAll ds
  | [], _, _ => Nat.le_refl _
  | d :: ds, h, p => by
    simp only [toPyAll, PyData.showableAll, Bool.and_eq_true] at h
    simp only [plainAll, Bool.and_eq_true] at p
    have h1 := shown_lenAll ds h.2 p.2
    have h2 := shown_len d h.1 p.1
    simp only [toPyAll, PyData.shownAll, piled_cons, wtAll]
    omega
end
def reprOk (d : Dt) : Bool := plainD d && (toPy d).showable && decide ((toPy d).depth ≤ 50) && decide (wtD d ≤ 16000000)
def reprD (d : Dt) : Option Dt := if reprOk d = true then some (.str (toPy d).shown) else none
section
variable {X : Cx} {W : WX} {e : Expr} {pos p : Pos} {f1 : Rho → R Dt}
def rRepr (K : PySem.W.Frag) : V → Hp → VK → Prop := fun x H Q => ∃ d, Dp K H x d ∧ d.showable = true ∧ d.hasDict = false ∧ d.depth ≤ 50 ∧ d.shown.length ≤ sizeLine ∧ Q (.str d.shown) H
theorem cr_repr (hu : X.A.units + 64 < cLine) (hq : Quiet X.A) : CallR X (.builtin "repr") (fun xs H Q => ∃ x, xs = [x] ∧ rRepr X.K x H Q) := by
  intro pins s σ H xs us Q I r h
  obtain ⟨x, rfl, d, hd, hs, hn, hp, hl, q⟩ := h
  obtain ⟨u, rfl, ru⟩ := vals1 r
  cases hd with
  | non => cases ru; exact PySem.P.repr_of_none ⟨.str _, H, I.tok _, ⟨_, rfl⟩, q⟩
  | bl b => cases ru; exact PySem.P.repr_of_bool ⟨.str _, H, I.tok _, ⟨_, rfl⟩, q⟩
  | int i =>
    obtain ⟨t, rfl⟩ := ru
    exact PySem.P.repr_of_int (by simpa [PyData.showable] using hs) ⟨.str _, H, I.tok _, ⟨_, rfl⟩, q⟩
  | str i =>
    obtain ⟨t, rfl⟩ := ru
    exact PySem.P.repr_of_str ⟨.str _, H, I.tok _, ⟨_, rfl⟩, q⟩ hl
  | lst h1 h2 =>
    obtain ⟨as, rd⟩ := Dp.reads I _ _ _ (.lst h1 h2) ru
    cases ru
    exact repr_of_reads' rd hs (PyData.noDict_hsm hn) hq (by omega) (fun _ _ e => e) (fun h' u tk hk => ⟨.str _, H, I.kept hk, ⟨_, rfl⟩, q⟩) hl
  | tup h1 h2 =>
    obtain ⟨as, rd⟩ := Dp.reads I _ _ _ (.tup h1 h2) ru
    cases ru
    exact repr_of_reads' rd hs (PyData.noDict_hsm hn) hq (by omega) (fun _ _ e => e) (fun h' u tk hk => ⟨.str _, H, I.kept hk, ⟨_, rfl⟩, q⟩) hl
theorem und_repr (K : PySem.W.Frag) : UnD K (fun x H Q => ∃ y, [x] = [y] ∧ rRepr K y H Q) reprD := by
  intro x d z H0 H s hx hg Q k
  unfold reprD at hg
  split at hg
  · rename_i h
    cases hg
    simp only [reprOk, Bool.and_eq_true, decide_eq_true_eq] at h
    obtain ⟨⟨⟨h1, h2⟩, h3⟩, h4⟩ := h
    exact ⟨x, rfl, toPy d, Da.dp (Pk.up s hx) h1, h2, plain_noDict d h1, h3, Nat.le_trans (Nat.le_trans (shown_len d h2 h1) h4) (by decide), sc s (.str _) k⟩
  · cases hg
theorem de_repr (hu : X.A.units + 64 < cLine) (hq : Quiet X.A) (hg : Gl X "repr") (hm : X.mg "repr" = none) (ha : DK X W e f1) (he : starEach (e :: []) X.env = (false, eval e X.env) :: starEach [] X.env := by rfl) : DE X W (.Call (.Name "repr" p) [e] [] pos) (un reprD f1) :=
  de_b1 (cr_repr hu hq) (und_repr _) hg hm (by decide +kernel) ha (he := he)
end
end DW

set_option Elab.async false
set_option linter.all false
set_option maxRecDepth 100000
set_option maxHeartbeats 4000000
/-! DWH: dict displays; min and max of two; [::-1] -/
namespace DW
open PySem PySem.Spec PyProof.Rows L2
def pairsF : List ((Rho → R Dt) × (Rho → R Dt)) → Rho → R (List (Key × Dt))
  | [], ρ => .ok [] ρ
  | (fk, fv) :: r, ρ => (fk ρ).bind fun kd ρ1 => (fv ρ1).bind fun vd ρ2 => match keyD kd with
    | some k => (pairsF r ρ2).bind fun ps ρ3 => .ok ((k, vd) :: ps) ρ3
    | none => .bad
def dispO (fps : List ((Rho → R Dt) × (Rho → R Dt))) : Rho → R Sl := fun ρ => (pairsF fps ρ).bind fun kvs ρ1 => if kvs.length ≤ 15 then .ok (.od (mergeD [] kvs)) ρ1 else .bad
section
variable {K : PySem.W.Frag} {F : Fm} {H0 H H0' H' : Hp} {σ : L2.St} {ρ : Rho} {v : V} {d : Dt} {s : Sl} {i : Nat} {a p : Addr} {o : HO} {g : Gx} {W : WX}
def tPr (g : Gx) (F : Fm) (W : WX) (fps : List ((Rho → R Dt) × (Rho → R Dt))) (σ : L2.St) (H : Hp) (Q : List (V × V) → Hp → Prop) : Prop := ∃ H0 ρ, En g.K F H0 H σ ρ ∧ match pairsF fps ρ with
  | .ok kvs ρ' => ∀ vs H0' H', En g.K F H0' H' σ ρ' → Mv σ ρ ρ' H0 H H0' H' → DaKv g.K H0' vs kvs → Q (vs.map fun kv => (kV kv.1, kv.2)) H'
  | .ex e ρ' => XW g F W σ e ρ'
  | .bad => False
theorem tPr_pairs : ∀ (fps : List ((Rho → R Dt) × (Rho → R Dt))) {H : Hp} {Q : List (V × V) → Hp → Prop}, tPr g F W fps σ H Q → tPairs (fps.map fun p => (tD g F W p.1, tD g F W p.2)) σ H Q
  | [], H, Q, ⟨H0, ρ, E, q⟩ => q [] H0 H E Mv.refl .nil
  | (fk, fv) :: r, H, Q, ⟨H0, ρ, E, q⟩ => by
    refine ⟨H0, ρ, E, ?_⟩
    simp only [pairsF] at q
    dsimp only
    cases e1 : fk ρ with
    | bad => rw [e1] at q; exact q
    | ex x ρ1 => rw [e1] at q; exact q
    | ok kd ρ1 =>
      rw [e1] at q
      dsimp only [R.bind] at q
      intro x C0 C E1 m1 d1
      refine ⟨C0, ρ1, E1, ?_⟩
      dsimp only
      cases e2 : fv ρ1 with
      | bad => rw [e2] at q; exact q
      | ex x ρ1 => rw [e2] at q; exact q
      | ok vd ρ2 =>
        rw [e2] at q
        dsimp only at q
        intro y D0 D E2 m2 d2
        cases e3 : keyD kd with
        | none => rw [e3] at q; exact q.elim
        | some k =>
          rw [e3] at q
          dsimp only at q
          have hx : x = kV k := keyD_V (H := C) (Da.pk E1.ex d1) e3
          subst hx
          refine tPr_pairs r ⟨D0, ρ2, E2, ?_⟩
          cases e4 : pairsF r ρ2 with
          | bad => rw [e4] at q; exact q
          | ex x ρ1 => rw [e4] at q; exact q
          | ok ps ρ3 =>
            rw [e4] at q
            dsimp only at q
            intro vs I0 I E3 m3 d3
            exact q ((k, y) :: vs) I0 I E3 ((m1.trans m2).trans m3) (.cons (d2.mono m3.b0) d3)
theorem tDisp_of {fps : List ((Rho → R Dt) × (Rho → R Dt))} {Q : VK} (h : tO g F W (dispO fps) σ H Q) : tDisp (fps.map fun p => (tD g F W p.1, tD g F W p.2)) σ H Q := by
  obtain ⟨H0, ρ, E, q⟩ := h
  intro p hp
  have nO := E.notOwn hp
  have h0 := E.up0 hp
  have hF := E.upF hp
  refine tPr_pairs fps ⟨H0, ρ, E.beside h0 hF nO (.inr (.inr hp)), ?_⟩
  unfold dispO at q
  cases e : pairsF fps ρ with
  | bad => rw [e] at q; exact q
  | ex x ρ1 => rw [e] at q; exact q
  | ok kvs ρ1 =>
    rw [e] at q
    dsimp only [R.bind] at q
    by_cases hl : kvs.length ≤ 15
    · rw [if_pos hl] at q
      dsimp only at q
      intro vs C0 C E1 m1 d1
      have hC : C p = some (.dK []) := m1.kd p upd_same nO
      have hC0 : C0 p = none := m1.off p (by rw [upd_same]; exact fun z => nomatch z) h0 nO
      have n1 : ¬ OwnAt σ ρ1 p := fun z => nO (m1.sub p z)
      refine ⟨hC, vs, rfl, by rw [d1.length]; exact hl, ?_⟩
      refine q _ C0 _ (E1.beside hC0 hF n1 (.inr (.inl ⟨_, hC⟩))) ⟨m1.b0, fun a o ha nt ho => ?_, fun a ha h ho => ?_, m1.sub, fun a ha => ?_⟩ ⟨p, _, rfl, hC0, hF, upd_same, DaKv.merge d1 .nil⟩ fun _ b z => by cases z; exact hp
      · have hn : a ≠ p := ne_of_none ha hp
        rw [upd_ne hn]
        exact m1.keep a o (by rw [upd_ne hn]; exact ha) nt ho
      · have hn : a ≠ p := fun z => ha (z ▸ hp)
        exact m1.off a (by rw [upd_ne hn]; exact ha) h ho
      · have hn : a ≠ p := fun z => ha (z ▸ hp)
        rw [upd_ne hn]
        exact m1.st a (by rw [upd_ne hn]; exact ha)
    · rw [if_neg hl] at q
      exact q.elim
end
section
variable {X : Cx} {W : WX} {a b c e : Expr} {es : List Expr} {pos p p2 p3 : Pos} {f1 f2 f3 : Rho → R Dt} {fa : Rho → R (List Dt)} {fo : Rho → R Sl}
def DPr (X : Cx) (W : WX) (pos : Pos) (ks : List (Option Expr)) (vs : List Expr) (fps : List ((Rho → R Dt) × (Rho → R Dt))) : Prop := ∀ F, PPs X pos ks vs (fps.map fun p => (tD (gx X) F W p.1, tD (gx X) F W p.2))
theorem dpr_nil : DPr X W pos [] [] [] := fun F => pps_nil
theorem dpr_cons {k v : Expr} {ks : List (Option Expr)} {vs : List Expr} {fps} (hk : DE X W k f1) (hv : DE X W v f2) (hr : DPr X W pos ks vs fps) : DPr X W pos (some k :: ks) (v :: vs) ((f1, f2) :: fps) := fun F => pps_cons (hk F) (hv F) (hr F)
theorem do_disp {ks : List (Option Expr)} {vs : List Expr} {fps} (h : DPr X W pos ks vs fps) (hall : ks.all (·.isSome) = true) (hl : ks.length = vs.length) (h0 : ks ≠ []) (h15 : ks.length ≤ 15) : DO X W (.Dict ks vs pos) (dispO fps) := fun F => PE.wk (pe_disp (h F) hall hl h0 h15) fun _ _ _ q => tDisp_of q
/-! ### built-in functions of two things -/
def CbD (K : PySem.W.Frag) (r : List V → Hp → VK → Prop) (gg : List Dt → Option Dt) : Prop := ∀ xs ds z H0 H, Same H0 H → DaAll K H0 xs ds → gg ds = some z → ∀ Q : VK, (∀ v H0' H', Gr ⟨H0, H, none⟩ H0' H' → Same H0' H' → Da K H0' v z → Q v H') → r xs H Q
theorem tCB_of {g : Gx} {F : Fm} {f : Rho → R (List Dt)} {r : List V → Hp → VK → Prop} {gg : List Dt → Option Dt} (hr : CbD g.K r gg) {σ : L2.St} {H : Hp} {Q : VK} (h : tD g F W (cb gg f) σ H Q) : tCB r (tDA g F W f) σ H Q := by
  obtain ⟨H0, ρ, E, q⟩ := h
  refine ⟨H0, ρ, E, ?_⟩
  unfold cb at q
  cases e : f ρ with
  | bad => rw [e] at q; exact q
  | ex x ρ1 => rw [e] at q; exact q
  | ok ds ρ1 =>
    rw [e] at q
    dsimp only [R.bind] at q
    intro vs C0 C E1 m1 d1
    cases e2 : gg ds with
    | none => rw [e2] at q; exact q.elim
    | some z =>
      rw [e2] at q
      refine hr vs ds z C0 C E1.ex d1 e2 Q fun v I0 I gr s4 d4 => ?_
      obtain ⟨E4, m4⟩ := E1.post m1 gr s4
      exact q v I0 I E4 m4 d4
theorem de_bn {x : Str} {id : String} {r : List V → Hp → VK → Prop} {gg : List Dt → Option Dt} (hc : CallR X (.builtin id) r) (hr : CbD X.K r gg) (hg : Gl X x) (hm : X.mg x = none) (hv : bootBuiltins x = some (.builtin id)) (ha : DA X W (e :: es) fa)
    (hn : x ≠ "__name__" := by decide) (hdb : (x == ("__debug__" : Str)) = false := by decide) (he : starEach (e :: es) X.env = (false, eval e X.env) :: starEach es X.env := by rfl) (hpl : (backTo pos (starEach es X.env)).any (·.1) = false := by rfl) :
    DE X W (.Call (.Name x p) (e :: es) [] pos) (cb gg fa) := fun F => PE.wk (pe_callB hc hg hm hv (ha F) hn hdb he hpl) fun _ _ _ h => tCB_of hr h
def min2D : List Dt → Option Dt
  | [.int i, .int j] => some (.int (if j < i then j else i))
  | _ => none
def max2D : List Dt → Option Dt
  | [.int i, .int j] => some (.int (if j > i then j else i))
  | _ => none
theorem cbd_min2 (K : PySem.W.Frag) : CbD K (fun xs H Q => ∃ i j, xs = [.int i, .int j] ∧ Q (.int (if j < i then j else i)) H) min2D := by
  intro xs ds z H0 H s hx hg Q k
  unfold min2D at hg
  split at hg
  · cases hg
    cases hx with
    | cons h1 h2 => cases h2 with
      | cons h2 h3 => cases h3; cases h1; cases h2; exact ⟨_, _, rfl, sc s (.int _) k⟩
  · cases hg
theorem cbd_max2 (K : PySem.W.Frag) : CbD K (fun xs H Q => ∃ i j, xs = [.int i, .int j] ∧ Q (.int (if j > i then j else i)) H) max2D := by
  intro xs ds z H0 H s hx hg Q k
  unfold max2D at hg
  split at hg
  · cases hg
    cases hx with
    | cons h1 h2 => cases h2 with
      | cons h2 h3 => cases h3; cases h1; cases h2; exact ⟨_, _, rfl, sc s (.int _) k⟩
  · cases hg
theorem de_min2 (hc : X.calm = true) (hg : Gl X "min") (hm : X.mg "min" = none) (ha : DA X W (e :: es) fa) (he : starEach (e :: es) X.env = (false, eval e X.env) :: starEach es X.env := by rfl) (hpl : (backTo pos (starEach es X.env)).any (·.1) = false := by rfl) :
    DE X W (.Call (.Name "min" p) (e :: es) [] pos) (cb min2D fa) := de_bn (call_min2 hc) (cbd_min2 _) hg hm (by decide +kernel) ha (he := he) (hpl := hpl)
theorem de_max2 (hc : X.calm = true) (hg : Gl X "max") (hm : X.mg "max" = none) (ha : DA X W (e :: es) fa) (he : starEach (e :: es) X.env = (false, eval e X.env) :: starEach es X.env := by rfl) (hpl : (backTo pos (starEach es X.env)).any (·.1) = false := by rfl) :
    DE X W (.Call (.Name "max" p) (e :: es) [] pos) (cb max2D fa) := de_bn (call_max2 hc) (cbd_max2 _) hg hm (by decide +kernel) ha (he := he) (hpl := hpl)
/-! ### [::-1] -/
def revD : Dt → Option Dt
  | .lst xs => some (.lst xs.reverse)
  | .scr ns => some (.lst (ns.reverse.map .int))
  | _ => none
theorem DaAll.reverse {K : PySem.W.Frag} {H : Hp} {vs : List V} {ds : List Dt} (h : DaAll K H vs ds) : DaAll K H vs.reverse ds.reverse := by
  induction vs generalizing ds with
  | nil => cases h; exact .nil
  | cons v vs ih =>
    cases h with
    | cons h1 h2 =>
      rw [List.reverse_cons, List.reverse_cons]
      exact (ih h2).append (.cons h1 .nil)
theorem und_rev (K : PySem.W.Frag) : UnD K (fun x H Q => ∃ a xs, x = .ref a ∧ SqL K H a xs ∧ ∀ p, H p = none → Q (.ref p) (upd H p (.lst xs.reverse))) revD := by
  intro x d z H0 H s hx hg Q k
  unfold revD at hg
  split at hg
  · cases hg
    obtain ⟨a, vs, rfl, h1, h2⟩ := hx
    exact ⟨a, vs, rfl, SqL.of h1, al_lst s h2.reverse k⟩
  · cases hg
    cases hx with
    | scr h1 =>
      refine ⟨_, _, rfl, seqL_mono s h1, al_lst s ?_ k⟩
      rw [List.map_reverse]
      exact (daInts _).reverse
  · cases hg
theorem de_rev {k : Nat} {p1 : Pos} (he : DE X W e f1) : DE X W (.Subscript e (.Slice none none (some (.UnaryOp .USub (.Constant (.int 1) k p1) p2)) p3) pos) (un revD f1) := fun F => PE.wk (pe_revL (he F)) fun σ H Q h => by
  obtain ⟨H0, ρ, E, q⟩ := h
  refine ⟨H0, ρ, E, ?_⟩
  unfold un at q
  cases e : f1 ρ with
  | bad => rw [e] at q; exact q
  | ex x ρ1 => rw [e] at q; exact q
  | ok d ρ1 =>
    rw [e] at q
    dsimp only [R.bind] at q
    intro v C0 C E1 m1 d1
    cases e2 : revD d with
    | none => rw [e2] at q; exact q.elim
    | some z =>
      rw [e2] at q
      refine und_rev X.K v d z C0 C E1.ex (Da.pk E1.ex d1) e2 Q fun v I0 I gr s4 d4 => ?_
      obtain ⟨E4, m4⟩ := E1.post m1 gr s4
      exact q v I0 I E4 m4 d4
end
end DW

set_option Elab.async false
set_option linter.all false
set_option maxRecDepth 100000
set_option maxHeartbeats 4000000
/-! DWI: a def that changes a dict, called with a new one -/
namespace DW
open PySem PySem.Spec PyProof.Rows L2
def callMO (fn : FnM) (fo : Rho → R Sl) (fa : Rho → R (List Dt)) : Rho → R Dt := fun ρ => (fo ρ).bind fun s ρ1 => match s with
  | .od kvs => (fa ρ1).bind fun ds ρ2 => match fn kvs ds with
    | .ok (.fr d) _ => .ok d ρ2
    | _ => .bad
  | _ => .bad
section
variable {K : PySem.W.Frag} {F : Fm} {H0 H H0' H' : Hp} {σ : L2.St} {ρ : Rho} {v : V} {d : Dt} {s : Sl} {i : Nat} {a p : Addr} {o : HO} {g : Gx} {W : WX}
theorem En.apart (E : En K F H0 H σ ρ) (h0 : H0 p = none) (hF : F.H p = none) (hn : ¬ OwnAt σ ρ p) {xs : List (Key × V)} (hp : H p = some (.dK xs)) (he : ∀ b, b ≠ p → H' b = H b) : En K F H0 H' σ ρ := by
  refine ⟨⟨E.gr.b0, fun b u hb nt hi => ?_, E.gr.off, fun b hb => ?_⟩, tab_away E.tb (fun b u hb _ n2 => by
    have nb : b ≠ p := fun z => n2 xs (by rw [z, hp] at hb; exact (Option.some.inj hb).symm)
    rw [he b nb]
    exact hb) (fun _ _ h _ _ => h), fun b u hb => ?_, E.len, fun j t e => ?_, E.sep, E.io, E.io1⟩
  · have : b ≠ p := fun z => by rw [z, hF] at hb; cases hb
    rw [he b this]
    exact E.gr.keep b u hb nt hi
  · have : b ≠ p := fun z => hb (by rw [z]; exact hF)
    rw [he b this]
    exact E.gr.st b hb
  · have : b ≠ p := fun z => by rw [z, h0] at hb; cases hb
    rw [he b this]
    exact E.ex b u hb
  · obtain ⟨w, h1, h2⟩ := E.sl j t e
    refine ⟨w, h1, ?_⟩
    cases t with
    | fr d => exact h2
    | ol ds =>
      obtain ⟨b, vs, rfl, q1, q2, q3, q4⟩ := h2
      have : b ≠ p := fun z => hn ⟨j, _, e, rfl, z ▸ h1⟩
      exact ⟨b, vs, rfl, q1, q2, by rw [he b this]; exact q3, q4⟩
    | od ds =>
      obtain ⟨b, vs, rfl, q1, q2, q3, q4⟩ := h2
      have : b ≠ p := fun z => hn ⟨j, _, e, rfl, z ▸ h1⟩
      exact ⟨b, vs, rfl, q1, q2, by rw [he b this]; exact q3, q4⟩
    | io ds =>
      obtain ⟨b, vs, rfl, q1, q2, q3, q4⟩ := h2
      have : b ≠ p := fun z => hn ⟨j, _, e, rfl, z ▸ h1⟩
      exact ⟨b, vs, rfl, q1, q2, by rw [he b this]; exact q3, q4⟩
theorem tCallMO_of {fn : FnM} {fo : Rho → R Sl} {fa : Rho → R (List Dt)} {E : XK} {Q : VK} (h : tD g F W (callMO fn fo fa) σ H Q) : tCall (spM g fn) [] E (tCons (tO g F W fo) (tDA g F W fa)) σ H Q := by
  obtain ⟨H0, ρ, E, q⟩ := h
  refine ⟨H0, ρ, E, ?_⟩
  unfold callMO at q
  cases e0 : fo ρ with
  | bad => rw [e0] at q; exact q
  | ex x ρ1 => rw [e0] at q; exact q
  | ok s ρ1 =>
    rw [e0] at q
    dsimp only [R.bind] at q
    cases s with
    | fr _ => exact q.elim
    | ol _ => exact q.elim
    | io _ => exact q.elim
    | od kvs =>
      dsimp only at q
      rintro v B0 B E1 m1 ⟨a, ks, rfl, b0, bF, b1, b2⟩ hf
      have ha : H a = none := hf rfl a rfl
      have nO : ¬ OwnAt σ ρ a := E.notOwn ha
      have n1 : ¬ OwnAt σ ρ1 a := fun z => nO (m1.sub a z)
      refine ⟨B0, ρ1, E1, ?_⟩
      cases e : fa ρ1 with
      | bad => rw [e] at q; exact q
      | ex x ρ1 => rw [e] at q; exact q
      | ok ds ρ2 =>
        rw [e] at q
        dsimp only at q
        intro vs C0 C E2 m2 hd
        show spM g fn ((V.ref a :: vs) ++ []) C Q _
        rw [List.append_nil]
        have c1 : C a = some (.dK ks) := m2.kd a b1 n1
        have c0 : C0 a = none := m2.off a (by rw [b1]; exact fun z => nomatch z) b0 n1
        have n2 : ¬ OwnAt σ ρ2 a := fun z => n1 (m2.sub a z)
        refine ⟨C0, a, ks, kvs, vs, ds, rfl, E2.ex, E2.tb, c0, c1, b2.mono m2.b0, hd, ?_⟩
        cases e2 : fn kvs ds with
        | ex _ => rw [e2] at q; exact q.elim
        | bad => rw [e2] at q; exact q.elim
        | ok s kvs' =>
          rw [e2] at q
          cases s with
          | ol _ => exact q.elim
          | od _ => exact q.elim
          | io _ => exact q.elim
          | fr d =>
            intro w ks' D0 D gr tt s2 hc hdk hv
            have m12 := m1.trans m2
            have E3 : En g.K F C0 (fun b => if b = a then none else C b) σ ρ2 := E2.apart c0 bF n2 c1 fun b hb => if_neg hb
            have gr' : Gw ⟨C0, fun b => if b = a then none else C b, none⟩ D0 D := by
              refine ⟨gr.b0, fun b u hb nt _ => ?_, fun b hb h => ?_, fun b hb => gr.st b fun z => hb ?_⟩
              · have hn : b ≠ a := fun z => by
                  have hb' : (if b = a then none else C b) = some u := hb
                  rw [if_pos z] at hb'
                  cases hb'
                have hb' : (if b = a then none else C b) = some u := hb
                rw [if_neg hn] at hb'
                exact gr.keep b u hb' nt (fun z => hn (by cases z; rfl))
              · refine gr.off b (fun z => hb ?_) h
                show (if b = a then none else C b) = none
                by_cases hn : b = a
                · rw [if_pos hn]
                · rw [if_neg hn]; exact z
              · show (if b = a then none else C b) = none
                by_cases hn : b = a
                · rw [if_pos hn]
                · rw [if_neg hn]; exact z
            refine q w D0 D (E3.growW gr' tt s2) ⟨m12.b0.trans gr.b0, fun b u hb nt ho => ?_, fun b hb h ho => ?_, m12.sub, fun b hb => ?_⟩ hv
            · have hn : b ≠ a := ne_of_none hb ha
              exact gr.keep b u (m12.keep b u hb nt ho) nt (fun z => hn (by cases z; rfl))
            · exact gr.off b (m12.st b hb) (m12.off b hb h ho)
            · exact gr.st b (m12.st b hb)
end
section
variable {X : Cx} {W : WX} {e : Expr} {es : List Expr} {pos p p2 : Pos} {fa : Rho → R (List Dt)} {k j : Nat} {ps : List Str} {x : Str}
theorem de_hMO {fn : FnM} {fo : Rho → R Sl} (h : HasM X.prog X.w X.K X.mg X.base x ps fn j) (hr : Room k X.A) (hq : Quiet X.A) (hjk : j ≤ k) (hg : Gl X x)
    (hy : DO X W e fo) (ha : DA X W es fa) (hdb : (x == ("__debug__" : Str)) = false := by decide) (he : starEach (e :: es) X.env = (false, eval e X.env) :: starEach es X.env := by rfl) (hpl : (backTo pos (starEach es X.env)).any (·.1) = false := by rfl) :
    DE X W (.Call (.Name x p) (e :: es) [] pos) (callMO fn fo fa) := by
  obtain ⟨f, fd, hm, hk, hb, G⟩ := h
  exact fun F => PE.wk (pe_callG G (hr.mono hjk) hq hg hm hk hb pass0 (pa_cons (hy F) (ha F) he) hdb he hpl) fun _ _ _ h => tCallMO_of h
end
end DW

set_option Elab.async false
set_option linter.all false
set_option maxRecDepth 100000
set_option maxHeartbeats 4000000
/-! DWJ: a + b of lists, for a name that owns its list -/
namespace DW
open PySem PySem.Spec PyProof.Rows L2
def catL : Dt → Dt → Option Sl
  | .lst xs, .lst ys => if xs.length + ys.length ≤ 1000000 then some (.ol (xs ++ ys)) else none
  | _, _ => none
def catO (f1 f2 : Rho → R Dt) : Rho → R Sl := fun ρ => (f1 ρ).bind fun d ρ1 => (f2 ρ1).bind fun e ρ2 => match catL d e with
  | some z => .ok z ρ2
  | none => .bad
def catPO (i : Nat) (f2 : Rho → R Dt) : Rho → R Sl := fun ρ => match pk i ρ with
  | some _ => (f2 ρ).bind fun e ρ1 => match pk i ρ1 with
    | some d => match catL d e with
      | some z => .ok z ρ1
      | none => .bad
    | none => .bad
  | none => .bad
section
variable {K : PySem.W.Frag} {F : Fm} {H0 H H0' H' : Hp} {σ : L2.St} {ρ : Rho} {v : V} {d : Dt} {s : Sl} {i : Nat} {a p : Addr} {o : HO} {g : Gx} {W : WX}
theorem catL_ok {ρ1 : Rho} {B0 B : Hp} {x y : V} {d e : Dt} {z : Sl} {Q : VK} (E : En g.K F H0 H σ ρ1) (m : Mv σ ρ ρ1 B0 B H0 H) (hx : Pk g.K H0 H x d) (hy : Pk g.K H0 H y e) (h : catL d e = some z)
    (q : ∀ v H0' H', En g.K F H0' H' σ ρ1 → Mv σ ρ ρ1 B0 B H0' H' → SlR g.K F H0' H' v z → (z.own = true → ∀ a, v = .ref a → B a = none) → Q v H') : rCat x y H Q := by
  unfold catL at h
  split at h
  · split at h
    · rename_i hz
      cases h
      obtain ⟨a, vs, rfl, h1, h2⟩ := hx
      obtain ⟨b, ws, rfl, h3, h4⟩ := hy
      refine ⟨a, b, vs, ws, rfl, rfl, h1, h3, by rw [h2.length, h4.length]; exact sizeM hz, fun p hp => ?_⟩
      obtain ⟨q1, q2, q3, q4, q5⟩ := E.postO (o := .lst (vs ++ ws)) m hp
      exact q _ _ _ q1 q2 ⟨p, _, rfl, q3, q4, upd_same, h2.append h4⟩ fun _ b z => by cases z; exact q5
    · cases h
  · cases h
theorem tCatO_of {f1 f2 : Rho → R Dt} {σ : L2.St} {H : Hp} {Q : VK} (h : tO g F W (catO f1 f2) σ H Q) : tOp rCat (tD g F W f1) (tK g F W f2) σ H Q := by
  obtain ⟨H0, ρ, E, q⟩ := h
  unfold catO at q
  refine ⟨H0, ρ, E, ?_⟩
  cases e1 : f1 ρ with
  | ex x ρ' => rw [e1] at q; exact q
  | bad => rw [e1] at q; exact q
  | ok d ρ1 =>
    rw [e1] at q
    intro x H1 B1 E1 m1 d1
    refine ⟨H1, ρ1, E1, ?_⟩
    dsimp only [R.bind] at q
    cases e2 : f2 ρ1 with
    | ex x ρ' => rw [e2] at q; exact q
    | bad => rw [e2] at q; exact q
    | ok e ρ2 =>
      rw [e2] at q
      intro y H2 B2 E2 m2 d2
      dsimp only [R.bind] at q
      cases e3 : catL d e with
      | none => rw [e3] at q; exact q.elim
      | some z =>
        rw [e3] at q
        exact catL_ok E2 (m1.trans m2) (Da.pk E2.ex (d1.mono m2.b0)) d2 e3 q
theorem tCatPO_of {f2 : Rho → R Dt} {σ : L2.St} {H : Hp} {Q : VK} (h : tO g F W (catPO i f2) σ H Q) : tOp rCat (tVar i) (tK g F W f2) σ H Q := by
  obtain ⟨H0, ρ, E, q⟩ := h
  unfold catPO at q
  cases e1 : pk i ρ with
  | none => rw [e1] at q; exact q.elim
  | some d0 =>
    rw [e1] at q
    obtain ⟨x, hx, _⟩ := pk_at E e1
    refine ⟨x, hx, H0, ρ, E, ?_⟩
    dsimp only [R.bind] at q
    cases e2 : f2 ρ with
    | ex x ρ' => rw [e2] at q; exact q
    | bad => rw [e2] at q; exact q
    | ok e ρ2 =>
      rw [e2] at q
      intro y H2 B2 E2 m2 d2
      dsimp only at q
      cases e3 : pk i ρ2 with
      | none => rw [e3] at q; exact q.elim
      | some d =>
        rw [e3] at q
        dsimp only at q
        obtain ⟨x', hx', px⟩ := pk_at E2 e3
        rw [hx] at hx'
        cases hx'
        cases e4 : catL d e with
        | none => rw [e4] at q; exact q.elim
        | some z =>
          rw [e4] at q
          exact catL_ok E2 m2 px d2 e4 q
end
section
variable {X : Cx} {W : WX} {a b c e : Expr} {es : List Expr} {pos p p2 p3 : Pos} {f1 f2 f3 : Rho → R Dt} {fa : Rho → R (List Dt)} {fo : Rho → R Sl} {i : Nat}
theorem do_cat (ha : DE X W a f1) (hb : DK X W b f2) : DO X W (.BinOp a .Add b pos) (catO f1 f2) := fun F => PE.wk (pe_op op_cat (ha F) (hb F)) fun _ _ _ h => tCatO_of h
theorem do_catP {x : Str} (ha : PE X (.Name x p) (tVar i)) (hb : DK X W b f2) : DO X W (.BinOp (.Name x p) .Add b pos) (catPO i f2) := fun F => PE.wk (pe_op op_cat ha (hb F)) fun _ _ _ h => tCatPO_of h
end
end DW

set_option Elab.async false
set_option linter.all false
set_option maxRecDepth 100000
set_option maxHeartbeats 4000000
/-! DWK: xs[::k] of a list, dict(list of pairs) -/
namespace DW
open PySem PySem.Spec PyProof.Rows L2
def pickI {α : Type} (ix : List Nat) (xs : List α) : List α := ix.filterMap (xs[·]?)
def stp {α : Type} (xs : List α) (c : Int) : List α := pickI (sliceRange 0 xs.length c) xs
theorem stp_pick (items : Array Value) {c : Int} (hc : 0 < c) : slicePick items none none (some c) = (stp items.toList c).toArray := by
  unfold slicePick stp pickI
  have e : sliceBounds none none (some c) items.size = (0, (items.size : Int), c) := by
    unfold sliceBounds
    simp only [Option.getD_some, gt_iff_lt, if_pos hc]
  rw [e, Array.length_toList]
  simp only [Array.getElem?_toList]
theorem Vals.pick {xs : List V} {us : List Value} (r : Vals xs us) : ∀ ix : List Nat, Vals (pickI ix xs) (pickI ix us)
  | [] => .nil
  | i :: ix => by
    have ih := Vals.pick r ix
    unfold pickI at ih ⊢
    rw [List.filterMap_cons, List.filterMap_cons]
    cases e : xs[i]? with
    | none => rw [r.none_of e]; exact ih
    | some x =>
      obtain ⟨u, h1, h2⟩ := r.get e
      rw [h1]
      exact .cons h2 ih
theorem DaAll.pick {K : PySem.W.Frag} {H : Hp} {vs : List V} {ds : List Dt} (r : DaAll K H vs ds) : ∀ ix : List Nat, DaAll K H (pickI ix vs) (pickI ix ds)
  | [] => .nil
  | i :: ix => by
    have ih := DaAll.pick r ix
    unfold pickI at ih ⊢
    rw [List.filterMap_cons, List.filterMap_cons]
    cases e : ds[i]? with
    | none =>
      have : vs[i]? = none := by
        rw [List.getElem?_eq_none_iff] at e ⊢
        rw [r.length]
        exact e
      rw [this]
      exact ih
    | some x =>
      obtain ⟨u, h1, h2⟩ := r.get e
      rw [h1]
      exact .cons h2 ih
theorem DaAll.stp {K : PySem.W.Frag} {H : Hp} {vs : List V} {ds : List Dt} (r : DaAll K H vs ds) (c : Int) : DaAll K H (stp vs c) (stp ds c) := by
  unfold DW.stp
  rw [r.length]
  exact r.pick _
theorem stp_len {α : Type} (xs : List α) {c : Int} (hc : 0 < c) : (stp xs c).length ≤ xs.length := by
  unfold stp pickI
  exact Nat.le_trans (List.length_filterMap_le _ _) (sliceRange_length_le _ _ _ _ (fun _ => ⟨by omega, by omega⟩) fun h => absurd hc h)
section
variable {X : Cx}
def tStepL (K : PySem.W.Frag) (te : TE) (tk : TO) : TE := fun σ H Q => te σ H fun x H1 => tk σ H1 fun o H2 => ∃ a xs c, x = .ref a ∧ o = some c ∧ 0 < c ∧ SqL K H2 a xs ∧ ∀ p, H2 p = none → Q (.ref p) (upd H2 p (.lst (stp xs c)))
theorem pe_stepL {e k : Expr} {te : TE} {tk : TO} {p3 pos : Pos} (he : PE X e te) (hk : PO X (some k) tk) (hsub : ∀ a b, subscripted (.Slice none none (some k) p3) false a b = operate [a, b] (getItem a b) := by intros; with_unfolding_all rfl) : PE X (.Subscript e (.Slice none none (some k) p3) pos) (tStepL X.K te tk) := by
  refine ⟨fun pins s σ H Q I h => ?_⟩
  refine Subscript_ (thn (he.run pins s σ H _ I h) fun v s1 ⟨x, H1, I1, r1, q1⟩ => ?_)
  refine wpAny_Slice (thn (po_none.run pins s1 σ H1 (fun o H2 => o = none ∧ H2 = H1) I1 ⟨rfl, rfl⟩) fun vl s2 ⟨l, H2, I2, pl, el, e2⟩ => ?_)
  subst el e2
  refine thn (po_none.run pins s2 σ H2 (fun o H3 => o = none ∧ H3 = H2) I2 ⟨rfl, rfl⟩) fun vu s3 ⟨u, H3, I3, pu, eu, e3⟩ => ?_
  subst eu e3
  refine thn (hk.run pins s3 σ H3 _ I3 q1) fun vs s4 ⟨o, H4, I4, ps, q2⟩ => ?_
  obtain ⟨a, xs, c, ex, eo, hc, hx, q⟩ := q2
  subst ex eo
  cases r1
  have I5 : Inv X pins σ H4 { s4 with heap := s4.heap.push { cls := .type "slice", data := .fields #[vl, vu, vs] } } := I4.kept (t' := s4.toks) fun b ob q => Heap.get?_push_of_some _ q
  obtain ⟨its, r, ht, hz⟩ := I5.list hx
  have hlen := r.length
  show wpAny (model X.prog X.w) X.A (subscriptTail e (.Slice none none (some k) p3) (.ref a) (.ref s4.heap.objs.size)) (EP X pins σ Q) X.xe { s4 with heap := s4.heap.push { cls := .type "slice", data := .fields #[vl, vu, vs] } }
  refine tail_any (ops := [.ref a, .ref s4.heap.objs.size]) ht.isList.typeIs (PySem.slot_list_getitem.lookup) ?_ (by with_unfolding_all rfl)
  refine wpAny_getItem_list_slice ht.isList (Heap.IsSliceOf.new _ vl vu vs) pl pu ps (fun z => by cases z; omega) ?_ (by rw [List.size_toArray]; omega)
  rw [stp_pick _ hc]
  refine ⟨.ref _, _, I5.laid (t' := s4.toks) (o := .lst (stp xs c)) (fun b ob q => Heap.get?_push_of_some _ q) (Nat.le_refl _) ?_, rfl, q _ (I5.hok.fresh (Nat.le_refl _))⟩
  refine ⟨Nat.le_trans (stp_len xs hc) hz, _, 0, ?_, Heap.get?_push_size _ rfl⟩
  unfold stp
  rw [hlen]
  exact Vals.pick r _
end
def stpD : Dt → Option Int → Option Dt
  | .lst xs, some c => if 0 < c then some (.lst (stp xs c)) else none
  | _, _ => none
def slK (f : Rho → R Dt) (fk : Rho → R (Option Int)) : Rho → R Dt := fun ρ => (f ρ).bind fun d ρ1 => (fk ρ1).bind fun o ρ2 => match stpD d o with
  | some z => .ok z ρ2
  | none => .bad
section
variable {X : Cx} {W : WX} {a b c e : Expr} {es : List Expr} {pos p p2 p3 : Pos} {f1 f2 f3 : Rho → R Dt} {fa : Rho → R (List Dt)} {fo : Rho → R Sl}
theorem de_slK {k : Expr} {fk : Rho → R (Option Int)} (he : DE X W e f1) (hk : DP X W (some k) fk) (hsub : ∀ a b, subscripted (.Slice none none (some k) p3) false a b = operate [a, b] (getItem a b) := by intros; with_unfolding_all rfl) : DE X W (.Subscript e (.Slice none none (some k) p3) pos) (slK f1 fk) := fun F => PE.wk (pe_stepL (he F) (hk F) hsub) fun σ H Q h => by
  obtain ⟨H0, ρ, E, q⟩ := h
  refine ⟨H0, ρ, E, ?_⟩
  unfold slK at q
  cases e1 : f1 ρ with
  | bad => rw [e1] at q; exact q
  | ex x ρ1 => rw [e1] at q; exact q
  | ok d ρ1 =>
    rw [e1] at q
    dsimp only [R.bind] at q
    intro v C0 C E1 m1 d1
    refine ⟨C0, ρ1, E1, ?_⟩
    cases e2 : fk ρ1 with
    | bad => rw [e2] at q; exact q
    | ex x ρ2 => rw [e2] at q; exact q
    | ok o ρ2 =>
      rw [e2] at q
      dsimp only [R.bind] at q
      intro B0 B E2 m2
      cases e3 : stpD d o with
      | none => rw [e3] at q; exact q.elim
      | some z =>
        rw [e3] at q
        unfold stpD at e3
        split at e3
        · split at e3
          · rename_i hc
            cases e3
            have d2 := d1.mono m2.b0
            cases d2 with
            | lst h1 h2 =>
              refine ⟨_, _, _, rfl, rfl, hc, SqL.of (E2.ex _ _ h1), al_lst E2.ex (h2.stp _) fun v I0 I gr s4 d4 => ?_⟩
              obtain ⟨E4, m4⟩ := E2.post (m1.trans m2) gr s4
              exact q v I0 I E4 m4 d4
          · cases e3
        · cases e3
/-! ### dict(list of pairs) -/
def pairsD : List Dt → Option (List (Key × Dt))
  | [] => some []
  | .tup [k, v] :: r => match keyD k, pairsD r with
    | some k, some r => some ((k, v) :: r)
    | _, _ => none
  | _ => none
def dictD : Dt → Option Dt
  | .lst ds => (pairsD ds).map fun kvs => .dct (mergeD [] kvs)
  | _ => none
theorem keyD_Va {K : PySem.W.Frag} {H : Hp} {v : V} {d : Dt} {k : Key} (h : Da K H v d) (e : keyD d = some k) : v = kV k := by
  cases d with
  | int i => cases e; cases h; rfl
  | str x => cases e; cases h; rfl
  | _ => cases e
theorem pairsD_of {K : PySem.W.Frag} {H : Hp} : ∀ {ds : List Dt} {kvs : List (Key × Dt)} {vs : List V}, pairsD ds = some kvs → DaAll K H vs ds → ∃ (ps : List Addr) (ks : List (Key × V)), vs = ps.map V.ref ∧ Paired (fun p kv => SqT K H p [kV kv.1, kv.2]) ps ks ∧ DaKv K H ks kvs
  | [], _, _, h, .nil => by
    cases h
    exact ⟨[], [], rfl, .nil, .nil⟩
  | d :: ds, kvs, _, h, .cons h1 h2 => by
    unfold pairsD at h
    split at h
    · rename_i heq
      cases heq
    · rename_i k v r heq
      cases heq
      split at h
      · rename_i k' r' e1 e2
        cases h
        obtain ⟨ps, ks, q1, q2, q3⟩ := pairsD_of e2 h2
        cases h1 with
        | tup g1 g2 =>
          cases g2 with
          | cons g3 g4 =>
            cases g4 with
            | cons g5 g6 =>
              cases g6
              refine ⟨_ :: ps, (k', _) :: ks, by rw [q1]; rfl, .cons ?_ q2, .cons g5 q3⟩
              rw [keyD_Va g3 e1] at g1
              exact g1
      · cases h
    · cases h
theorem al_dct {K : PySem.W.Frag} {H0 H : Hp} {Q : VK} {zs : List (Key × V)} {ds : List (Key × Dt)} (e : Same H0 H) (hd : DaKv K H0 zs ds) (k : ∀ v H0' H', Gr ⟨H0, H, none⟩ H0' H' → Same H0' H' → Da K H0' v (.dct ds) → Q v H') : ∀ p, H p = none → Q (.ref p) (upd H p (.dK zs)) :=
  fun p hp => k _ _ _ (gr_new hp e) (same_new hp e) (.dct upd_same (hd.mono (gr_new (o := .dK zs) hp e).b0))
theorem und_dict (K : PySem.W.Frag) : UnD K (fun x H Q => ∃ (a : Addr) (ps : List Addr) (kvs : List (Key × V)), [x] = [.ref a] ∧ SqL K H a (ps.map V.ref) ∧ Paired (fun p kv => SqT K H p [kV kv.1, kv.2]) ps kvs ∧ ∀ p, H p = none → Q (.ref p) (upd H p (.dK (mergeK [] kvs)))) dictD := by
  intro x d z H0 H s hx hg Q k
  unfold dictD at hg
  split at hg
  · obtain ⟨kvs, h, rfl⟩ := Option.map_eq_some_iff.mp hg
    obtain ⟨a, vs, rfl, h1, h2⟩ := hx
    obtain ⟨ps, ks, rfl, q2, q3⟩ := pairsD_of h h2
    refine ⟨a, ps, ks, rfl, SqL.of h1, ?_, al_dct s (q3.merge .nil) k⟩
    exact Paired.mono (fun p kv h => seqT_mono s h) q2
  · cases hg
theorem de_dict (hc : X.calm = true) (hg : Gl X "dict") (hm : X.mg "dict" = none) (ha : DK X W e f1) (he : starEach (e :: []) X.env = (false, eval e X.env) :: starEach [] X.env := by rfl) : DE X W (.Call (.Name "dict" p) [e] [] pos) (un dictD f1) :=
  de_t1 (call_dictP hc) (und_dict _) hg hm (by decide +kernel) ha (he := he)
end
end DW

set_option Elab.async false
set_option linter.all false
set_option maxRecDepth 100000
set_option maxHeartbeats 4000000
/-! DWL: a, b = x, y by way of a tuple (names that a comprehension takes up) -/
namespace DW
open PySem PySem.Spec PyProof.Rows L2
section
variable {g : Gx} {F : Fm} {W : WX} {σ : L2.St} {H : Hp}
theorem tPar_postT {D : Ends} {fs : List (Rho → R Sl)} {is : List Nat} {Q : List V → Hp → Prop} (h : tS g F W (parP is fs) D σ H) (hQ : ∀ vs H', vs.length = is.length → (∀ p, H' p = none → D.nx (setAll is vs σ) (upd H' p (.tup vs))) → Q vs H') : tP g F W fs σ H Q := by
  obtain ⟨H0, ρ, E, q⟩ := h
  refine ⟨H0, ρ, E, ?_⟩
  unfold parP at q
  cases e : argsP fs ρ with
  | ok ss ρ1 =>
    rw [e] at q
    intro vs H0' H' E' m hl hall hd
    obtain ⟨ρ2, e2, k⟩ := nxO_post (PostS.mono m.b0 q)
    have hlen : ∀ (is : List Nat) (ss : List Sl) (ρ ρ' : Rho), putP is ss ρ = some ρ' → ss.length = is.length := by
      intro is
      induction is with
      | nil => intro ss ρ ρ' e; cases ss with | nil => rfl | cons _ _ => cases e
      | cons i is ih =>
        intro ss ρ ρ' e
        cases ss with
        | nil => cases e
        | cons s ss =>
          unfold putP at e
          cases e1 : putR i s ρ with
          | none => rw [e1] at e; cases e
          | some ρ1 => rw [e1] at e; rw [List.length_cons, List.length_cons, ih ss ρ1 ρ' e]
    refine hQ vs H' (by rw [hl]; exact hlen is ss ρ1 ρ2 e2) fun p hp => ?_
    have gg : Gr ⟨H0', H', none⟩ H0' (upd H' p (.tup vs)) := gr_newO hp
    refine k _ _ (put_all is vs ss (E'.grow gg (same_newO hp E'.ex)) hl (fun i v s hv hs => ?_) hd e2)
    obtain ⟨q1, q2, q3⟩ := hall i v s hv hs
    exact ⟨q1.grow gg.w, q2, fun o a ea z => E.notOwn (q3 o a ea) (m.sub a z)⟩
  | ex x ρ1 => rw [e] at q; exact q σ
  | bad => rw [e] at q; exact q
end
section
variable {X : Cx} {W : WX} {a b c e : Expr} {es : List Expr} {pos p p2 p3 : Pos} {fs : List (Rho → R Sl)}
theorem ds_parT2 {i j : Nat} {x y : Str} {px py pt : Pos} {kt k2 pt2} (hc : X.calm = true) (hN : X.N.Nodup) (ha : DPs X W [a, b] fs)
    (hi : X.N[i]? = some x := by rfl) (hj : X.N[j]? = some y := by rfl) (hx : Loc X.env.scope x := by first | exact .inl rfl | exact .inr rfl) (hy : Loc X.env.scope y := by first | exact .inl rfl | exact .inr rfl)
    (hfx : X.fn x = true ∨ X.env.scope.names.lookup x = some .local := by first | exact .inl rfl | exact .inr rfl) (hfy : X.fn y = true ∨ X.env.scope.names.lookup y = some .local := by first | exact .inl rfl | exact .inr rfl)
    (hs : swapsWithSole [.Tuple [.Name x px, .Name y py] kt pt] (.Tuple [a, b] k2 pt2) pos.line X.env = pure false := by rfl) (hw : swappedStores [.Tuple [.Name x px, .Name y py] kt pt] (.Tuple [a, b] k2 pt2) X.env = pure none := by rfl)
    (h1 : (assignEach [.Tuple [.Name x px, .Name y py] kt pt] X.env).map (·.2) = [assign (.Tuple [.Name x px, .Name y py] kt pt) X.env] := by rfl)
    (hn : (assignEach [.Name x px, .Name y py] X.env).length = 2 := by rfl) (hst : (assignEach [.Name x px, .Name y py] X.env).findIdx? (·.1) = none := by rfl)
    (hs1 : (assignEach [.Name x px, .Name y py] X.env).map (·.2) = assign (.Name x px) X.env :: (assignEach [.Name y py] X.env).map (·.2) := by rfl)
    (hs2 : (assignEach [.Name y py] X.env).map (·.2) = assign (.Name y py) X.env :: (assignEach [] X.env).map (·.2) := by rfl) :
    DS X W (.Assign [.Tuple [.Name x px, .Name y py] kt pt] (.Tuple [a, b] k2 pt2) pos) (parP [i, j] fs) := fun F =>
  PS.wk (ps_asg (pe_tup (ha F)) (pg_tup hc (pgs_cons (pg_name hN hi hx hfx) (pgs_cons (pg_name hN hj hy hfy) pgs_nil hs2) hs1) hn hst) hs hw h1) fun D σ H h => tPar_postT h fun vs H' hl k => by
    match vs, hl with
    | [v, w], _ => exact ⟨by show 2 ≤ sizeLine; decide, fun p hp => ⟨p, [v, w], rfl, .inl (.inl upd_same), rfl, v, [w], rfl, w, [], rfl, rfl, k p hp⟩⟩
end
end DW

set_option Elab.async false
set_option linter.all false
set_option maxRecDepth 100000
set_option maxHeartbeats 4000000
/-! DWM: l.count(x), sorted(d.items()), sorted(set(l)) -/
namespace DW
open PySem PySem.Spec PyProof.Rows L2
/-! ### several new objects at once -/
def putMany : Hp → List (Addr × HO) → Hp
  | H, [] => H
  | H, p :: r => putMany (upd H p.1 p.2) r
theorem putMany_off {b : Addr} : ∀ (r : List (Addr × HO)) (H : Hp), b ∉ r.map (·.1) → putMany H r b = H b
  | [], _, _ => rfl
  | p :: r, H, h => by
    rw [List.map_cons, List.mem_cons, not_or] at h
    show putMany (upd H p.1 p.2) r b = H b
    rw [putMany_off r _ h.2, upd_ne h.1]
theorem putMany_at : ∀ (r : List (Addr × HO)) (H : Hp) (p : Addr × HO), (r.map (·.1)).Nodup → p ∈ r → putMany H r p.1 = some p.2
  | [], _, _, _, h => (List.not_mem_nil h).elim
  | q :: r, H, p, nd, h => by
    rw [List.map_cons, List.nodup_cons] at nd
    show putMany (upd H q.1 q.2) r p.1 = some p.2
    rcases List.mem_cons.mp h with e | e
    · subst e
      rw [putMany_off r _ nd.1, upd_same]
    · exact putMany_at r _ p nd.2 e
theorem learn {X : Cx} {pins : List (Addr × Obj)} {σ : L2.St} {tk : Nat} : ∀ (news : List (Addr × HO)) {H : Hp} {s : Shared} {hF : Heap}, Inv X pins σ H s → (∀ b o, s.heap.get? b = some o → hF.get? b = some o) →
    (∀ p ∈ news, s.heap.get? p.1 = none ∧ H p.1 = none) → (news.map (·.1)).Nodup → (∀ p ∈ news, ∀ H' h', h'.get? p.1 = hF.get? p.1 → ObjOk X.prog X.w H' h' p.1 p.2) → Inv X pins σ (putMany H news) { s with heap := hF, toks := tk }
  | [], H, s, hF, I, k, _, _, _ => I.kept k
  | p :: r, H, s, hF, I, k, hn, nd, ok => by
    rw [List.map_cons, List.nodup_cons] at nd
    obtain ⟨G, g1, g2⟩ := restrict hF fun b => decide (b ∉ r.map (·.1))
    have gi : ∀ b, b ∉ r.map (·.1) → G.get? b = hF.get? b := fun b hb => g1 b (decide_eq_true hb)
    have go : ∀ b, b ∈ r.map (·.1) → G.get? b = none := fun b hb => g2 b (decide_eq_false fun z => z hb)
    have old : ∀ b o, s.heap.get? b = some o → G.get? b = some o := fun b o e => by
      rw [gi b fun z => ?_]
      · exact k b o e
      · obtain ⟨q, hq, rfl⟩ := List.mem_map.mp z
        rw [(hn q (List.mem_cons_of_mem _ hq)).1] at e
        cases e
    obtain ⟨n1, n2⟩ := hn p (List.mem_cons_self ..)
    have J : Inv X pins σ (upd H p.1 p.2) { s with heap := G, toks := tk } := I.laidN (t' := tk) old n1 n2 (ok p (List.mem_cons_self ..) _ _ (gi p.1 nd.1))
    have := learn (tk := tk) r (s := { s with heap := G, toks := tk }) (hF := hF) J (fun b o e => by
      by_cases hb : b ∈ r.map (·.1)
      · rw [go b hb] at e; cases e
      · rw [gi b hb] at e; exact e) (fun q hq => ⟨go _ (List.mem_map.mpr ⟨q, hq, rfl⟩), by
        have hne : q.1 ≠ p.1 := fun z => nd.1 (by rw [← z]; exact List.mem_map.mpr ⟨q, hq, rfl⟩)
        rw [upd_ne hne]
        exact (hn q (List.mem_cons_of_mem _ hq)).2⟩) nd.2 (fun q hq => ok q (List.mem_cons_of_mem _ hq))
    exact this
/-- many new objects, laid into the base -/
theorem gr_many {H0 H H' : Hp} (news : List Addr) (e : Same H0 H) (k : ∀ b o, H b = some o → H' b = some o) (hn : ∀ b ∈ news, H b = none) :
    Gr ⟨H0, H, none⟩ (fun b => if b ∈ news then H' b else H0 b) H' ∧ Same (fun b => if b ∈ news then H' b else H0 b) H' := by
  have h0 : ∀ b ∈ news, H0 b = none := fun b hb => by
    cases q : H0 b with
    | none => rfl
    | some o =>
      have := e b o q
      rw [hn b hb] at this
      cases this
  refine ⟨⟨fun b o q => ?_, fun b o q _ => k b o q, fun b q q0 => ?_⟩, fun b o q => ?_⟩
  · change H0 b = some o at q
    show (if b ∈ news then H' b else H0 b) = some o
    rw [if_neg fun z => by rw [h0 b z] at q; cases q]
    exact q
  · show (if b ∈ news then H' b else H0 b) = none
    rw [if_neg fun z => q (hn b z)]
    exact q0
  · change (if b ∈ news then H' b else H0 b) = some o at q
    split at q
    · exact q
    · exact k b o (e b o q)
/-! ### sorted(d.items()), numbers by numbers -/
def leP (p q : Int × Int) : Prop := p.1 < q.1 ∨ (p.1 = q.1 ∧ p.2 ≤ q.2)
def rSortIt2 : V → Hp → VK → Prop := fun x H Q => ∃ (d : Addr) (ps : List (Int × Int)), x = .ref d ∧ H d = some (.dK (ps.map fun p => (Sum.inl p.1, V.int p.2))) ∧
  ∀ (H' : Hp) (l : Addr) (ts : List Addr) (qs : List (Int × Int)), (∀ b o, H b = some o → H' b = some o) → (∀ b ∈ l :: ts, H b = none) → qs.Perm ps → qs.Pairwise leP → H' l = some (.lst (ts.map V.ref)) → Paired (fun t (q : Int × Int) => H' t = some (.tup [.int q.1, .int q.2])) ts qs → Q (.ref l) H'
def tSortIt2 (te : TE) : TE := fun σ H Q => te σ H fun x H1 => rSortIt2 x H1 Q
theorem lexB_leP {p q : Int × Int} (h : SrtO.lexB q p = false) : leP p q := by
  have a := SrtO.lexB_no.mp h
  unfold leP
  omega
theorem pairs_get {prog : Program} {w : World} {es : List DictEntry} {vs : List (Key × Value)} (h : Pairs (mixKind prog w) es vs) : ∀ {j : Nat} {en : DictEntry}, es[j]? = some en → ∃ kv, vs[j]? = some kv ∧ keyIs kv.1 en.key = true ∧ en.val = kv.2 := by
  induction h with
  | nil => intro j en e; simp at e
  | cons h1 h2 _ ih =>
    intro j en e
    cases j with
    | zero =>
      simp at e
      subst e
      exact ⟨_, rfl, h1, h2⟩
    | succ j => exact ih (by simpa using e)
theorem paired_at {α β : Type} {F : α → β → Prop} {xs : List α} {ys : List β} (h : Paired F xs ys) : ∀ {i : Nat} {y : β}, ys[i]? = some y → ∃ x, xs[i]? = some x ∧ F x y := by
  induction h with
  | nil => intro i y e; simp at e
  | cons r _ ih =>
    intro i y e
    cases i with
    | zero =>
      simp at e
      subst e
      exact ⟨_, rfl, r⟩
    | succ i => exact ih (by simpa using e)
section
variable {X : Cx} {e : Expr} {te : TE} {p apos cpos pos : Pos}
theorem pe_sortIt2 (hc : X.calm = true) (he : PE X e te) (hg : Gl X "sorted") (hm : X.mg "sorted" = none) (hb : attributeBase e "items" X.env (eval e X.env) = eval e X.env := by rfl) (hl : (apos.endLine == cpos.line) = true := by rfl)
    (hs : starEach [.Call (.Attribute e "items" apos) [] [] cpos] X.env = (false, eval (.Call (.Attribute e "items" apos) [] [] cpos) X.env) :: starEach [] X.env := by rfl) :
    PE X (.Call (.Name "sorted" p) [.Call (.Attribute e "items" apos) [] [] cpos] [] pos) (tSortIt2 te) := by
  refine ⟨fun pins s σ H Q I hq => ?_⟩
  refine wpAny_Call_Name_kw (ld_blt I hg hm boot_sorted ?_)
  refine PyProof.Rows.callWith_builtin1 ?_ hs rfl
  rw [hs]
  change wpAny _ _ (spliced ((false, eval (.Call (.Attribute e "items" apos) [] [] cpos) X.env) :: backTo pos (starEach [] X.env))) _ _ s
  refine Calls.spliced_cons (wpAny_Call_method (T := "dict") (id := "dict.items") hb rfl hl F.plainAttrs_dict F.slot_dict_items F.type_dict_items (thn (he.run pins s σ H _ I hq) fun u s1 z => ?_))
  obtain ⟨x, H1, I1, rx, d, ps, rfl, hd, q⟩ := z
  obtain rfl : u = Value.ref d := rx
  obtain ⟨hz, hs0, vs, kv, hdo⟩ := I1.hok d _ hd
  refine ⟨hdo.typeIs, hdo.mapOf.noDict, ?_⟩
  change wpAny _ _ (callWith cpos (.builtin "dict.items") [.ref d] [] []) _ X.xe s1
  have hdo' := hdo
  obtain ⟨o, es, ep, ho, hx, hdat, hks, hpr, hnd⟩ := hdo'
  have I2 : Inv X pins σ H1 { s1 with heap := s1.heap.push { cls := .type "dict_items", data := .fields #[.ref d] } } := I1.kept (t' := s1.toks) fun b ob z => Heap.get?_push_of_some _ z
  refine method_meetsIn F.slot_dict_items F.entry_dict_items rfl (PySem.evalArgs_none ⟨rfl, hdo.typeIs, F.args_dict_items_1 _, _, meets_dict_items (mixKind X.prog X.w) d hs0, ⟨vs, hdo⟩, Calls.spliced_nil ?_⟩)
  have hlen : es.size = ps.length := by
    rw [← Array.length_toList, hpr.length, ← Paired.length kv, List.length_map]
  rw [List.length_map] at hz
  refine DT.sortedI (es := es) (ep := ep) (I1.ok.hd hc) ⟨_, Heap.get?_push_size _ rfl, rfl, rfl⟩ ⟨o, Heap.get?_push_of_some _ ho, hx, hdat⟩ (by rw [hlen]; exact hz) fun h' tk as hk hlt hal hG => ?_
  have nd : as.Nodup := List.Pairwise.imp (fun h => Nat.ne_of_lt h) hG.rise
  have lak : as.length = ps.length := by omega
  -- the pairs
  have pr : ∀ (j : Nat) (b : Addr), as[j]? = some b → ∃ (y : Int × Int) (t1 t2 : Tok), ps[j]? = some y ∧ h'.get? b = some { cls := .type "tuple", data := .seq #[Value.int y.1 t1, Value.int y.2 t2] } := by
    intro j b hj
    obtain ⟨en, h1, h2⟩ := hG.pairs j b hj
    rw [← Array.getElem?_toList] at h1
    obtain ⟨kv', h3, h4, h5⟩ := pairs_get hpr h1
    obtain ⟨y0, h6, h7, h8⟩ := paired_at kv h3
    rw [List.getElem?_map] at h6
    obtain ⟨y, h9, rfl⟩ := Option.map_eq_some_iff.mp h6
    dsimp only at h7 h8
    obtain ⟨t2, e2⟩ := h8
    rw [← h7] at h4
    obtain ⟨t1, e1⟩ : ∃ t1, en.key = Value.int y.1 t1 := by
      rcases keyIs_shape h4 with ⟨i, t, e1, e2⟩ | ⟨z, t, e1, e2⟩
      · cases e1
        exact ⟨t, e2⟩
      · cases e1
    refine ⟨y, t1, t2, h9, ?_⟩
    rw [h2, e1, h5, e2]
  obtain ⟨k, hkk⟩ : ∃ k : Value → Int × Int, ∀ (j : Nat) (b : Addr) y, as[j]? = some b → ps[j]? = some y → k (.ref b) = y := by
    refine ⟨fun v => match v with | .ref b => (ps[as.idxOf b]?).getD (0, 0) | _ => (0, 0), fun j b y h1 h2 => ?_⟩
    obtain ⟨hj, e1⟩ := List.getElem?_eq_some_iff.mp h1
    have e2 : as.idxOf b = j := by
      rw [← e1]
      exact nd.idxOf_getElem j hj
    show (ps[as.idxOf b]?).getD (0, 0) = y
    rw [e2, h2]
    rfl
  have hsz : (as.map Value.ref).length ≤ sizeLine := by rw [List.length_map, lak]; exact hz
  have hoL : (h'.push { cls := .type "list", data := .seq (as.map Value.ref).toArray }).get? h'.objs.size = some (seqObj "list" (as.map Value.ref).toArray 0) := Heap.get?_push_size _ rfl
  have isP : ∀ v ∈ as.map Value.ref, Srt.IsPair (h'.push { cls := .type "list", data := .seq (as.map Value.ref).toArray }) v (k v).1 (k v).2 := fun v hv => by
    obtain ⟨b, hb, rfl⟩ := List.mem_map.mp hv
    obtain ⟨j, hj⟩ := List.mem_iff_getElem?.mp hb
    obtain ⟨y, t1, t2, h1, h2⟩ := pr j b hj
    rw [hkk j b y hj h1]
    exact ⟨b, _, t1, t2, _, rfl, Heap.get?_push_of_some _ h2, rfl, rfl⟩
  refine wpAny_call_entry slot_list_sort ⟨_, hoL, rfl⟩ entry_list_sort (SrtO.list_sort_ord (SrtO.swo_lex k) hoL hsz (fun h2 => SrtO.pairs_sortableO (by omega) isP fun oL eL => ?_) fun out h1 h2 => ⟨.none, rfl, ?_⟩) (args_list_sort _)
  · have e' : some oL = some (seqObj "list" (as.map Value.ref).toArray 0) := eL.symm.trans hoL
    cases e'
    intro c
    exact absurd (Value.type.inj c) (by decide)
  · obtain ⟨cc, hcc⟩ := sortedHeap_at (vs := as.map Value.ref) (out := out.toArray) hoL
    -- the addresses in their new order
    have hout : ∀ v ∈ out, ∃ b ∈ as, v = Value.ref b := fun v hv => by
      obtain ⟨b, hb, rfl⟩ := List.mem_map.mp (h2.perm.mem_iff.mp hv)
      exact ⟨b, hb, rfl⟩
    obtain ⟨ts, hts⟩ : ∃ ts : List Addr, out = ts.map Value.ref := by
      clear h1 h2 hcc
      induction out with
      | nil => exact ⟨[], rfl⟩
      | cons v out ih =>
        obtain ⟨ts, e⟩ := ih fun u hu => hout u (List.mem_cons_of_mem _ hu)
        obtain ⟨b, _, rfl⟩ := hout v (List.mem_cons_self ..)
        exact ⟨b :: ts, by rw [e]; rfl⟩
    subst hts
    have tp : ts.Perm as := by
      have := h2.perm.map fun v => match v with | Value.ref b => b | _ => 0
      rw [List.map_map, List.map_map] at this
      have e1 : ∀ l : List Addr, l.map ((fun v => match v with | Value.ref b => b | _ => 0) ∘ Value.ref) = l := fun l => by
        conv => rhs; rw [← List.map_id l]
        exact List.map_congr_left fun _ _ => rfl
      rwa [e1, e1] at this
    have hperm : ((ts.map fun b => k (.ref b))).Perm ps := by
      have e2 : as.map (fun b => k (.ref b)) = ps := by
        refine List.ext_getElem? fun j => ?_
        rw [List.getElem?_map]
        cases ej : as[j]? with
        | none =>
          have := List.getElem?_eq_none_iff.mp ej
          rw [List.getElem?_eq_none (by omega)]
          rfl
        | some b =>
          obtain ⟨y, _, _, h3, _⟩ := pr j b ej
          rw [h3]
          exact congrArg some (hkk j b y ej h3)
      have := tp.map fun b => k (.ref b)
      rwa [e2] at this
    have hsort : (ts.map fun b => k (.ref b)).Pairwise leP := by
      rw [List.pairwise_map]
      have := List.pairwise_map.mp h1
      exact this.imp fun z => lexB_leP z
    have tup : ∀ b ∈ ts, ∃ (t1 t2 : Tok), h'.get? b = some { cls := .type "tuple", data := .seq #[Value.int (k (.ref b)).1 t1, Value.int (k (.ref b)).2 t2] } := fun b hb => by
      obtain ⟨j, hj⟩ := List.mem_iff_getElem?.mp (tp.mem_iff.mp hb)
      obtain ⟨y, t1, t2, h3, h4⟩ := pr j b hj
      rw [hkk j b y hj h3]
      exact ⟨t1, t2, h4⟩
    have hF : ∀ b ob, h'.get? b = some ob → (sortedHeap (h'.push { cls := .type "list", data := .seq (as.map Value.ref).toArray }) h'.objs.size (as.map Value.ref) (ts.map Value.ref).toArray).get? b = some ob := fun b ob eb => by
      have hlt' := Heap.lt_size eb
      rw [sortedHeap_old (Nat.ne_of_lt hlt') (by rw [size_push']; exact Nat.lt_succ_of_lt hlt')]
      exact Heap.get?_push_of_some _ eb
    have big : ∀ b ∈ ts, s1.heap.objs.size < b := fun b hb => by
      have h9 := hG.above b (tp.mem_iff.mp hb)
      rw [size_push'] at h9
      exact Nat.lt_trans (Nat.lt_succ_self _) h9
    have big2 : s1.heap.objs.size + 1 < h'.objs.size := by
      rw [size_push'] at hlt
      exact hlt
    have small : ∀ b ∈ ts, b < h'.objs.size := fun b hb => by
      obtain ⟨_, _, h3⟩ := tup b hb
      exact Heap.lt_size h3
    have ndt : ts.Nodup := tp.nodup_iff.mpr nd
    have fresh2 : ∀ b, s1.heap.objs.size < b → (s1.heap.push { cls := .type "dict_items", data := .fields #[.ref d] }).get? b = none := fun b hb => by
      cases eb : (s1.heap.push { cls := .type "dict_items", data := .fields #[.ref d] }).get? b with
      | none => rfl
      | some ob =>
        have h9 := Heap.lt_size eb
        rw [size_push'] at h9
        exact absurd (Nat.lt_of_lt_of_le hb (Nat.le_of_lt_succ h9)) (Nat.lt_irrefl _)
    have J := learn (tk := tk) ((h'.objs.size, HO.lst (ts.map V.ref)) :: ts.map fun b => (b, HO.tup [.int (k (.ref b)).1, .int (k (.ref b)).2])) I2 (fun b ob z => hF b ob (hk b ob z)) (fun pp hpp => ?_) ?_ (fun pp hpp H' hh e1 => ?_)
    · refine ⟨.ref h'.objs.size, _, J, rfl, q _ h'.objs.size ts _ (fun b ob z => ?_) (fun b hb => ?_) hperm hsort ?_ ?_⟩
      · rw [putMany_off]
        · exact z
        · intro hm
          have hlt1 : (show Nat from b) < s1.heap.objs.size := by
            refine Nat.lt_of_not_le fun hle => ?_
            rw [I1.hok.fresh hle] at z
            cases z
          rw [List.map_cons, List.map_map] at hm
          rcases List.mem_cons.mp hm with h3 | h3
          · change b = h'.objs.size at h3
            subst h3
            exact absurd (Nat.lt_trans hlt1 (Nat.lt_trans (Nat.lt_succ_self _) big2)) (Nat.lt_irrefl _)
          · obtain ⟨c, hc1, rfl⟩ := List.mem_map.mp h3
            exact absurd (Nat.lt_trans hlt1 (big c hc1)) (Nat.lt_irrefl _)
      · rcases List.mem_cons.mp hb with rfl | hb
        · exact I1.hok.fresh (Nat.le_of_lt (Nat.lt_trans (Nat.lt_succ_self _) big2))
        · exact I1.hok.fresh (Nat.le_of_lt (big b hb))
      · refine putMany_at _ _ (h'.objs.size, _) ?_ (List.mem_cons_self ..)
        rw [List.map_cons, List.map_map, List.nodup_cons]
        refine ⟨fun hm => ?_, ?_⟩
        · obtain ⟨c, hc1, e3⟩ := List.mem_map.mp hm
          change c = h'.objs.size at e3
          exact absurd (e3 ▸ small c hc1) (Nat.lt_irrefl _)
        · rw [show ((fun x : Addr × HO => x.1) ∘ fun b => (b, HO.tup [.int (k (.ref b)).1, .int (k (.ref b)).2])) = id from rfl, List.map_id]
          exact ndt
      · have key : ∀ l : List Addr, (∀ b ∈ l, b ∈ ts) → Paired (fun t (y : Int × Int) => putMany H1 ((h'.objs.size, HO.lst (ts.map V.ref)) :: ts.map fun b => (b, HO.tup [.int (k (.ref b)).1, .int (k (.ref b)).2])) t = some (.tup [.int y.1, .int y.2])) l (l.map fun b => k (.ref b)) := by
          intro l
          induction l with
          | nil => intro _; exact .nil
          | cons b l ih =>
            intro hl
            refine .cons ?_ (ih fun c hc => hl c (List.mem_cons_of_mem _ hc))
            refine putMany_at _ _ (b, HO.tup [.int (k (.ref b)).1, .int (k (.ref b)).2]) ?_ (List.mem_cons_of_mem _ (List.mem_map.mpr ⟨b, hl b (List.mem_cons_self ..), rfl⟩))
            rw [List.map_cons, List.map_map, List.nodup_cons]
            refine ⟨fun hm => ?_, ?_⟩
            · obtain ⟨c, hc1, e3⟩ := List.mem_map.mp hm
              change c = h'.objs.size at e3
              exact absurd (e3 ▸ small c hc1) (Nat.lt_irrefl _)
            · rw [show ((fun x : Addr × HO => x.1) ∘ fun b => (b, HO.tup [.int (k (.ref b)).1, .int (k (.ref b)).2])) = id from rfl, List.map_id]
              exact ndt
        exact key ts fun _ z => z
    · rcases List.mem_cons.mp hpp with rfl | hpp
      · exact ⟨fresh2 _ (Nat.lt_trans (Nat.lt_succ_self _) big2), I1.hok.fresh (Nat.le_of_lt (Nat.lt_trans (Nat.lt_succ_self _) big2))⟩
      · obtain ⟨b, hb, rfl⟩ := List.mem_map.mp hpp
        exact ⟨fresh2 _ (big b hb), I1.hok.fresh (Nat.le_of_lt (big b hb))⟩
    · rw [List.map_cons, List.map_map, List.nodup_cons]
      refine ⟨fun hm => ?_, ?_⟩
      · obtain ⟨c, hc1, e3⟩ := List.mem_map.mp hm
        change c = h'.objs.size at e3
        exact absurd (e3 ▸ small c hc1) (Nat.lt_irrefl _)
      · rw [show ((fun x : Addr × HO => x.1) ∘ fun b => (b, HO.tup [.int (k (.ref b)).1, .int (k (.ref b)).2])) = id from rfl, List.map_id]
        exact ndt
    · rcases List.mem_cons.mp hpp with rfl | hpp
      · refine ⟨by rw [List.length_map]; have := tp.length_eq; omega, ts.map Value.ref, cc, LiI.vals_refs ts, ?_⟩
        exact e1.trans hcc
      · obtain ⟨b, hb, rfl⟩ := List.mem_map.mp hpp
        obtain ⟨t1, t2, h3⟩ := tup b hb
        exact ⟨by show 2 ≤ sizeLine; decide, [Value.int (k (.ref b)).1 t1, Value.int (k (.ref b)).2 t2], .cons ⟨t1, rfl⟩ (.cons ⟨t2, rfl⟩ .nil), _, e1.trans (hF b _ h3), rfl, _, rfl⟩
end
/-! ### the data -/
def pairsI : List (Key × Dt) → Option (List (Int × Int))
  | [] => some []
  | (.inl i, .int j) :: r => (pairsI r).map ((i, j) :: ·)
  | _ => none
def ltPB (p q : Int × Int) : Bool := decide (p.1 < q.1) || (decide (p.1 = q.1) && decide (p.2 ≤ q.2))
def insP (p : Int × Int) : List (Int × Int) → List (Int × Int)
  | [] => [p]
  | q :: r => if ltPB p q = true then p :: q :: r else q :: insP p r
def sortP : List (Int × Int) → List (Int × Int)
  | [] => []
  | p :: r => insP p (sortP r)
theorem ltPB_iff {p q : Int × Int} : ltPB p q = true ↔ leP p q := by
  unfold ltPB leP
  simp only [Bool.or_eq_true, Bool.and_eq_true, decide_eq_true_eq]
theorem leP_total {p q : Int × Int} (h : ¬ ltPB p q = true) : leP q p := by
  rw [ltPB_iff] at h
  unfold leP at h ⊢
  omega
theorem leP_trans {p q r : Int × Int} (h1 : leP p q) (h2 : leP q r) : leP p r := by
  unfold leP at h1 h2 ⊢
  omega
theorem insP_perm (p : Int × Int) : ∀ l, (insP p l).Perm (p :: l)
  | [] => .refl _
  | q :: r => by
    unfold insP
    split
    · exact .refl _
    · exact ((insP_perm p r).cons q).trans (.swap ..)
theorem sortP_perm : ∀ l, (sortP l).Perm l
  | [] => .refl _
  | p :: r => (insP_perm p _).trans ((sortP_perm r).cons p)
theorem insP_sorted (p : Int × Int) : ∀ {l : List (Int × Int)}, l.Pairwise leP → (insP p l).Pairwise leP
  | [], _ => List.pairwise_singleton ..
  | q :: r, h => by
    obtain ⟨h1, h2⟩ := List.pairwise_cons.mp h
    unfold insP
    split
    · rename_i hp
      have hpq := ltPB_iff.mp hp
      exact List.pairwise_cons.mpr ⟨fun y hy => by
        rcases List.mem_cons.mp hy with rfl | hy
        · exact hpq
        · exact leP_trans hpq (h1 y hy), h⟩
    · rename_i hp
      refine List.pairwise_cons.mpr ⟨fun y hy => ?_, insP_sorted p h2⟩
      rcases List.mem_cons.mp ((insP_perm p r).mem_iff.mp hy) with rfl | hy
      · exact leP_total hp
      · exact h1 y hy
theorem sortP_sorted : ∀ l, (sortP l).Pairwise leP
  | [] => .nil
  | p :: r => insP_sorted p (sortP_sorted r)
theorem sortP_one {l m : List (Int × Int)} (h : m.Perm l) (h2 : m.Pairwise leP) : m = sortP l :=
  List.Perm.eq_of_pairwise (fun a b _ _ h1 h2 => by
    unfold leP at h1 h2
    exact Prod.ext (by omega) (by omega)) h2 (sortP_sorted l) (h.trans (sortP_perm l).symm)
def prD2 (q : Int × Int) : Dt := .tup [.int q.1, .int q.2]
def srtItD (d : Dt) : Option Dt := match d with
  | .dct kvs => (pairsI kvs).map fun ps => .lst ((sortP ps).map prD2)
  | _ => none
theorem pairsI_kv {K : PySem.W.Frag} {H : Hp} : ∀ {kvs : List (Key × Dt)} {ps : List (Int × Int)} {ks : List (Key × V)}, pairsI kvs = some ps → DaKv K H ks kvs → ks = ps.map fun p => (Sum.inl p.1, V.int p.2)
  | [], ps, ks, h, d => by
    cases h
    cases d
    rfl
  | (.inl i, .int j) :: r, ps, ks, h, d => by
    obtain ⟨qs, h1, rfl⟩ := Option.map_eq_some_iff.mp h
    cases d with
    | cons d1 d2 =>
      cases d1
      rw [pairsI_kv h1 d2]
      rfl
  | (.inr _, _) :: r, ps, ks, h, d => by cases h
  | (.inl _, .non) :: r, ps, ks, h, d => by cases h
  | (.inl _, .bl _) :: r, ps, ks, h, d => by cases h
  | (.inl _, .str _) :: r, ps, ks, h, d => by cases h
  | (.inl _, .lst _) :: r, ps, ks, h, d => by cases h
  | (.inl _, .tup _) :: r, ps, ks, h, d => by cases h
  | (.inl _, .dct _) :: r, ps, ks, h, d => by cases h
  | (.inl _, .scr _) :: r, ps, ks, h, d => by cases h
theorem und_sortIt (K : PySem.W.Frag) : UnD K rSortIt2 srtItD := by
  intro x d z H0 H s hx hg Q k
  unfold srtItD at hg
  split at hg
  · rename_i kvs
    obtain ⟨ps, h, rfl⟩ := Option.map_eq_some_iff.mp hg
    obtain ⟨a, ks, rfl, h1, h2⟩ := hx
    rw [pairsI_kv h h2] at h1
    refine ⟨a, ps, rfl, h1, fun H' l ts qs kp hn hp hs hl ht => ?_⟩
    rw [← sortP_one hp hs] at k
    obtain ⟨g1, g2⟩ := gr_many (H0 := H0) (H := H) (H' := H') (l :: ts) s kp hn
    refine k (.ref l) _ H' g1 g2 (.lst (xs := ts.map V.ref) (by rw [if_pos (List.mem_cons_self ..)]; exact hl) ?_)
    have key : ∀ (us : List Addr) (rs : List (Int × Int)), (∀ u ∈ us, u ∈ l :: ts) → Paired (fun t (q : Int × Int) => H' t = some (.tup [.int q.1, .int q.2])) us rs → DaAll K (fun b => if b ∈ l :: ts then H' b else H0 b) (us.map V.ref) (rs.map prD2) := by
      intro us rs hu hpr
      induction hpr with
      | nil => exact .nil
      | @cons t q us rs h5 _ ih =>
        refine .cons (.tup (xs := [.int q.1, .int q.2]) (.inl (.inl ?_)) (.cons (.int _) (.cons (.int _) .nil))) (ih fun u h6 => hu u (List.mem_cons_of_mem _ h6))
        show (if t ∈ l :: ts then H' t else H0 t) = _
        rw [if_pos (hu t (List.mem_cons_self ..))]
        exact h5
    exact key ts qs (fun u hu => List.mem_cons_of_mem _ hu) ht
  · cases hg
section
variable {X : Cx} {W : WX} {o : Expr} {f1 : Rho → R Dt} {p apos cpos pos : Pos}
theorem de_sortIt (hc : X.calm = true) (hg : Gl X "sorted") (hm : X.mg "sorted" = none) (ho : DK X W o f1) (hb : attributeBase o "items" X.env (eval o X.env) = eval o X.env := by rfl) (hl : (apos.endLine == cpos.line) = true := by rfl)
    (hs : starEach [.Call (.Attribute o "items" apos) [] [] cpos] X.env = (false, eval (.Call (.Attribute o "items" apos) [] [] cpos) X.env) :: starEach [] X.env := by rfl) :
    DE X W (.Call (.Name "sorted" p) [.Call (.Attribute o "items" apos) [] [] cpos] [] pos) (un srtItD f1) := fun F => PE.wk (pe_sortIt2 hc (ho F) hg hm hb hl hs) fun _ _ _ h => tUn_un (und_sortIt _) h
end
/-! ### l.count(x), numbers -/
def cntD : Dt → Dt → Option Dt
  | .lst xs, .int k => (intsOf xs).map fun ns => .int (ns.count k : Nat)
  | _, _ => none
section
variable {X : Cx} {W : WX} {o e : Expr} {f1 f2 : Rho → R Dt} {apos cpos : Pos}
theorem de_count (ho : DE X W o f1) (he : DE X W e f2) (hbase : attributeBase o "count" X.env (eval o X.env) = eval o X.env := by rfl)
    (hfew : ((backTo cpos (starEach (e :: []) X.env)).all (fun x => !x.1) && (backToKw cpos (keywordEach [] X.env)).all (fun x => x.1.isSome)
      && decide ((e :: ([] : List Expr)).length + ([] : List Keyword).length + (if ([] : List Keyword).isEmpty then 0 else 1) < 30)) = true := by rfl)
    (hline : (apos.endLine == cpos.line) = true := by rfl) (hs : starEach (e :: []) X.env = (false, eval e X.env) :: starEach [] X.env := by rfl) (hplain : (backTo cpos (starEach [] X.env)).any (·.1) = false := by rfl) :
    DE X W (.Call (.Attribute o "count" apos) [e] [] cpos) (meth1 cntD isLst f1 f2) :=
  fun F => PE.wk (pe_bm PySem.F.plainAttrs_list PySem.F.slot_list_count PySem.F.type_list_count mt_lcount (ho F) (pa_cons (he F) pa_nil hs) hbase hfew hline hs hplain) fun σ H Q ⟨H0, ρ, E, q⟩ => by
    refine ⟨H0, ρ, E, ?_⟩
    unfold meth1 at q
    cases e1 : f1 ρ with
    | ok d ρ1 =>
      rw [e1] at q
      dsimp only [R.bind] at q
      intro v B0 B E1 m1 dv
      cases d with
      | lst xs =>
        rw [if_pos (by rfl)] at q
        cases dv with
        | @lst a vs _ h1 h2 =>
          refine ⟨.inl ⟨rfl, _, SqL.of (E1.ex _ _ h1)⟩, B0, ρ1, E1, ?_⟩
          cases e2 : f2 ρ1 with
          | ok y ρ2 =>
            rw [e2] at q
            dsimp only [R.bind] at q
            intro w C0 C E2 m2 d2
            cases e3 : cntD (.lst xs) y with
            | none => rw [e3] at q; exact q.elim
            | some z =>
              rw [e3] at q
              cases y with
              | int k =>
                change (intsOf xs).map _ = some z at e3
                obtain ⟨ns, h3, rfl⟩ := Option.map_eq_some_iff.mp e3
                have h4 := h2.mono m2.b0
                rw [intsOf_eq h3] at h4
                cases d2
                refine ⟨a, ns, k, rfl, rfl, ?_, q _ C0 C E2 (m1.trans m2) (.int _)⟩
                rw [← h4.ints]
                exact SqL.of (E2.ex _ _ (m2.b0 _ _ h1))
              | _ => cases e3
          | ex x ρ1 => rw [e2] at q; exact q
          | bad => rw [e2] at q; exact q
      | _ => exact q.elim
    | ex x ρ1 => rw [e1] at q; exact q
    | bad => rw [e1] at q; exact q
end
end DW

set_option Elab.async false
set_option linter.all false
set_option maxRecDepth 100000
set_option maxHeartbeats 4000000
/-! DWN: sorted(set(l)), numbers -/
namespace DW
open PySem PySem.Spec PyProof.Rows L2
abbrev newS (w : World) : Obj := { cls := .type "set", dict := none, data := .set #[] 0 (.fresh 0 0 (!w.params.followText "set-order")) }
section
variable {P : Program} {w : World} {A : Around} {E : Value → Shared → Prop} {s : Shared}
theorem ints_at {items : Array Value} {ns : List Int} (hz : items.size = ns.length) (hi : IntsAre items.toList ns) (i : Nat) (v : Value) (hv : items[i]? = some v) : ∃ k t, ns[i]? = some k ∧ v = .int k t := by
  have lt : i < ns.length := by rw [← hz]; exact (Array.getElem?_eq_some_iff.mp hv).1
  obtain ⟨t, e⟩ := PyProof.Rows.IntsAre.int_at hi i v (by rw [Array.getElem?_toList]; exact hv)
  refine ⟨ns[i], t, List.getElem?_eq_getElem lt, ?_⟩
  rw [e, List.getD_eq_getElem?_getD, List.getElem?_eq_getElem lt]
  rfl
/-- what the filling of a new set by a list leaves -/
theorem fill_list {R : Result → Shared → Prop} {l S : Addr} {items : Array Value} (ns : List Int) (calm : A.in1.handled = none) (hS : S = s.heap.objs.size) (isl : s.heap.IsList l items) (hi : IntsAre items.toList ns) (few : ns.length + 1 < scanBound)
    (k : ∀ h' tk c, SetR w h' S (fun j => decide (j ∈ ns)) c → c ≤ ns.length → (∀ b o, s.heap.get? b = some o → h'.get? b = some o) → R (.ok (.ret .none)) { s with heap := h', toks := tk }) :
    codeAny (model P w) A (.builtin "set.update.loop" ⟨[.ref S, .ref (s.heap.objs.size + 1)], []⟩) R { s with heap := (s.heap.push (newS w)).push { cls := .type "list_iterator", data := .fields #[.ref l, .int 0 0] } } := by
  subst hS
  have hz : items.size = ns.length := by
    have q := IntsAre.length hi
    rwa [Array.length_toList] at q
  obtain ⟨ol, ho, _⟩ := id isl
  have small : l < s.heap.objs.size := Heap.lt_size ho
  have at1 : (s.heap.push (newS w)).get? s.heap.objs.size = some (newS w) := Heap.get?_push_size _ rfl
  have sz1 : (s.heap.push (newS w)).objs.size = s.heap.objs.size + 1 := size_push' _ _
  have at2 : ((s.heap.push (newS w)).push { cls := .type "list_iterator", data := .fields #[.ref l, .int 0 0] }).get? (s.heap.objs.size + 1) = some { cls := .type "list_iterator", data := .fields #[.ref l, .int 0 0] } := by
    rw [← sz1]
    exact Heap.get?_push_size _ rfl
  have apart : s.heap.objs.size ∉ [s.heap.objs.size + 1, l] := by
    simp only [List.mem_cons, List.not_mem_nil, or_false, not_or]
    exact ⟨Nat.ne_of_lt (Nat.lt_succ_self _), Nat.ne_of_gt small⟩
  refine set_update_ints ((Walks.list calm (s.heap.objs.size + 1) l (Nat.ne_of_lt (Nat.lt_succ_of_lt small)) items).toS) s.heap.objs.size apart ns hz few (ints_at hz hi) items.size 0 _ rfl (Nat.zero_le _)
    ⟨⟨_, at2, rfl, rfl⟩, (isl.push _).push _⟩ ⟨0, Nat.le_refl 0, setR_new_at (Heap.get?_push_of_some _ at1)⟩ fun s' c mv hc hS => ?_
  obtain ⟨h', g', d', t', o'⟩ := s'
  obtain rfl : g' = s.gens := mv.gens
  obtain rfl : d' = s.drawn := mv.drawn
  obtain rfl : o' = s.os := mv.os
  rw [hz] at hc
  refine k h' t' c hS hc fun b o e => mv.heap b o ?_ (Heap.get?_push_of_some _ (Heap.get?_push_of_some _ e))
  have lt := Heap.lt_size e
  simp only [List.mem_cons, List.not_mem_nil, or_false, not_or]
  exact ⟨Nat.ne_of_lt lt, Nat.ne_of_lt (Nat.lt_succ_of_lt lt)⟩
set_option maxHeartbeats 3200000 in
theorem set_of_list {l : Addr} {items : Array Value} (ns : List Int) {Q : Value → Shared → Prop} (calm : A.handled = none) (isl : s.heap.IsList l items) (hi : IntsAre items.toList ns) (few : ns.length + 1 < scanBound)
    (goal : ∀ h' tk c, SetR w h' s.heap.objs.size (fun j => decide (j ∈ ns)) c → c ≤ ns.length → (∀ b o, s.heap.get? b = some o → h'.get? b = some o) → Q (.ref s.heap.objs.size) { s with heap := h', toks := tk }) :
    wpAny (model P w) A (call (.type "set") [.ref l]) Q E s := by
  obtain ⟨_, _, f1⟩ := F.called_set.mro
  have f2 := F.called_set.made
  have f3 := F.called_set.sub
  have f4 := F.called_set.notType
  have f5 := F.called_set.canCreate
  have f6 := F.typeCall_set_1 (.ref l)
  refine wpAny_call (codeAny_of_tree ?_)
  change wpAny _ _ (callAny (.type "set") _) _ _ _
  refine wpAny_pure ⟨Code.quiet_builtin _ (by decide +kernel), codeAny_builtin F.entry_type_call ?_⟩
  rw [Around.under_plain (weight_type_call_type "set" [.ref l] []) rfl]
  repeat (any_goals (first | assumption | wp_step | fail "no step"))
  refine codeAny_mono (code_set_led1 (.ref l) (E := E) (Q₁ := fun obj s₁ => obj = .ref s.heap.objs.size ∧ s₁ = { s with heap := s.heap.push (newS w) }) ⟨rfl, rfl⟩) fun r s₁ hr => ?_
  match r, hr with
  | .error _, hr => exact hr
  | .ok .next, hr => exact hr.elim
  | .ok .brk, hr => exact hr.elim
  | .ok .cont, hr => exact hr.elim
  | .ok (.ret obj), hr =>
    obtain ⟨rfl, rfl⟩ := hr
    have at1 : (s.heap.push (newS w)).get? s.heap.objs.size = some (newS w) := Heap.get?_push_size _ rfl
    have ty1 : Shared.TypeIs { s with heap := s.heap.push (newS w) } (.ref s.heap.objs.size) "set" := ⟨_, at1, rfl⟩
    have f7 := F.called_set.init.lookup
    have f8 := F.called_set.init.bind (.ref s.heap.objs.size)
    repeat (any_goals (first | assumption | wp_step | fail "no step"))
    refine codeAny_mono (codeAny_call_builtin (R := wants (fun r s₂ => r = .none ∧ ∃ h' tk c, s₂ = { s with heap := h', toks := tk } ∧ SetR w h' s.heap.objs.size (fun j => decide (j ∈ ns)) c ∧ c ≤ ns.length ∧ ∀ b o, s.heap.get? b = some o → h'.get? b = some o) E) F.called_set.init.plain F.entry_set_init (check_set_init_1 ty1 ?_)) fun r₂ s₂ hr₂ => ?_
    · have isl' := isl
      obtain ⟨⟨oc, od, oda, osl⟩, ho, hc, nn, hd⟩ := isl'
      simp only at hc hd
      subst hc hd
      have at3 : (s.heap.push (newS w)).get? l = some { cls := .type "list", dict := od, data := .seq items nn, slots := osl } := Heap.get?_push_of_some _ ho
      have n1 := F.sub_list_set
      have n2 := F.sub_list_frozenset
      have n3 : (Value.type "list" == Value.type "dict") = false := by decide
      unfold Builtin.«set.__init__» noKeywords Builtin.Frozenset.updateFrom
      generalize hI : pyIter = PI
      wp_walk
      subst hI
      refine wpAny_pyIter_list (isl.push (newS w)) (wpAny_bind (wpAny_runValue ?_))
      have calm3 : A.in1.in1.in1.handled = none := by simp [calm]
      have sz1 : (s.heap.push (newS w)).objs.size = s.heap.objs.size + 1 := size_push' _ _
      rw [sz1]
      refine fill_list (s := s) ns calm3 rfl isl hi few fun h' tk c a1 a2 a3 => ?_
      change wpAny _ _ _ _ _ _
      refine wpAny_pure ?_
      change wpAny _ _ (ret Value.none) _ _ _
      exact wpAny_pure ⟨rfl, h', tk, c, rfl, a1, a2, a3⟩
    · match r₂, hr₂ with
      | .error _, hr₂ => exact hr₂
      | .ok .next, hr₂ => exact hr₂.elim
      | .ok .brk, hr₂ => exact hr₂.elim
      | .ok .cont, hr₂ => exact hr₂.elim
      | .ok (.ret _), hr₂ =>
        obtain ⟨rfl, h', tk, c, rfl, a1, a2, a3⟩ := hr₂
        repeat (any_goals (first | assumption | wp_step | fail "no step"))
        exact goal _ _ _ a1 a2 a3
/-- sorted(S), a set of numbers, any number of them -/
theorem sorted_setA {a : Addr} {S : Int → Bool} {n : Nat} {Q : Value → Shared → Prop} (T : SetR w s.heap a S n) (calm : A.handled = none) (hn : n ≤ 1000000)
    (goal : ∀ s' p (out : List Value) (c : Nat) (ns : List Int), (∀ b o, s.heap.get? b = some o → s'.heap.get? b = some o) → s'.gens = s.gens → s'.os = s.os → s.heap.objs.size ≤ p →
      s'.heap.get? p = some (seqObj "list" out.toArray c) → IntsAre out ns → ns.Pairwise (· < ·) → (∀ k, k ∈ ns ↔ S k = true) → ns.length = n → Q (.ref p) s') :
    wpAny (model P w) A (call (.builtin "sorted") [.ref a]) Q E s := by
  obtain ⟨o, es, ep, t, ho, hex, hd, g, nd, hm, hb, hf, hen, hr, hl⟩ := T
  refine Calls.call_function_entry kind_sorted plain_sorted entry_sorted (args_sorted1 _) ?_
  unfold Builtin.«sorted»
  refine wpAny_bind (m := checkCount "sorted" 1 1 _) (wpAny_pure (wpAny_bind (collect_set (A := A.in1) calm ⟨o, ho, hex.1, hd⟩ hf hb hr hl fun s1 vs k1 hz g1 o1 pm => ?_)))
  have len : vs.length = n := by rw [pm.length_eq, List.length_map, Array.length_toList]; exact hen
  have isI : IntsAre vs (vs.map Builtin.Re.reRawOf) := ints_of vs fun v hv => by
    obtain ⟨e, he, rfl⟩ := List.mem_map.mp (pm.mem_iff.mp hv)
    obtain ⟨k, tk, e1, _⟩ := g e he
    exact ⟨k, tk, e1⟩
  have pk : (vs.map Builtin.Re.reRawOf).Perm (es.toList.map keyOf) := by
    have q := pm.map Builtin.Re.reRawOf
    rwa [List.map_map] at q
  have lineN : vs.length ≤ sizeLine := by rw [len]; exact sizeM hn
  refine wpAny_bind (wpAny_newList ?_ lineN)
  have atL : (s1.heap.push (seqObj "list" vs.toArray 0)).get? s1.heap.objs.size = some (seqObj "list" vs.toArray 0) := Heap.get?_push_size _ rfl
  refine wpAny_bind (wpAny_holding (wpAny_call_entry slot_list_sort ⟨_, atL, rfl⟩ entry_list_sort (SrtO.list_sort_ord SrtO.swo_int atL lineN (fun h2 => SrtO.ints_sortable isI h2) fun out b1 b2 => ⟨_, rfl, ?_⟩) (args_list_sort _)))
  obtain ⟨c1, c2, c3⟩ := SrtO.ints_out isI b1 b2
  obtain ⟨ec, hec⟩ := sortedHeap_at (vs := vs) (out := out.toArray) atL
  have pn := c2.trans pk
  refine wpAny_pure ⟨_, rfl, goal _ s1.heap.objs.size out ec _ (fun b u e => ?_) g1 o1 hz hec c1 (lt_of_le_nodup _ c3 (pn.nodup_iff.mpr nd)) (fun k => by rw [pn.mem_iff, ← hm k]) ?_⟩
  · have q := k1 b u e
    have lt := Heap.lt_size q
    change (sortedHeap (s1.heap.push (seqObj "list" vs.toArray 0)) s1.heap.objs.size vs out.toArray).get? b = some u
    rw [sortedHeap_old (Nat.ne_of_lt lt) (by rw [size_push']; exact Nat.lt_succ_of_lt lt)]
    exact Heap.get?_push_of_some _ q
  · rw [pn.length_eq, List.length_map, Array.length_toList]
    exact hen
end
def tSrtSet (K : PySem.W.Frag) (ta : TE) : TE := fun σ H Q => ta σ H fun x H1 => ∃ (l : Addr) (ns : List Int), x = .ref l ∧ SqL K H1 l (ns.map V.int) ∧ ns.length ≤ 4000 ∧
  ∀ (out : List Int) (p : Addr), out.Pairwise (· < ·) → (∀ k, k ∈ out ↔ k ∈ ns) → H1 p = none → Q (.ref p) (upd H1 p (.lst (out.map V.int)))
theorem pe_srtSet {X : Cx} {a : Expr} {ta : TE} {p p2 q pos : Pos} (hc : X.calm = true) (hg : Gl X "sorted") (hm : X.mg "sorted" = none) (hg2 : Gl X "set") (hm2 : X.mg "set" = none) (ha : PE X a ta)
    (na : starEach [a] X.env = (false, eval a X.env) :: starEach [] X.env := by rfl) : PE X (.Call (.Name "sorted" p) [.Call (.Name "set" p2) [a] [] q] [] pos) (tSrtSet X.K ta) := by
  refine ⟨fun pins s σ H Q I h => ?_⟩
  refine Call_ (ld_blt I hg hm boot_sorted (PyProof.Rows.callWith_builtin1 (PyProof.Rows.args_cons (Call_ (ld_blt I hg2 hm2 boot_set ?_)) rfl) rfl rfl))
  refine PyProof.Rows.callWith_type1 (PyProof.Rows.args_cons (thn (ha.run pins s σ H _ I h) fun v s1 z => PyProof.Rows.args_nil ?_) na) na rfl
  obtain ⟨x, H1, I1, r1, l, ns, rfl, sq, few, k⟩ := z
  cases r1
  obtain ⟨its, r, pl, hz⟩ := I1.list sq
  have isI : IntsAre its.toArray.toList ns := by
    rw [List.toList_toArray]
    exact r.ints
  refine set_of_list ns (I1.ok.hd hc) pl.isList isI (by unfold scanBound; omega) fun h' tk c a1 a2 a3 => PyProof.Rows.args_nil ?_
  have I2 : Inv X pins σ H1 { s1 with heap := h', toks := tk } := I1.kept a3
  refine sorted_setA (s := { s1 with heap := h', toks := tk }) a1 (I1.ok.hd hc) (by omega) fun s' pp out cc ms b1 b2 b3 b4 b5 b6 b7 b8 b9 => ?_
  have hlen : (ms.map V.int).length ≤ sizeLine := by rw [List.length_map, b9]; exact sizeM (by omega)
  have J : Inv X pins σ (upd H1 pp (.lst (ms.map V.int))) { ({ s1 with heap := h', toks := tk } : Shared) with heap := s'.heap, gens := s'.gens, drawn := s'.drawn, toks := s'.toks } :=
    I2.call (ch := []) (Un.laid b1 b4 (I2.hok.fresh b4)) (I2.hok.laid b1 b4 ⟨hlen, out, cc, vals_of_ints b6, b5⟩) (by rw [b2]; exact I2.bare) (fun _ z => nomatch z)
  have e : s' = { ({ s1 with heap := h', toks := tk } : Shared) with heap := s'.heap, gens := s'.gens, drawn := s'.drawn, toks := s'.toks } := by
    cases s'
    cases s1
    cases b3
    rfl
  rw [e]
  exact ⟨.ref pp, _, J, rfl, k ms pp b7 (fun z => by rw [b8 z, decide_eq_true_eq]) (I2.hok.fresh b4)⟩
/-! ### the data -/
def setI : List Int → List Int
  | [] => []
  | n :: ns => if n ∈ ns then setI ns else n :: setI ns
theorem mem_setI {k : Int} : ∀ {ns : List Int}, k ∈ setI ns ↔ k ∈ ns
  | [] => Iff.rfl
  | n :: ns => by
    unfold setI
    split
    · rename_i h
      rw [mem_setI, List.mem_cons]
      exact ⟨.inr, fun z => z.elim (fun e => e ▸ h) id⟩
    · rw [List.mem_cons, List.mem_cons, mem_setI]
theorem setI_nodup : ∀ ns : List Int, (setI ns).Nodup
  | [] => .nil
  | n :: ns => by
    unfold setI
    split
    · exact setI_nodup ns
    · rename_i h
      exact List.nodup_cons.mpr ⟨fun z => h (mem_setI.mp z), setI_nodup ns⟩
def srtSetD (d : Dt) : Option Dt := match d with
  | .lst xs => (intsOf xs).bind fun ns => if ns.length ≤ 4000 then some (.lst ((sortI (setI ns)).map .int)) else none
  | _ => none
theorem srtSet_one {out ns : List Int} (h : out.Pairwise (· < ·)) (hm : ∀ k, k ∈ out ↔ k ∈ ns) : out = sortI (setI ns) :=
  sortI_one ((List.perm_ext_iff_of_nodup (h.imp fun z => Int.ne_of_lt z) (setI_nodup ns)).mpr fun k => by rw [hm, mem_setI]) (h.imp fun z => Int.le_of_lt z)
theorem und_srtSet (K : PySem.W.Frag) : UnD K (fun x H Q => ∃ (l : Addr) (ns : List Int), x = .ref l ∧ SqL K H l (ns.map V.int) ∧ ns.length ≤ 4000 ∧ ∀ (out : List Int) (p : Addr), out.Pairwise (· < ·) → (∀ k, k ∈ out ↔ k ∈ ns) → H p = none → Q (.ref p) (upd H p (.lst (out.map V.int)))) srtSetD := by
  intro x d z H0 H s hx hg Q k
  unfold srtSetD at hg
  split at hg
  · obtain ⟨ns, h, hg⟩ := Option.bind_eq_some_iff.mp hg
    split at hg
    · rename_i hl
      cases hg
      obtain ⟨a, vs, rfl, h1, h2⟩ := hx
      rw [intsOf_eq h] at h2
      rw [h2.ints] at h1
      refine ⟨a, ns, rfl, SqL.of h1, hl, fun out p b1 b2 => ?_⟩
      rw [srtSet_one b1 b2]
      exact al_lst s (daInts _) k p
    · cases hg
  · cases hg
theorem de_srtSet {X : Cx} {W : WX} {a : Expr} {f1 : Rho → R Dt} {p p2 q pos : Pos} (hc : X.calm = true) (hg : Gl X "sorted") (hm : X.mg "sorted" = none) (hg2 : Gl X "set") (hm2 : X.mg "set" = none) (ha : DK X W a f1)
    (na : starEach [a] X.env = (false, eval a X.env) :: starEach [] X.env := by rfl) : DE X W (.Call (.Name "sorted" p) [.Call (.Name "set" p2) [a] [] q] [] pos) (un srtSetD f1) :=
  fun F => PE.wk (pe_srtSet hc hg hm hg2 hm2 (ha F) na) fun _ _ _ h => tUn_un (und_srtSet _) h
end DW
namespace DW
open PySem PySem.Spec PyProof.Rows L2
/-! ### d.get(k, c) -/
def getOr (c : Int) : Dt → Dt → Option Dt
  | .dct kvs, d => (keyD d).map fun k => (getK kvs k).getD (.int c)
  | _, _ => none
def getP (c : Int) (i : Nat) (f2 : Rho → R Dt) : Rho → R Dt := fun ρ => match pk i ρ with
  | some (.dct _) => (f2 ρ).bind fun e ρ2 => match pk i ρ2 with
    | some d => (match getOr c d e with
      | some z => .ok z ρ2
      | none => .bad)
    | none => .bad
  | _ => .bad
section
variable {X : Cx} {W : WX} {e : Expr} {f2 : Rho → R Dt} {p p3 apos cpos : Pos} {i : Nat}
theorem de_get2 {x : Str} {c : Int} {j : Nat} (hu : X.A.units + 1 < cLine) (hv : PE X (.Name x p) (tVar i)) (he : DE X W e f2) (m : M2 X (.Name x p) "get" apos e (.Constant (.int c) j p3) cpos) :
    DE X W (.Call (.Attribute (.Name x p) "get" apos) [e, .Constant (.int c) j p3] [] cpos) (getP c i f2) :=
  fun F => PE.wk (pe_dget2 hu hv (he F) pe_int m) fun σ H Q ⟨H0, ρ, E, q⟩ => by
    unfold getP at q
    cases e1 : pk i ρ with
    | none => rw [e1] at q; exact q.elim
    | some d0 =>
      rw [e1] at q
      obtain ⟨v0, hv0, p0⟩ := pk_at E e1
      refine ⟨v0, hv0, ?_⟩
      cases d0 with
      | dct kvs0 =>
        dsimp only at q
        obtain ⟨a, ks, rfl, h1, h2⟩ := p0
        refine ⟨a, rfl, .inl ⟨_, .inl h1⟩, H0, ρ, E, ?_⟩
        cases e2 : f2 ρ with
        | ok y ρ2 =>
          rw [e2] at q
          dsimp only [R.bind] at q
          intro v H2 B2 E2 m2 d2
          show ∃ o, DGet B2 a v o ∧ Q (o.getD (.int c)) B2
          cases e3 : pk i ρ2 with
          | none => rw [e3] at q; exact q.elim
          | some d =>
            rw [e3] at q
            dsimp only at q
            obtain ⟨v', hv', px⟩ := pk_at E2 e3
            rw [hv0] at hv'
            cases hv'
            cases d with
            | dct kvs =>
              obtain ⟨a', ks', ea, h3, h4⟩ := px
              cases ea
              cases e4 : keyD y with
              | none =>
                have : getOr c (.dct kvs) y = none := by show (keyD y).map _ = none; rw [e4]; rfl
                rw [this] at q
                exact q.elim
              | some k =>
                have : getOr c (.dct kvs) y = some ((getK kvs k).getD (.int c)) := by show (keyD y).map _ = _; rw [e4]; rfl
                rw [this] at q
                dsimp only at q
                refine ⟨valV ks' k, .inl ⟨ks', k, .inl h3, keyD_Va d2 e4, rfl⟩, ?_⟩
                obtain ⟨g1, g2⟩ := h4.get k
                cases e5 : getK kvs k with
                | none =>
                  rw [e5] at q
                  rw [g2 e5]
                  exact q _ H2 B2 E2 m2 (.int c)
                | some z =>
                  rw [e5] at q
                  obtain ⟨vz, e6, dz⟩ := g1 z e5
                  rw [e6]
                  exact q _ H2 B2 E2 m2 dz
            | _ => exact q.elim
        | ex x ρ1 => rw [e2] at q; exact q
        | bad => rw [e2] at q; exact q
      | _ => exact q.elim
end
end DW

set_option Elab.async false
set_option linter.all false
set_option maxRecDepth 100000
set_option maxHeartbeats 4000000
/-! DWX0: an own error whose __init__ says super().__init__(text) and stores one field -/
namespace DWX
open PySem PySem.W PySem.Calls PyProof.Rows PySem.HandSPX
/-! ### the text of __init__ -/
def xA (f : Str) (p1 p2 : Pos) : Arguments := { posonlyargs := [], args := [{ arg := "self", annotation := none, pos := p1 }, { arg := f, annotation := none, pos := p2 }], vararg := none, kwonlyargs := [], kw_defaults := [], kwarg := none, defaults := [] }
def xB (f m : Str) (j : Nat) (q1 q2 q3 q4 q5 q6 r1 r2 r3 r4 : Pos) : List Stmt :=
  [.Expr (.Call (.Attribute (.Call (.Name "super" q1) [] [] q2) "__init__" q3) [.Constant (.str m) j q4] [] q5) q6, .Assign [.Attribute (.Name "self" r1) f r2] (.Name f r3) r4]
def xS (f : Str) : Scope := { kind := .function, names := [(PySem.Str.ofString "self", .local), (f, .local), (PySem.Str.ofString "__class__", .free), (PySem.Str.ofString "super", .globalImplicit)], isGenerator := false, isCoroutine := false, more := [] }
abbrev xSup (q1 q2 : Pos) : Expr := .Call (.Name "super" q1) [] [] q2
/-- the call's places are told: super().__init__(m) runs as a method's call -/
def McOk (m : Str) (j : Nat) (q1 q2 q3 q4 q5 : Pos) : Prop := ∀ env : Env, eval (.Call (.Attribute (xSup q1 q2) "__init__" q3) [.Constant (.str m) j q4] [] q5) env = (do
  let ov ← attributeBase (xSup q1 q2) "__init__" env (eval (xSup q1 q2) env)
  standAt q3.atName
  let (f, first) ← holding [ov] (getMethod ov "__init__" (do return (← importBound (xSup q1 q2) env).getD true))
  callWith q5 f first (backTo q5 (starEach [.Constant (.str m) j q4] env)) [])
example : McOk "x" 0 ⟨22, 8, 22, 13⟩ ⟨22, 8, 22, 15⟩ ⟨22, 8, 22, 24⟩ ⟨22, 25, 22, 56⟩ ⟨22, 8, 22, 57⟩ := fun _ => rfl
/-- the names of the field that the kernel can look through -/
structure FldOk (f : Str) : Prop where
  l : (xS f).names.lookup f = some .local
  s : (xS f).names.lookup ("super" : Str) = some .globalImplicit
  c : (xS f).names.lookup ("__class__" : Str) = some .free
  ne : f ≠ "self"
  db : (f == ("__debug__" : Str)) = false
  bd : ∀ (qual : Str) (p1 p2 : Pos) (bdy : List Stmt) (cl : List (Str × Addr)) (doc pm : Value) (an : Option Addr) (cdv ct a v : Value), bindArgs (fnX "__init__" qual (xA f p1 p2) bdy (xS f) cl .none .none doc pm an cdv ct) ⟨[a, v], []⟩ = pure [(PySem.Str.ofString "self", a), (f, v)]
theorem fld_value : FldOk "value" := ⟨rfl, rfl, rfl, by decide, by decide, by intros; rfl⟩
theorem fld_part : FldOk "part" := ⟨rfl, rfl, rfl, by decide, by decide, by intros; rfl⟩
theorem fld_place : FldOk "place" := ⟨rfl, rfl, rfl, by decide, by decide, by intros; rfl⟩
theorem fld_number : FldOk "number" := ⟨rfl, rfl, rfl, by decide, by decide, by intros; rfl⟩
theorem fld_most : FldOk "most" := ⟨rfl, rfl, rfl, by decide, by decide, by intros; rfl⟩
/-- what the written part says of the class cn, at C, its __init__ at fI -/
structure OwnX (P : Program) (K : Frag) (mg : Str → Option Value) (cn f : Str) (B newId initId : String) (bmB : List Value) (C fI : Addr) : Prop where
  fb : ExcBaseFacts B newId initId bmB
  kf : KxsFacts B initId
  sf : StoreFacts B bmB "object.__setattr__" "object"
  fo : FldOk f
  gC : mg cn = some (.ref C)
  ex : excInitIn K C bmB newId = true
  ov : excOver K C bmB = true
  hd : hasDictIn K C = true
  sa : findIn K (.ref C) "__setattr__" = some (some (.builtin "object.__setattr__"))
  tf : takerIn K C f = some none
  iC : findIn K (.ref C) "__init__" = some (some (.ref fI))
  tI : typeIn K (.ref fI) = some (.type "function")
  kC : keepIn K (.ref C) = true
  bC : subIn K (.ref C) (.type "BaseException") = some true
  sB : subIn K (.ref C) (.type B) = some true
  sC : mroIn K C (.ref C) = some true
  tC : typeIn K (.ref C) = some (.type "type")
  sup : ks_superIn K C C "__init__" = some (some (.builtin initId))
  ms : mg "super" = none
  xf : L2.XfC K C
  no : findIn K (.ref C) f = some none
  op : nsIn K cStatics "thirdparty.any" = some none
  top : (P.main.scope.names.lookup ("super" : Str)).isSome = false
  fn : ∃ (oc : Value) (od : Option Addr) (doc pm : Value) (an : Option Addr) (ct : Value) (osl : Array (Option Value)) (qual m : Str) (j : Nat) (p1 p2 q1 q2 q3 q4 q5 q6 r1 r2 r3 r4 : Pos) (cc cda : Addr) (cl ccl : Value) (cld cdd : Option Addr) (csl ccs : Array (Option Value)) (vs : Array Value) (file : Str) (tf : Tok),
    K.lookup fI = some ⟨oc, od, .func (fnX "__init__" qual (xA f p1 p2) (xB f m j q1 q2 q3 q4 q5 q6 r1 r2 r3 r4) (xS f) [(PySem.Str.ofString "__class__", cc)] .none .none doc pm an (.ref cda) ct), osl⟩ ∧ codeIn K (.ref cda) qual = true ∧
    K.lookup cc = some ⟨cl, cld, .cell (some (.ref C)), csl⟩ ∧ K.lookup cda = some ⟨ccl, cdd, .fields vs, ccs⟩ ∧ vs[2]? = some (.str file tf) ∧ ((P.main.file : Str) == file) = true ∧ McOk m j q1 q2 q3 q4 q5
/-- what __init__ leaves of a new error at x -/
structure InitEnd (h h' : Heap) (x C dx t1 : Addr) (f : Str) (v : Value) : Prop where
  keep : ∀ b o, b ≠ x → h.get? b = some o → h'.get? b = some o
  obj : h'.get? x = some { cls := .ref C, dict := some dx, data := .fields #[.ref t1, .none, .none, .none, .bool false, .none] }
  dbig : h.objs.size ≤ dx
  dne : dx ≠ x
  ns : h'.Ns1 dx (fun y => if y = f then some v else none)
structure Made (h h' : Heap) (e C d : Addr) (f : Str) (v : Value) : Prop where
  keep : ∀ b o, h.get? b = some o → h'.get? b = some o
  new : h.objs.size ≤ e
  obj : ∃ oe vs, h'.get? e = some oe ∧ oe.cls = .ref C ∧ oe.dict = some d ∧ oe.data = .fields vs ∧ vs[1]? = some .none
  dbig : h.objs.size ≤ d
  dne : d ≠ e
  ns : h'.Ns1 d (fun y => if y = f then some v else none)
section
variable {P : Program} {w : World} {A : Around} {E : Value → Shared → Prop} {R : Result → Shared → Prop} {K : Frag} {mg : Str → Option Value} {cn f : Str} {B newId initId : String} {bmB : List Value} {C fI : Addr}
/-- self.f = v, the error without a dict -/
theorem store0 (T : OwnX P K mg cn f B newId initId bmB C fI) {hp : Heap} {g : Array GenState} {d : Drawn} {t : Nat} {os : OsState} {x t1 : Addr} {tk : Tok} {v : Value} (X : K.In hp) (hx : hp.get? x = some (excO C t1))
    (hq : ∀ h' tk' dx, (∀ b o, b ≠ x → hp.get? b = some o → h'.get? b = some o) → hp.objs.size ≤ dx → dx ≠ x → h'.get? x = some { cls := .ref C, dict := some dx, data := .fields #[.ref t1, .none, .none, .none, .bool false, .none] } →
      h'.Ns1 dx (fun y => if y = f then some v else none) → R (.ok (.ret .none)) ⟨h', g, d, tk', os⟩) :
    codeAny (model P w) A (.call (.builtin "object.__setattr__") ⟨[.ref x, .str f tk, v], []⟩) R ⟨hp, g, d, t, os⟩ := by
  have I : InstAt hp x (excO C t1) C none := ⟨hx, rfl, rfl, trivial⟩
  refine osa_openX (s := ⟨hp, g, d, t, os⟩) T.sf X I T.ov T.tf fun b => ?_
  obtain ⟨cd, hc, hd'⟩ := any_some T.hd
  have hcls : Looks (model P w) hp (classData C) cd := looks_clsIn X hc
  have hne : x ≠ hp.objs.size := Nat.ne_of_lt (Heap.lt_size hx)
  have hx1 : (hp.push (dictOf [] 0)).get? x = some (excO C t1) := Heap.get?_push_of_some _ hx
  show wpAny (model P w) _ (Builtin.ObjectAttr.storeInOwnDict (.ref x) (.ref C) (.str f tk) f v b) _ _ _
  refine wpAny_bind (wpAny_pure (wpAny_bind (instanceDict_exc hx hcls hd' ?_)))
  show wpAny _ _ (Builtin.ObjectAttr.storeInDict hp.objs.size (.str f tk) f v) _ _ _
  refine store_in_new ?_ fun h' tk' hn hs => ?_
  · exact ⟨_, #[], _, (Heap.get?_update_ne _ _ _ _ hne.symm).trans (Heap.get?_push_at rfl rfl), rfl, fun e he => absurd he (by simp), fun _ => rfl⟩
  · refine hq h' tk' hp.objs.size (fun b o hb ho => ?_) (Nat.le_refl _) hne.symm ?_ hn
    · exact (hs.2 b (Nat.ne_of_lt (Heap.lt_size ho))).trans ((Heap.get?_update_ne _ _ _ _ hb).trans (Heap.get?_push_of_some _ ho))
    · exact (hs.2 x hne).trans (Heap.get?_update_self _ hx1 rfl)
/-- the bound __init__ of the base, called with a text -/
theorem init_call (T : OwnX P K mg cn f B newId initId bmB C fI) {hp : Heap} {g : Array GenState} {d : Drawn} {t : Nat} {os : OsState} {u x t0 : Addr} {rest : List Value} {Q : Value → Shared → Prop} (X : K.In hp) (hx : hp.get? x = some (excO C t0)) (hu : hp.get? u = some (kxs_mw initId x)) (hz : rest.length ≤ sizeLine)
    (hq : ∀ h' t1, (∀ b o, b ≠ x → hp.get? b = some o → h'.get? b = some o) → h'.get? x = some (excO C t1) → Q .none ⟨h', g, d, t, os⟩) :
    wpAny (model P w) A (call (.ref u) rest) Q E ⟨hp, g, d, t, os⟩ := by
  obtain ⟨nm, N', qn, bs, bm, hdct, sn, sub, ab, col, dd, k0, k1, k2, k3, k5, hC, hT⟩ := excInit_of X T.ex
  refine wpAny_call (codeAny_of_tree ?_)
  show wpAny (model P w) A.in1 (callAny (.ref u) ⟨rest, []⟩) _ _ _
  simp only [callAny]
  refine wpAny_bind (wpAny_load hu ?_)
  have e1 : (Value.type "method-wrapper" == Value.type "method" || Value.type "method-wrapper" == Value.type "builtin_function_or_method" || Value.type "method-wrapper" == Value.type "method-wrapper") = true := by decide
  simp only [kxs_mw, e1, if_true]
  refine KFB.if_so (by decide) ?_
  refine wpAny_bind (check_bound_init T.fb.toExcCallFacts hC hx rfl ?_)
  refine wpAny_bind (wpAny_pure (wpAny_pure ?_))
  refine ⟨plainId_quiet T.fb.init.plain _, codeAny_builtin T.fb.initEntry ?_⟩
  exact exc_init_tree (cls := .ref C) (t0 := t0) (dv := none) (c2 := .none) (c3 := .none) (b4 := .bool false) hx hz fun h' k e _ => hq h' _ k e
theorem one_size (v : Value) : [v].length ≤ sizeLine := by
  rw [sizeLine_eq]
  exact (by decide : 1 ≤ 16777216)
theorem own_init (T : OwnX P K mg cn f B newId initId bmB C fI) {s : Shared} {x t0 : Addr} {v : Value} (X : K.In s.heap) (hlim : s.heap.NoLimit) (G : s.heap.Ns mainGlobals mg) (Bt : ∃ mb, s.heap.Ns builtinsNs mb ∧ ∀ y : Str, y ≠ "__name__" → mb y = bootBuiltins y) (hx : s.heap.get? x = some (excO C t0)) (hnx : K.lookup x = none) (hroom : A.depth < recursionLimit)
    (hq : ∀ h' tk dx t1, InitEnd s.heap h' x C dx t1 f v → R (.ok (.ret .none)) { s with heap := h', toks := tk }) :
    codeAny (model P w) A (.call (.ref fI) ⟨[.ref x, v], []⟩) R s := by
  obtain ⟨oc, od, doc, pm, an, ct, osl, qual, m, j, p1, p2, q1, q2, q3, q4, q5, q6, r1, r2, r3, r4, cc, cda, cl, ccl, cld, cdd, csl, ccs, vs, file, tf, ho, hcd, hcell, hcode, hvs, hfile, hmc⟩ := T.fn
  obtain ⟨cd, hc, hd'⟩ := any_some T.hd
  have hnf : ∀ y ∈ (xS f).names, y.2 ≠ .cell := fun y hy => by
    simp only [xS, List.mem_cons, List.not_mem_nil, or_false] at hy
    rcases hy with rfl | rfl | rfl | rfl <;> exact fun z => nomatch z
  have hloc : ∀ y ∈ [((PySem.Str.ofString "self"), Value.ref x), (f, v)], (xS f).names.lookup y.1 = some .local := fun y hy => by
    simp only [List.mem_cons, List.not_mem_nil, or_false] at hy
    rcases hy with rfl | rfl
    · rfl
    · exact T.fo.l
  refine ks_codeAny_call_defAt (fd := fnX "__init__" qual (xA f p1 p2) (xB f m j q1 q2 q3 q4 q5 q6 r1 r2 r3 r4) (xS f) [(PySem.Str.ofString "__class__", cc)] .none .none doc pm an (.ref cda) ct) (body := xB f m j q1 q2 q3 q4 q5 q6 r1 r2 r3 r4) (binds := [(PySem.Str.ofString "self", .ref x), (f, v)])
    hroom (X _ _ ho) rfl hlim (codeRec_of X hcd) rfl (BindsTo.of_eq (T.fo.bd _ _ _ _ _ _ _ _ _ _ _ _)) hnf hloc (fun h₁ hn k => ?_)
  have X1 : K.In h₁ := X.keeps k
  have hx1 := k _ _ hx
  obtain ⟨oD, hD1, hD2⟩ : ∃ oD, h₁.get? C = some oD ∧ oD.data = .cls cd := by
    unfold clsIn at hc
    split at hc
    · rename_i c d cd' sl hK
      cases hc
      exact ⟨_, X1 _ _ hK, rfl⟩
    · cases hc
  have G1 := G.keeps k
  obtain ⟨mb, b1, b2⟩ := Bt
  have b1' := b1.keeps k
  show _root_.PySem.wpAt (model P w) _ _ (execs (xB f m j q1 q2 q3 q4 q5 q6 r1 r2 r3 r4) _) _ _ _
  refine ks_wpAt_execs_cons (ks_wpAt_Expr_any (ks_wpAt_MethodCall (ks_wpAt_super_base T.fo.s T.fo.c rfl rfl (X1 _ _ ho) rfl rfl rfl (X1 _ _ hcode) rfl hvs hfile T.top ?_) (he := hmc _)))
  refine ks_loadName_global rfl T.fo.s (loadGlobal_builtin G1 T.ms b1' ((b2 _ (by decide)).trans (by rfl)) ⟨rfl, ?_⟩)
  refine wpAny_loadName_free rfl T.fo.c rfl ⟨_, X1 _ _ hcell, rfl⟩ ?_
  have ls : ([(PySem.Str.ofString "self", Value.ref x), (f, v)] : List (Str × Value)).reverse.lookup ("self" : Str) = some (.ref x) := by
    have : ((PySem.Str.ofString "self") == f) = false := by simpa using Ne.symm T.fo.ne
    simp [List.lookup, this]
  have lf : ([(PySem.Str.ofString "self", Value.ref x), (f, v)] : List (Str × Value)).reverse.lookup f = some v := by simp [List.lookup]
  refine wpAny_loadName_local rfl rfl hn (v := .ref x) ls ?_
  refine ks_wpAny_isType_cls hD1 hD2 ⟨rfl, ?_⟩
  refine ks_wpAny_call_super hD1 hD2 hx1 rfl (fun c e => nomatch e) (looks_mroIn X1 T.sC) (fun h2 e2 k2 => ?_)
  -- the bound __init__ of the base
  have X2 : K.In h2 := X1.keeps k2
  have hx2 := k2 _ _ hx1
  have I2 : InstAt h2 x (excO C t0) C none := ⟨hx2, rfl, rfl, trivial⟩
  have hxC : x ≠ C := ks_ne X2 I2 hc
  have hsup := T.sup
  unfold ks_superIn at hsup
  rw [hc] at hsup
  have hmro : Looks (model P w) h2 (mroOf (.ref C)) cd.mro := fun A Q E s k q => wpAny_bind ((looks_clsIn X2 hc) A _ E s k (wpAny_pure q))
  refine kxs_getMethod T.kf e2 (looks_opaque X2 T.op) hmro rfl X2 hsup (I2.type.andThen (looks_subIn X2 T.sB)) hxC rfl ?_
  have k3 : ∀ b o, h2.get? b = some o → (h2.push (kxs_mw initId x)).get? b = some o := fun b o e => Heap.get?_push_of_some _ e
  have hu : (h2.push (kxs_mw initId x)).get? h2.objs.size = some (kxs_mw initId x) := Heap.get?_push_at rfl rfl
  refine kxs_callWith (i := initId) (x := x) rfl ?_
  refine evalArgs_plain (spliced_more (wpAny_Constant_str (spliced_none ?_)))
  refine ⟨hu, init_call T (X2.keeps k3) (k3 _ _ hx2) hu (one_size _) fun h4 t1 k4 hx4 => ?_⟩
  have kA : ∀ b o, b ≠ x → s.heap.get? b = some o → h4.get? b = some o := fun b o hb e => k4 b o hb (k3 b o (k2 b o (k b o e)))
  have hxL : s.heap.objs.size ≠ x := Nat.ne_of_gt (Heap.lt_size hx)
  have hn4 : h4.Ns s.heap.objs.size (fun y => ([(PySem.Str.ofString "self", Value.ref x), (f, v)] : List (Str × Value)).reverse.lookup y) := by
    obtain ⟨oL, es, ep, hL, r⟩ := hn
    exact ⟨oL, es, ep, k4 _ _ hxL (k3 _ _ (k2 _ _ hL)), r⟩
  have X4 : K.In h4 := fun a o e => k4 a o (fun z => by
    rw [z, hnx] at e
    cases e) (k3 a o (X2 a o e))
  show _root_.PySem.wpAt (model P w) _ _ (execs [.Assign [.Attribute (.Name "self" r1) f r2] (.Name f r3) r4] _) _ _ _
  refine ks_wpAt_execs_cons (ks_wpAt_Assign_Attr ?_)
  refine _root_.PySem.wpAt_of_wpAny ?_
  refine wpAny_Name (wpAny_loadName_local rfl T.fo.l hn4 lf ?_) T.fo.db
  refine wpAny_Name (wpAny_loadName_local rfl rfl hn4 ls ?_) rfl
  refine set_plain X4 (ox := excO C t1) (od := none) ⟨hx4, rfl, rfl, trivial⟩ T.sa ?_
  refine store0 T X4 hx4 fun h5 tk5 dx k5 d1 d2 hx5 n5 => ?_
  refine _root_.PySem.wpAt_of_wpAny (wpAny_execs_nil ?_)
  refine hq h5 tk5 dx t1 ⟨fun b o hb e => k5 b o hb (kA b o hb e), hx5, ?_, d2, n5⟩
  exact Nat.le_of_lt (Nat.lt_of_lt_of_le hn4.lt d1)
theorem own_made (T : OwnX P K mg cn f B newId initId bmB C fI) {s : Shared} {v : Value} (X : K.In s.heap) (hlim : s.heap.NoLimit) (G : s.heap.Ns mainGlobals mg) (Bt : ∃ mb, s.heap.Ns builtinsNs mb ∧ ∀ y : Str, y ≠ "__name__" → mb y = bootBuiltins y) (hroom : A.depth + 1 < recursionLimit)
    (hq : ∀ h' tk e d, Made s.heap h' e C d f v → R (.ok (.ret (.ref e))) { s with heap := h', toks := tk }) :
    codeAny (model P w) A (.call (.ref C) ⟨[v], []⟩) R s := by
  obtain ⟨nm, N', qn, bs, bm, hdct, sn, sub, ab, col, dd, k0, k1, k2, k3, k5, hC, hT⟩ := excInit_of X T.ex
  obtain ⟨hp, g, dr, tk, os⟩ := s
  have k : ∀ b o, hp.get? b = some o → ((hp.push (kdv_tup [v])).push (excO C hp.objs.size)).get? b = some o := fun b o e => Heap.get?_push_of_some _ (Heap.get?_push_of_some _ e)
  have hget : ((hp.push (kdv_tup [v])).push (excO C hp.objs.size)).get? (hp.objs.size + 1) = some (excO C hp.objs.size) := by heap_get
  have hnx : K.lookup (hp.objs.size + 1) = none := by
    cases e : K.lookup (hp.objs.size + 1) with
    | none => rfl
    | some o =>
      have z : hp.get? (hp.objs.size + 1) = some o := X _ _ e
      exact absurd (Nat.lt_of_succ_lt (Heap.lt_size z)) (Nat.lt_irrefl _)
  obtain ⟨mb, b1, b2⟩ := Bt
  refine call_own T.fb hT hC (looks_findIn X T.iC) (fun self => bind_fn X self T.tI) (one_size v) ?_
  refine own_init (s := ⟨(hp.push (kdv_tup [v])).push (excO C hp.objs.size), g, dr, tk, os⟩) T (X.keeps k) (hlim.keeps k) (G.keeps k) ⟨mb, b1.keeps k, b2⟩ hget hnx hroom fun h' tk' dx t1 J => ?_
  have old : ∀ b o, hp.get? b = some o → h'.get? b = some o := fun b o e => J.keep b o (Nat.ne_of_lt (Nat.lt_succ_of_lt (Heap.lt_size e))) (k b o e)
  have z : hp.objs.size + 1 + 1 ≤ dx := by
    have q := J.dbig
    first
      | exact q
      | (simpa only [Heap.size_push] using q)
  exact ⟨rfl, hq h' tk' (hp.objs.size + 1) dx ⟨old, Nat.le_succ _, ⟨_, _, J.obj, rfl, rfl, rfl, rfl⟩, Nat.le_trans (by omega : hp.objs.size ≤ hp.objs.size + 1 + 1) z, J.dne, J.ns⟩⟩
end
end DWX
namespace DW
open PySem PySem.Spec PyProof.Rows L2
theorem relO_fld {v : V} {u : Value} (r : RelV v u) (f y : Str) : RelO (List.lookup y [(f, v)]) (if y = f then some u else none) := by
  by_cases h : y = f
  · subst h
    rw [if_pos rfl]
    simp only [List.lookup, beq_self_eq_true]
    exact r
  · have h2 : (y == f) = false := by simpa using h
    rw [if_neg h]
    simp only [List.lookup, h2]
    trivial
section
variable {X : Cx} {cn f : Str} {B newId initId : String} {bmB : List Value} {C fI : Addr}
/-- X(e), an own error with the field f -/
def tMkX (C : Addr) (f : Str) (ta : TA) : L2.St → Hp → XK → Prop := fun σ H Q => ta σ H fun vs H1 => ∃ v, vs = [v] ∧ ∀ d, H1 d = none → Q (.ref C) (some d) (upd H1 d (.xd [(f, v)]))
theorem pmk_x {a : Expr} {ta : TA} {p pos : Pos} {k : Nat} (T : DWX.OwnX X.prog X.K X.mg cn f B newId initId bmB C fI) (hr : Room k X.A) (ha : PA X [a] ta) (hg : Gl X cn)
    (hd : (cn == ("__debug__" : Str)) = false) (he : starEach (a :: []) X.env = (false, eval a X.env) :: starEach [] X.env := by rfl) (hpl : (backTo pos (starEach [] X.env)).any (·.1) = false := by rfl) :
    PMk X (.Call (.Name cn p) [a] [] pos) (tMkX C f ta) := by
  intro pins s σ H Q I h
  refine wpAny_Call_Name_kw (ld_glob I hg T.gC ?_ hd)
  refine PySem.W.callWith_K (h₀ := X.base) I.ok.mod.kin T.kC (thn (ha.run pos pins s σ H _ I h) fun us s1 hh => ?_) he hpl
  obtain ⟨vs, H1, I1, r1, v, ev, q1⟩ := hh
  subst ev
  refine ⟨I1.kIn, ?_⟩
  cases r1 with
  | cons rv rn =>
    rename_i v' us'
    cases rn
    show wpAny _ _ (call (.ref C) [v']) _ _ _
    have hlim := I1.nolimit
    have hG : s1.heap.Ns mainGlobals X.mg := I1.mod.glob.keeps I1.bk
    have hB : ∃ mb, s1.heap.Ns builtinsNs mb ∧ ∀ y : Str, y ≠ "__name__" → mb y = bootBuiltins y := by
      obtain ⟨mb, b1, b2⟩ := I1.mod.blt
      exact ⟨mb, b1.keeps I1.bk, b2⟩
    obtain ⟨hp, g, dr, tk, os⟩ := s1
    refine wpAny_call (DWX.own_made T I1.kIn hlim hG hB (by have := hr.dp; omega) fun h' tk' e d M => ?_)
    show MkP X pins σ Q (.ref e) ⟨h', g, dr, tk', os⟩
    obtain ⟨oe, fv, hoe, hc, hdd, hdat, h1⟩ := M.obj
    obtain ⟨G', g1, g2⟩ := restrict h' fun b => decide (b ≠ e)
    have gk : ∀ b, b ≠ e → G'.get? b = h'.get? b := fun b hb => g1 b (decide_eq_true hb)
    have ge : G'.get? e = none := g2 e (by simp)
    have old : ∀ b o, hp.get? b = some o → G'.get? b = some o := fun b o q => (gk b (Nat.ne_of_lt (Nat.lt_of_lt_of_le (Heap.lt_size q) M.new))).trans (M.keep b o q)
    have ob : ObjOk X.prog X.w (upd H1 d (.xd [(f, v)])) G' d (.xd [(f, v)]) := ⟨_, M.ns.at (fun o q => (gk d M.dne).trans q), fun y => relO_fld rv f y⟩
    have J : Inv X pins σ (upd H1 d (.xd [(f, v)])) ⟨G', g, dr, tk', os⟩ := I1.laid (t' := tk') old M.dbig ob
    refine ⟨e, oe, fv, ⟨G', g, dr, tk', os⟩, _, .ref C, some d, rfl, J, fun b o q => ?_, ge, hoe, ⟨hc, hdd⟩, hdat, h1, ?_, rfl, I1.bare, raises_own T.bC T.tC, q1 d (I1.hok.fresh M.dbig)⟩
    · by_cases hb : b = e
      · have q' : G'.get? b = some o := q
        rw [hb, ge] at q'
        cases q'
      · exact (gk b hb).symm.trans q
    · rw [upd_ne (Ne.symm M.dne)]
      exact I1.hok.fresh M.new
end
end DW

set_option Elab.async false
set_option linter.all false
set_option maxRecDepth 100000
set_option maxHeartbeats 4000000
/-! DWX1: defs that raise, calls of them, raise, try .. except X as n: return n.f -/
namespace DW
open PySem PySem.Spec PyProof.Rows L2
def spX (g : Gx) (fn : Fn) : Sp := fun vs H Q E => ∃ H0 ds, Same H0 H ∧ TbOk g.K H0 H ∧ DaAll g.K H0 vs ds ∧ match fn ds with
  | .ok s => ∀ v H0' H', Gw ⟨H0, H, none⟩ H0' H' → TbOk g.K H0' H' → Same H0' H' → SlR g.K ⟨H0, H, none⟩ H0' H' v s → Q v H'
  | .ex e => ∀ c da H0' H', Gw ⟨H0, H, none⟩ H0' H' → TbOk g.K H0' H' → Same H0' H' → XR g ⟨H0, H, none⟩ H0' H' e c da → E c da H'
  | .bad => False
abbrev wE (E : XK) : WX := fun c d _ H => E c d H
def HasX (P : Program) (w : World) (K : PySem.W.Frag) (mg : Str → Option Value) (base : Heap) (x : Str) (ps : List Str) (fn : Fn) (k : Nat) : Prop :=
  ∃ f fd, mg x = some (.ref f) ∧ PySem.W.keepIn K (.ref f) = true ∧ Binds K fd ps [] ∧ FnG P w K mg base (L2.CX P w) k f fd ps (spX ⟨K, mg⟩ fn)
section
variable {P : Program} {w : World} {K : PySem.W.Frag} {mg : Str → Option Value} {base : Heap}
theorem fnDX {x qual : Str} {params : Arguments} {bd : List Stmt} {scope : Scope} {f : Addr} {fd : FuncData} {N ps : List Str} {k : Nat} {body : Rho → SR} (F : FunD K x qual params bd scope [] [] f fd) (S : FnScope N ps scope) (hN : ps.length ≤ N.length)
    (hb : ∀ (cdv : Value) (A : Around) (outer : List Env) (s : Shared) (H : Hp) (E : XK), Room k (A.deeper (envOfC qual scope s.heap.objs.size f cdv)) → Quiet (A.deeper (envOfC qual scope s.heap.objs.size f cdv)) →
      Takes (cxOf (L2.CX P w) P w K mg base N qual scope f cdv A outer s H E) (wE E) → PassesOwn (model P w) (cxOf (L2.CX P w) P w K mg base N qual scope f cdv A outer s H E).A (cxOf (L2.CX P w) P w K mg base N qual scope f cdv A outer s H E).env (cxOf (L2.CX P w) P w K mg base N qual scope f cdv A outer s H E).xe →
      DSs (cxOf (L2.CX P w) P w K mg base N qual scope f cdv A outer s H E) (wE E) bd body) :
    FnG P w K mg base (L2.CX P w) (k + 1) f fd ps (spX ⟨K, mg⟩ (runF ps.length N.length body)) := by
  have lem : ∀ ds : List Dt, runF ps.length N.length body ds ≠ .bad → ds.length = ps.length := fun ds h => by
    unfold runF at h
    split at h
    · assumption
    · exact absurd rfl h
  have lem2 : ∀ {vs : List V} {H : Hp} {Q : VK} {E : XK} {H0 : Hp} {ds : List Dt}, (match runF ps.length N.length body ds with
      | .ok s => ∀ v H0' H', Gw ⟨H0, H, none⟩ H0' H' → TbOk K H0' H' → Same H0' H' → SlR K ⟨H0, H, none⟩ H0' H' v s → Q v H'
      | .ex e => ∀ c da H0' H', Gw ⟨H0, H, none⟩ H0' H' → TbOk K H0' H' → Same H0' H' → XR ⟨K, mg⟩ ⟨H0, H, none⟩ H0' H' e c da → E c da H'
      | .bad => False) → ds.length = ps.length := fun {vs H Q E H0 ds} h => by
    refine lem ds fun z => ?_
    rw [z] at h
    exact h
  refine fnG F S (fun vs H Q E h => ?_) (fun cdv A outer s H vs Q E hr hq _ h => ?_)
  · obtain ⟨H0, ds, h1, tb, h2, h3⟩ := h
    rw [h2.length]
    exact lem2 (vs := vs) h3
  · obtain ⟨H0, ds, h1, tb, h2, h3⟩ := h
    have hl : ds.length = ps.length := lem2 (vs := vs) h3
    refine ⟨_, hb cdv A outer s H E hr hq (takes_of rfl rfl rfl rfl) (passes_of rfl) ⟨H0, H, none⟩, H0, envOf N.length ds, en_start h1 tb h2 (by omega), ?_⟩
    unfold runF at h3
    rw [if_pos hl] at h3
    cases e : body (envOf N.length ds) with
    | nx ρ' =>
      rw [e] at h3
      exact fun σ' H0' H' E' _ => h3 _ H0' H' E'.gr E'.tb E'.ex (Da.non : Da K H0' .non .non)
    | rt s ρ' =>
      rw [e] at h3
      exact fun v σ' H0' H' E' hs => h3 _ H0' H' E'.gr E'.tb E'.ex hs
    | bk _ => rw [e] at h3; exact h3.elim
    | ct _ => rw [e] at h3; exact h3.elim
    | ex x ρ' =>
      rw [e] at h3
      exact fun σ' c da H0' H' xr E' => h3 c da H0' H' E'.gr E'.tb E'.ex xr
    | bad => rw [e] at h3; exact h3.elim
theorem hasX {x : Str} {st : Stmt} {N ps : List Str} {k : Nat} {body : Rho → SR} (D : IsDef K mg x st) (S : FnScope N ps (defScope st)) (hN : ps.length ≤ N.length)
    (hbi : ∀ (kV doc pm : Value) (an : Option Addr) (cdv ct : Value) (us : List Value), us.length = ps.length → bindArgs (PySem.W.fnOf x x (defArgs st) (defBody st) (defScope st) .none kV doc pm an cdv ct) ⟨us, []⟩ = pure (ps.zip us))
    (hb : ∀ (f : Addr) (cdv : Value) (A : Around) (outer : List Env) (s : Shared) (H : Hp) (E : XK), Room k (A.deeper (envOfC x (defScope st) s.heap.objs.size f cdv)) → Quiet (A.deeper (envOfC x (defScope st) s.heap.objs.size f cdv)) →
      Takes (cxOf (L2.CX P w) P w K mg base N x (defScope st) f cdv A outer s H E) (wE E) → PassesOwn (model P w) (cxOf (L2.CX P w) P w K mg base N x (defScope st) f cdv A outer s H E).A (cxOf (L2.CX P w) P w K mg base N x (defScope st) f cdv A outer s H E).env (cxOf (L2.CX P w) P w K mg base N x (defScope st) f cdv A outer s H E).xe →
      DSs (cxOf (L2.CX P w) P w K mg base N x (defScope st) f cdv A outer s H E) (wE E) (defBody st) body) :
    HasX P w K mg base x ps (runF ps.length N.length body) (k + 1) := by
  obtain ⟨f, fd, F, hm⟩ := D
  exact ⟨f, fd, hm, F.kp, F.bindsN hbi, fnDX F S hN (hb f)⟩
end
/-! ### calls of such -/
def callX (fn : Fn) (fa : Rho → R (List Dt)) : Rho → R Dt := fun ρ => (fa ρ).bind fun ds ρ1 => match fn ds with
  | .ok (.fr d) => .ok d ρ1
  | .ex e => .ex e ρ1
  | _ => .bad
section
variable {X : Cx} {CX : CXT} {k : Nat} {f : Addr} {fd : FuncData} {ps : List Str} {sp : Sp} {E : L2.St → XK} {x : Str} {p pos : Pos} {e : Expr} {es : List Expr} {t : TA}
theorem runGS {pins : List (Addr × Obj)} {σ : L2.St} {H : Hp} {s : Shared} {Q : VK} {us : List Value} {vs : List V} (G : FnG X.prog X.w X.K X.mg X.base CX k f fd ps sp) (room : Room k X.A) (quiet : Quiet X.A) (bind : Binds X.K fd ps []) (hx : PassesAt CX X σ (E σ))
    (J : Inv X pins σ H s) (rel : Vals vs us) (h : sp vs H Q (E σ)) : wpAny (model X.prog X.w) X.A (call (.ref f) us) (EP X pins σ Q) X.xe s := by
  have hl : (us ++ []).length = ps.length := by rw [List.append_nil, ← rel.length]; exact G.len _ _ _ _ h
  have hb : BindsTo s fd ⟨us, []⟩ (ps.zip us) := by
    have := bind s us J.kIn hl
    rwa [List.append_nil] at this
  refine wpAny_call (codeAny_mono (G.run X.A X.stack s H ⟨us, []⟩ us vs Q (E σ) room quiet J.env0 hb rel h) fun res s' hq => ?_)
  match res, hq with
  | .error err, hq => exact hx pins H s err s' J hq
  | .ok (.ret u), hq => exact J.after hq
  | .ok .next, hq => exact False.elim hq
  | .ok .brk, hq => exact False.elim hq
  | .ok .cont, hq => exact False.elim hq
theorem pe_callGS (G : FnG X.prog X.w X.K X.mg X.base CX k f fd ps sp) (room : Room k X.A) (quiet : Quiet X.A) (hgl : Gl X x) (hmg : X.mg x = some (.ref f)) (keep : PySem.W.keepIn X.K (.ref f) = true) (bind : Binds X.K fd ps []) (hx : ∀ σ, PassesAt CX X σ (E σ))
    (args : PA X (e :: es) t) (hdb : (x == ("__debug__" : Str)) = false) (he : starEach (e :: es) X.env = (false, eval e X.env) :: starEach es X.env) (hpl : (backTo pos (starEach es X.env)).any (·.1) = false) :
    PE X (.Call (.Name x p) (e :: es) [] pos) (tCallS sp E t) :=
  ⟨fun pins s σ H Q J h => wpAny_Call_Name_kw (ld_glob J hgl hmg (PySem.W.callWith_K (h₀ := X.base) J.ok.mod.kin keep (thn (args.run pos pins s σ H _ J h) fun us s1 z => by
    obtain ⟨vs, H1, J1, rel, q⟩ := z
    exact ⟨J1.kIn, runGS G room quiet bind (hx σ) J1 rel q⟩) he hpl) hdb)⟩
end
section
variable {g : Gx} {F : Fm} {W : WX} {σ : L2.St} {H : Hp} {Q : VK}
theorem tCallX_of {fn : Fn} {fa : Rho → R (List Dt)} (h : tD g F W (callX fn fa) σ H Q) : tCallS (spX g fn) (WE W) (tDA g F W fa) σ H Q := by
  obtain ⟨H0, ρ, E, q⟩ := h
  refine ⟨H0, ρ, E, ?_⟩
  unfold callX at q
  cases e : fa ρ with
  | ok ds ρ1 =>
    rw [e] at q
    dsimp only [R.bind] at q
    intro vs H0' H' E' m hd
    refine ⟨H0', ds, E'.ex, E'.tb, hd, ?_⟩
    cases e2 : fn ds with
    | ok s =>
      rw [e2] at q
      cases s with
      | fr d =>
        intro v C0 C gr tt s2 hv
        obtain ⟨E3, m3⟩ := E'.postW m gr tt s2
        exact q v C0 C E3 m3 hv
      | _ => exact q.elim
    | ex x =>
      rw [e2] at q
      intro c da C0 C gr tt s2 xr
      obtain ⟨E3, m3⟩ := E'.postW m gr tt s2
      obtain ⟨p, v, x1, x2, x3, x4⟩ := xr
      exact q c da C0 C ⟨p, v, x1, x2, Classical.byContradiction fun z => E'.gr.st p z x3, x4⟩ E3
    | bad => rw [e2] at q; exact q.elim
  | ex x ρ1 =>
    rw [e] at q
    exact q
  | bad => rw [e] at q; exact q.elim
end
section
variable {X : Cx} {W : WX} {e : Expr} {es : List Expr} {pos p p2 : Pos} {fa : Rho → R (List Dt)} {k j : Nat} {ps : List Str} {x : Str}
theorem de_hX {fn : Fn} (h : HasX X.prog X.w X.K X.mg X.base x ps fn j) (tk : Takes X W) (hr : Room k X.A) (hq : Quiet X.A) (hjk : j ≤ k) (hg : Gl X x)
    (ha : DA X W (e :: es) fa) (hdb : (x == ("__debug__" : Str)) = false := by decide) (he : starEach (e :: es) X.env = (false, eval e X.env) :: starEach es X.env := by rfl) (hpl : (backTo pos (starEach es X.env)).any (·.1) = false := by rfl) :
    DE X W (.Call (.Name x p) (e :: es) [] pos) (callX fn fa) := by
  obtain ⟨f, fd, hm, hk, hb, G⟩ := h
  exact fun F => PE.wk (pe_callGS G (hr.mono hjk) hq hg hm hk hb (fun σ => passAt tk σ) (ha F) hdb he hpl) fun _ _ _ h => tCallX_of h
end
/-! ### raise -/
def raiseS (cls fld : Str) (f1 : Rho → R Dt) : Rho → SR := fun ρ => (f1 ρ).bindS fun d ρ1 => .ex ⟨cls, fld, d⟩ ρ1
section
variable {X : Cx} {W : WX} {cn f : Str} {B newId initId : String} {bmB : List Value} {C fI : Addr} {e : Expr} {f1 : Rho → R Dt} {p pos pos2 : Pos} {k : Nat}
theorem ds_raise (T : DWX.OwnX X.prog X.K X.mg cn f B newId initId bmB C fI) (hr : Room k X.A) (hc : X.calm = true) (tk : Takes X W) (hg : Gl X cn) (ha : DE X W e f1)
    (hd : (cn == ("__debug__" : Str)) = false := by decide) (he : starEach (e :: []) X.env = (false, eval e X.env) :: starEach [] X.env := by rfl) (hpl : (backTo pos (starEach [] X.env)).any (·.1) = false := by rfl) :
    DS X W (.Raise (some (.Call (.Name cn p) [e] [] pos)) none pos2) (raiseS cn f f1) := fun F =>
  PS.wk (ps_raise hc tk (pmk_x T hr (pa_cons (ha F) pa_nil he) hg hd he hpl)) fun D σ H h => by
    obtain ⟨H0, ρ, E, q⟩ := h
    refine ⟨H0, ρ, E, ?_⟩
    unfold raiseS at q
    cases e1 : f1 ρ with
    | ok d ρ1 =>
      rw [e1] at q
      intro v H0' H' E' m hv
      exact ⟨v, rfl, fun dx hdx => q σ (.ref C) (some dx) H0' (upd H' dx (.xd [(f, v)])) ⟨dx, v, T.gC, rfl, Classical.byContradiction fun z => E'.gr.st dx z hdx, upd_same, hv⟩ (E'.grow (gr_newO hdx) (same_newO hdx E'.ex))⟩
    | ex x ρ1 =>
      rw [e1] at q
      exact q σ
    | bad => rw [e1] at q; exact q.elim
end
end DW

set_option Elab.async false
set_option linter.all false
set_option maxRecDepth 100000
set_option maxHeartbeats 4000000
/-! DWX2: try: .. except X as n: return n.f -/
namespace DW
open PySem PySem.Spec PyProof.Rows L2
/-- body; what each error's class is to the clause; what the suite returns of an error -/
def tryR (i : Nat) (fb : Rho → SR) (mt : Str → Option Bool) (su : Xc → Option Dt) : Rho → SR := fun ρ => match fb ρ with
  | .ex e ρ1 => match mt e.cls with
    | some true => match su e with
      | some d => if i < ρ1.length then .rt (.fr d) ρ1 else .bad
      | none => .bad
    | some false => .ex e ρ1
    | none => .bad
  | r => r
/-- the field of an error of just one class -/
def fldOf (cn f : Str) (e : Xc) : Option Dt := if e.cls = cn ∧ e.fld = f then some e.val else none
/-- the clause's class is at c -/
def MtOk (K : PySem.W.Frag) (mg : Str → Option Value) (mt : Str → Option Bool) (c : Value) : Prop := ∀ cn b, mt cn = some b → ∀ cv, mg cn = some cv → PySem.W.exmOne K cv c = some b
def mtL (l : List (Str × Bool)) (s : Str) : Option Bool := l.lookup s
theorem mt_nil {K : PySem.W.Frag} {mg : Str → Option Value} {c : Value} : MtOk K mg (mtL []) c := fun cn b h => by
  unfold mtL at h
  cases h
theorem mt_cons {K : PySem.W.Frag} {mg : Str → Option Value} {c : Value} {l : List (Str × Bool)} {cn : Str} {b : Bool} {a : Addr} (hg : mg cn = some (.ref a)) (he : PySem.W.exmOne K (.ref a) c = some b) (h : MtOk K mg (mtL l) c) : MtOk K mg (mtL ((cn, b) :: l)) c := fun y b' hy cv hcv => by
  unfold mtL at hy
  rw [List.lookup_cons] at hy
  split at hy
  · rename_i e
    have e2 : y = cn := by simpa using e
    subst e2
    rw [hg] at hcv
    cases hcv
    cases hy
    exact he
  · exact h y b' hy cv hcv
section
variable {X : Cx} {W : WX} {cn f n : Str} {B newId initId : String} {bmB : List Value} {C fI : Addr} {body : List Stmt} {fb : Rho → SR} {p1 p2 p3 p4 p5 p6 : Pos} {mt : Str → Option Bool}
theorem ds_tryF (i : Nat) (T : DWX.OwnX X.prog X.K X.mg cn f B newId initId bmB C fI) (hm : MtOk X.K X.mg mt (.ref C)) (hs : X.stack = X.env :: X.outer) (hf : X.env.frame = some X.env.locals) (hN : X.N.Nodup) (hi : X.N[i]? = some n) (hln : X.env.kindOf n = some .local) (hg : Gl X cn) (tk : Takes X W)
    (hb : ∀ (W' : WX) (pn : List (Addr × Obj)) (xe : Value → Shared → Prop), Takes (X.tr pn xe) W' → PassesOwn (model X.prog X.w) X.A X.env xe → DSs (X.tr pn xe) W' body fb)
    (hd : (cn == ("__debug__" : Str)) = false := by decide) (hv : ∀ a oe pn, PE (X.suite a ((a, oe) :: pn)) (.Name n p3) (tVar i) := by exact fun _ _ _ => pv _) (hab : attributeBase (.Name n p3) f X.env (eval (.Name n p3) X.env) = eval (.Name n p3) X.env := by rfl) :
    DS X W (.Try body [.ExceptHandler (some (.Name cn p1)) (some n) [.Return (some (.Attribute (.Name n p3) f p4)) p5] p2] [] [] p6) (tryR i fb mt (fldOf cn f)) := fun F =>
  PS.wk (ps_try_as (i := i) (tb := fun W' => tS (gx X) F W' fb) (ts := fun a cls d => tRet (tXf a cls d C f (tVar i))) (Wout := W) hs hf hN hi hln ⟨hg, hd, .inl T.gC⟩ tk
      (fun W' pn xe tk' po => hb W' pn xe tk' po F) (fun a oe cls d pn hz hf' => pss_one (ps_ret (pe_xf T.xf T.no hz hf' (hv a oe pn) hab)))) fun D σ H h => by
    obtain ⟨H0, ρ, E, q⟩ := h
    refine ⟨H0, ρ, E, ?_⟩
    unfold tryR at q
    cases e1 : fb ρ with
    | nx ρ1 => rw [e1] at q; exact q
    | rt s ρ1 => rw [e1] at q; exact q
    | bk ρ1 => rw [e1] at q; exact q
    | ct ρ1 => rw [e1] at q; exact q
    | bad => rw [e1] at q; exact q
    | ex e ρ1 =>
      rw [e1] at q
      dsimp only at q
      intro σ' cv da H0' H' xr E'
      cases e2 : mt e.cls with
      | none => rw [e2] at q; exact q.elim
      | some b =>
        rw [e2] at q
        obtain ⟨dd, v, g1, g2, g0, g3, g4⟩ := xr
        refine ⟨b, hm _ _ e2 _ g1, fun hbt a ha => ?_, fun hbf => ?_⟩
        · subst hbt
          dsimp only at q
          unfold fldOf at q
          by_cases hc : e.cls = cn ∧ e.fld = f
          · rw [if_pos hc] at q
            have hcv : cv = .ref C := by
              rw [hc.1] at g1
              exact Option.some.inj (g1.symm.trans T.gC)
            dsimp only at q
            by_cases hi1 : i < ρ1.length
            rotate_left
            · rw [if_neg hi1] at q
              exact q.elim
            rw [if_pos hi1] at q
            have hl : i < σ'.length := by rw [E'.len]; exact hi1
            refine ⟨.ref a, by rw [List.getElem?_set_self hl], rfl, hcv, dd, [(e.fld, v)], v, g2, g3, by rw [hc.2]; simp [List.lookup], ?_⟩
            exact q v σ' H0' H' E' g4
          · rw [if_neg hc] at q
            exact q.elim
        · subst hbf
          exact q σ' cv da H0' H' ⟨dd, v, g1, g2, g0, g3, g4⟩ E'
end
end DW

set_option Elab.async false
set_option linter.all false
set_option maxRecDepth 100000
set_option maxHeartbeats 4000000
/-! DWX3: the facts of own error classes, told by the head -/
namespace DWX
open PySem PySem.W PySem.Calls PyProof.Rows L2 He
/-- an error class: its name, its field, the text of its __init__, the base above it -/
structure XD where
  cn : Str
  fld : Str
  st : Stmt
  B : String
  newId : String
  initId : String
  bmB : List Value
abbrev FnE : Type := Option (Str × Str × Arguments × FuncBody × Scope × Addr × List Str × Addr)
def initAt (K : Frag) (cn : Str) : Addr := ma K (ga K cn) "__init__"
def fnE (K : Frag) (a : Addr) : FnE := match K.lookup a with
  | some ⟨_, _, .func fd, _⟩ => some (fd.name, fd.qualname, fd.params, fd.body, fd.scope, fd.globals, fd.closure.map (·.1), fd.builtins)
  | _ => none
def XD.val (d : XD) : FnE := some ("__init__", d.cn ++ ".__init__", defArgs d.st, .stmts (defBody d.st), defScope d.st, mainGlobals, [PySem.Str.ofString "__class__"], builtinsNs)
def cellB (K : Frag) (C : Addr) : List (Str × Addr) → Bool
  | [(_, cc)] => (match K.lookup cc with
    | some ⟨_, _, .cell (some (.ref D)), _⟩ => decide (D = C)
    | _ => false)
  | _ => false
def fileB (K : Frag) (file : Str) : Value → Bool
  | .ref c => (match K.lookup c with
    | some ⟨_, _, .fields vs, _⟩ => (match (vs[2]? : Option Value) with
      | some (.str z _) => file == z
      | _ => false)
    | _ => false)
  | _ => false
def iniB (K : Frag) (file qual : Str) (C a : Addr) : Bool := match K.lookup a with
  | some ⟨_, _, .func fd, _⟩ => decide (fd.defaults = .none) && (decide (fd.kwdefaults = .none) && (codeIn K fd.code qual && (cellB K C fd.closure && fileB K file fd.code)))
  | _ => false
def XD.ok (file : Str) (K : Frag) (d : XD) : Bool :=
  eqO (nsIn K mainGlobals d.cn) (some (some (.ref (ga K d.cn)))) && (excInitIn K (ga K d.cn) d.bmB d.newId && (excOver K (ga K d.cn) d.bmB && (hasDictIn K (ga K d.cn) &&
  (eqO (findIn K (.ref (ga K d.cn)) "__setattr__") (some (some (.builtin "object.__setattr__"))) && (eqO (takerIn K (ga K d.cn) d.fld) (some none) && (eqO (findIn K (.ref (ga K d.cn)) d.fld) (some none) &&
  (eqO (findIn K (.ref (ga K d.cn)) "__init__") (some (some (.ref (initAt K d.cn)))) && (decide (typeIn K (.ref (initAt K d.cn)) = some (.type "function")) && (keepIn K (.ref (ga K d.cn)) &&
  (decide (subIn K (.ref (ga K d.cn)) (.type "BaseException") = some true) && (decide (subIn K (.ref (ga K d.cn)) (.type d.B) = some true) && (decide (mroIn K (ga K d.cn) (.ref (ga K d.cn)) = some true) &&
  (decide (typeIn K (.ref (ga K d.cn)) = some (.type "type")) && (eqO (ks_superIn K (ga K d.cn) (ga K d.cn) "__init__") (some (some (.builtin d.initId))) && (eqO (nsIn K mainGlobals "super") (some none) &&
  (eqO (nsIn K cStatics "thirdparty.any") (some none) && (xfB K (ga K d.cn) && iniB K file (d.cn ++ ".__init__") (ga K d.cn) (initAt K d.cn))))))))))))))))))
def TxtOk (st : Stmt) (f : Str) : Prop := ∃ (m : Str) (j : Nat) (p1 p2 q1 q2 q3 q4 q5 q6 r1 r2 r3 r4 : Pos), defArgs st = xA f p1 p2 ∧ defBody st = xB f m j q1 q2 q3 q4 q5 q6 r1 r2 r3 r4 ∧ defScope st = xS f ∧ McOk m j q1 q2 q3 q4 q5
theorem cellB_ok {K : Frag} {C : Addr} {cl : List (Str × Addr)} (h : cellB K C cl = true) : ∃ y cc cv cd cs, cl = [(y, cc)] ∧ K.lookup cc = some ⟨cv, cd, .cell (some (.ref C)), cs⟩ := by
  unfold cellB at h
  split at h
  · rename_i y cc
    split at h
    · rename_i a b D c e
      rw [of_decide_eq_true h] at e
      exact ⟨y, cc, _, _, _, rfl, e⟩
    · cases h
  · cases h
theorem fileB_ok {K : Frag} {file : Str} {v : Value} (h : fileB K file v = true) : ∃ c cv cd vs cs z t, v = .ref c ∧ K.lookup c = some ⟨cv, cd, .fields vs, cs⟩ ∧ vs[2]? = some (.str z t) ∧ (file == z) = true := by
  unfold fileB at h
  split at h
  · rename_i c
    split at h
    · rename_i a b vs d e
      split at h
      · rename_i z t e2
        exact ⟨c, _, _, _, _, z, t, rfl, e, e2, h⟩
      · cases h
    · cases h
  · cases h
theorem XD.own {P : Program} {K : Frag} {h : Heap} {mg : Str → Option Value} {d : XD} {file : Str} (X : K.In h) (G : h.Ns mainGlobals mg) (hok : d.ok file K = true) (hfn : fnE K (initAt K d.cn) = d.val) (tx : TxtOk d.st d.fld)
    (fb : ExcBaseFacts d.B d.newId d.initId d.bmB) (kf : KxsFacts d.B d.initId) (sf : StoreFacts d.B d.bmB "object.__setattr__" "object") (fo : FldOk d.fld) (hfile : (P.main.file : Str) = file) (top : (P.main.scope.names.lookup ("super" : Str)).isSome = false) :
    OwnX P K mg d.cn d.fld d.B d.newId d.initId d.bmB (ga K d.cn) (initAt K d.cn) := by
  unfold XD.ok at hok
  obtain ⟨h1, hok⟩ := ba hok
  obtain ⟨h2, hok⟩ := ba hok
  obtain ⟨h3, hok⟩ := ba hok
  obtain ⟨h4, hok⟩ := ba hok
  obtain ⟨h5, hok⟩ := ba hok
  obtain ⟨h6, hok⟩ := ba hok
  obtain ⟨h7, hok⟩ := ba hok
  obtain ⟨h8, hok⟩ := ba hok
  obtain ⟨h9, hok⟩ := ba hok
  obtain ⟨h10, hok⟩ := ba hok
  obtain ⟨h11, hok⟩ := ba hok
  obtain ⟨h12, hok⟩ := ba hok
  obtain ⟨h13, hok⟩ := ba hok
  obtain ⟨h14, hok⟩ := ba hok
  obtain ⟨h15, hok⟩ := ba hok
  obtain ⟨h16, hok⟩ := ba hok
  obtain ⟨h17, hok⟩ := ba hok
  obtain ⟨h18, h19⟩ := ba hok
  obtain ⟨m, j, p1, p2, q1, q2, q3, q4, q5, q6, r1, r2, r3, r4, t1, t2, t3, t4⟩ := tx
  refine ⟨fb, kf, sf, fo, mg_of X G (eqO_ok h1), h2, h3, h4, eqO_ok h5, eqO_ok h6, eqO_ok h8, of_decide_eq_true h9, h10, of_decide_eq_true h11, of_decide_eq_true h12, of_decide_eq_true h13, of_decide_eq_true h14, eqO_ok h15, mg_none_of X G (eqO_ok h16), xfB_ok h18, eqO_ok h7, eqO_ok h17, top, ?_⟩
  unfold iniB at h19
  unfold fnE XD.val at hfn
  cases e : K.lookup (initAt K d.cn) with
  | none =>
    rw [e] at hfn
    cases hfn
  | some o =>
    obtain ⟨oc, od, dt, osl⟩ := o
    rw [e] at hfn h19
    cases dt with
    | func fd =>
      obtain ⟨g1, g2⟩ := ba h19
      obtain ⟨g3, g4⟩ := ba g2
      obtain ⟨g5, g6⟩ := ba g4
      obtain ⟨g7, g8⟩ := ba g6
      obtain ⟨y, cc, cv, cdx, cs, c1, c2⟩ := cellB_ok g7
      obtain ⟨c, cv2, cd2, vs, cs2, z, t, f1, f2, f3, f4⟩ := fileB_ok g8
      have k1 := of_decide_eq_true g1
      have k2 := of_decide_eq_true g3
      obtain ⟨nm, qn, params, body, scope, gl, clo, dv, kv, doc, pm, an, code, ct, bl⟩ := fd
      dsimp only at k1 k2 c1 f1 g5 hfn
      subst k1 k2 c1 f1
      injection hfn with hfn
      simp only [Prod.mk.injEq, List.map_cons, List.map_nil, List.cons.injEq, and_true] at hfn
      obtain ⟨rfl, rfl, rfl, rfl, rfl, rfl, rfl, rfl⟩ := hfn
      rw [t1, t2, t3]
      exact ⟨oc, od, doc, pm, an, ct, osl, _, m, j, p1, p2, q1, q2, q3, q4, q5, q6, r1, r2, r3, r4, cc, c, cv, cv2, cdx, cd2, cs, cs2, vs, z, t, rfl, g5, c2, f2, f3, by rw [hfile]; exact f4, t4⟩
    | _ => cases h19
/-! ### the Hook: what the names of the module reach, and the statics -/
def asE (g : Addr → Option Obj) (n : Nat) : List Addr := sysModules :: cStatics :: asD g n
abbrev frE (g : Addr → Option Obj) (n : Nat) : Frag := frT g (asE g n)
abbrev AlE : Type := (AlT × Bool) × List FnE
def obsE (n : Nat) (fa : List Fa) (fn : List DefD) (ts : List Tab) (tf : List Defn) (file : Str) (xs : List XD) (ex : Frag → Bool) (g : Addr → Option Obj) : AlE :=
  ((obsT fa fn ts (frE g n), xs.all (XD.ok file (frE g n)) && (tabsB g tf (frE g n) && ex (frE g n))), xs.map fun d => fnE (frE g n) (initAt (frE g n) d.cn))
def valE (fn : List DefD) (ts : List Tab) (xs : List XD) (w : World) : AlE := ((valT fn ts w, true), xs.map XD.val)
structure SaysE (fa : List Fa) (fn : List DefD) (ts : List Tab) (tf : List Defn) (file : Str) (xs : List XD) (ex : Frag → Bool) (w : World) (h : Heap) (K : Frag) : Prop where
  t : SaysT fa fn ts w K
  ok : ∀ d ∈ xs, d.ok file K = true
  txt : ∀ d ∈ xs, fnE K (initAt K d.cn) = d.val
  hd : ∀ p ∈ tf, codeHdIn K (cT K p).1 (cT K p).2 = true
  out : ∀ p ∈ tf, K.lookup (cT K p).2 = none
  empty : ∀ p ∈ tf, h.get? (cT K p).2 = some { cls := .none, data := .fields #[] }
  ex : ex K = true
theorem map_all {α β : Type} {f g : α → β} : ∀ {l : List α}, l.map f = l.map g → ∀ x ∈ l, f x = g x
  | [], _, _, h => nomatch h
  | a :: l, e, x, h => by
    injection e with e1 e2
    cases h with
    | head => exact e1
    | tail _ h => exact map_all e2 x h
theorem saysE_of {n : Nat} {fa : List Fa} {fn : List DefD} {ts : List Tab} {tf : List Defn} {file : Str} {xs : List XD} {ex : Frag → Bool} {w : World} {h : Heap} (e : obsE n fa fn ts tf file xs ex h.get? = valE fn ts xs w) : SaysE fa fn ts tf file xs ex w h (frE h.get? n) := by
  have e1 : obsT fa fn ts (frE h.get? n) = valT fn ts w := congrArg (fun z : AlE => z.1.1) e
  have e2 : (xs.all (XD.ok file (frE h.get? n)) && (tabsB h.get? tf (frE h.get? n) && ex (frE h.get? n))) = true := congrArg (fun z : AlE => z.1.2) e
  have e3 : (xs.map fun d => fnE (frE h.get? n) (initAt (frE h.get? n) d.cn)) = xs.map XD.val := congrArg (fun z : AlE => z.2) e
  obtain ⟨h1, h2⟩ := ba e2
  obtain ⟨h2, hex⟩ := ba h2
  have tabs : ∀ p ∈ tf, codeHdIn (frE h.get? n) (cT (frE h.get? n) p).1 (cT (frE h.get? n) p).2 = true ∧ ∃ o, h.get? (cT (frE h.get? n) p).2 = some o ∧ emptyTab o = true := fun p hp => by
    obtain ⟨h3, h4⟩ := ba (List.all_eq_true.mp h2 p hp)
    refine ⟨h3, ?_⟩
    split at h4
    · rename_i o q
      exact ⟨o, q, h4⟩
    · cases h4
  refine ⟨e1, List.all_eq_true.mp h1, fun d hd => map_all e3 d hd, fun p hp => (tabs p hp).1, fun p hp => ?_, fun p hp => ?_, hex⟩
  · obtain ⟨o, q, z⟩ := (tabs p hp).2
    exact frT_none q z
  · obtain ⟨o, q, z⟩ := (tabs p hp).2
    rw [q, emptyTab_eq z]
def hookE (n : Nat) (fa : List Fa) (fn : List DefD) (ts : List Tab) (tf : List Defn) (file : Str) (xs : List XD) (ex : Frag → Bool) : Hook where
  α := AlE
  obs := fun s => obsE n fa fn ts tf file xs ex s.heap.get?
  val := fun w => valE fn ts xs w
  says := fun w h => ∃ K : Frag, K.In h ∧ SaysE fa fn ts tf file xs ex w h K
  of := fun _ _ e => ⟨_, frT_in, saysE_of e⟩
  keeps := fun _ _ _ ⟨K, hK, c⟩ k => ⟨K, Frag.In.keeps hK k, ⟨c.t, c.ok, c.txt, c.hd, c.out, fun p hp => k _ _ (c.empty p hp), c.ex⟩⟩
theorem obsE_eq {n : Nat} {fa : List Fa} {fn : List DefD} {ts : List Tab} {tf : List Defn} {file : Str} {xs : List XD} {ex : Frag → Bool} {g : Addr → Option Obj} {s : Shared} (h : ∀ a, g a = s.heap.get? a) : obsE n fa fn ts tf file xs ex g = (hookE n fa fn ts tf file xs ex).obs s := by
  have e : g = s.heap.get? := funext h
  rw [e]
  rfl
/-! ### the three bases -/
abbrev veB : List Value := [.type "ValueError", .type "Exception", .type "BaseException", .type "object"]
abbrev leB : List Value := [.type "LookupError", .type "Exception", .type "BaseException", .type "object"]
abbrev oeB : List Value := [.type "OverflowError", .type "ArithmeticError", .type "Exception", .type "BaseException", .type "object"]
/-- the __init__ that a class's text begins with -/
def clsInit : Stmt → Stmt
  | .ClassDef _ _ _ (st :: _) .. => st
  | st => st
end DWX

set_option Elab.async false
set_option linter.all false
set_option maxRecDepth 100000
set_option maxHeartbeats 4000000
/-! DWZ: x[::-1], x a list, a script or a tuple -/
namespace DW
open PySem PySem.Spec PyProof.Rows L2 HT
section
variable {prog : Program} {w : World} {A : Around} {E : Value → Shared → Prop} {s : Shared}
theorem revAdj (n : Nat) : Builtin.Slice.sliceAdjust none none (-1) (n : Int) = ((n : Int) - 1, -1) := by
  unfold Builtin.Slice.sliceAdjust
  simp
theorem revPlaces (n : Nat) : Builtin.Slice.slicePlaces ((n : Int) - 1) (-1) (-1) = n := by
  unfold Builtin.Slice.slicePlaces
  rw [if_neg (by decide)]
  by_cases h : n = 0
  · subst h
    rfl
  · rw [if_pos (by omega)]
    have : ((n : Int) - 1 - -1 - 1) / (- -1) = (n : Int) - 1 := by
      rw [show (- -1 : Int) = 1 from rfl, Int.ediv_one]
      omega
    rw [this]
    omega
theorem revPick (us : Array Value) : ((List.range us.size).filterMap fun (m : Nat) => us[(((us.size : Nat) : Int) - 1 + (m : Int) * (-1)).toNat]?).toArray = us.toList.reverse.toArray := by
  congr 1
  have key : ∀ (l : List Value) (f : Nat → Option Value), (∀ m, m < l.length → f m = l[l.length - 1 - m]?) → (List.range l.length).filterMap f = l.reverse := by
    intro l f hf
    have h1 : (List.range l.length).filterMap f = (List.range l.length).filterMap fun m => l.reverse[m]? := by
      have cong : ∀ (L : List Nat), (∀ m ∈ L, m < l.length) → L.filterMap f = L.filterMap fun m => l.reverse[m]? := by
        intro L
        induction L with
        | nil => intro _; rfl
        | cons m L ih =>
          intro hL
          have hm := hL m (List.mem_cons_self ..)
          rw [List.filterMap_cons, List.filterMap_cons, hf m hm, List.getElem?_reverse hm, ih fun x hx => hL x (List.mem_cons_of_mem _ hx)]
      exact cong _ fun m hm => List.mem_range.mp hm
    rw [h1]
    generalize hr : l.reverse = r
    have hl : l.length = r.length := by rw [← hr, List.length_reverse]
    rw [hl]
    clear hr hl h1 hf
    induction r with
    | nil => rfl
    | cons a r ih =>
      rw [List.length_cons, List.range_succ_eq_map, List.filterMap_cons, List.filterMap_map]
      show a :: List.filterMap (fun m => (a :: r)[m + 1]?) (List.range r.length) = _
      congr 1
  have := key us.toList (fun m => us[(((us.size : Nat) : Int) - 1 + (m : Int) * (-1)).toNat]?) (fun m hm => by
    rw [Array.length_toList] at hm ⊢
    rw [show (((us.size : Nat) : Int) - 1 + (m : Int) * (-1)).toNat = us.size - 1 - m by omega]
    rw [Array.getElem?_toList])
  rw [Array.length_toList] at this
  exact this
theorem sliceRev {z : Addr} {vs : Value} {n : Nat} {Q : Int × Int × Nat → Shared → Prop} (hz : s.heap.IsSliceOf z .none .none vs) (pv : IsPart vs (some (-1)))
    (h : Q ((n : Int) - 1, -1, n) s) : wpAny (model prog w) A (Builtin.Slice.sliceApplied (.ref z) (pure (n : Int))) Q E s := by
  obtain ⟨ob, h1, h2, h3⟩ := id hz
  unfold Builtin.Slice.sliceApplied Builtin.Slice.sliceFields
  refine wpAny_bind (wpAny_bind (wpAny_field h1 h3 (x := .none) rfl (wpAny_bind (wpAny_field h1 h3 (x := .none) rfl (wpAny_bind (wpAny_field h1 h3 (x := vs) rfl (wpAny_pure ?_)))))))
  refine wpAny_bind (slicePart_ pv ?_)
  show wpAny _ _ (if ((-1 : Int) == 0) = true then _ else _) _ _ s
  rw [if_neg (by decide)]
  refine wpAny_bind (slicePart_ .none (wpAny_bind (slicePart_ .none (wpAny_bind (wpAny_pure ?_)))))
  show wpAny _ _ (match Builtin.Slice.sliceAdjust none none (-1) (n : Int) with | (lo, hi) => pure (lo, (-1 : Int), Builtin.Slice.slicePlaces lo hi (-1))) _ _ s
  rw [revAdj]
  show wpAny _ _ (pure ((n : Int) - 1, (-1 : Int), Builtin.Slice.slicePlaces ((n : Int) - 1) (-1) (-1))) _ _ s
  rw [revPlaces]
  exact wpAny_pure h
theorem getRevT {t z : Addr} {us : Array Value} {vs : Value} {Q : Value → Shared → Prop} (ht : IsTup s.heap t us) (hz : s.heap.IsSliceOf z .none .none vs) (pv : IsPart vs (some (-1)))
    (h : Q (.ref s.heap.objs.size) { s with heap := s.heap.push { cls := .type "tuple", data := .seq us.toList.reverse.toArray } })
    (hsz : us.size ≤ sizeLine) : wpAny (model prog w) A (getItem (.ref t) (.ref z)) Q E s := by
  have fits : sizeOk (.seq us.toList.reverse.toArray) := by
    show us.toList.reverse.toArray.size ≤ sizeLine
    rw [List.size_toArray, List.length_reverse, Array.length_toList]
    exact hsz
  obtain ⟨ob, h1, h2, h3⟩ := id hz
  have tz : s.TypeIs (.ref z) "slice" := ⟨ob, h1, h2⟩
  unfold getItem
  (try with_reducible refine wpAny_holding ?_); (first | refine wpAny_bind (wpAny_pure ?_) | skip)
  refine wpAny_bind (wpAny_sequenceKey ht.typeIs (by decide) (wpAny_bind (wpAny_callSpecial?_slot (name := Str.ofString "__getitem__") ht.typeIs PyProof.Rows.slot_tuple_getitem (wpAny_call_entry PyProof.Rows.slot_tuple_getitem ht.typeIs entry_tuple_getitem ?_ (args_tuple_getitem _ _)))))
  show wpAny _ _ (Builtin.Tuple.tupleItemsOf (.ref t) >>= _) _ _ s
  refine wpAny_bind (tupleItemsOf_ ht (wpAny_bind (wpAny_typeOf tz ?_)))
  rw [if_pos (by decide)]
  refine wpAny_bind (sliceRev hz pv ?_)
  have hno : ¬ (((us.size : Int) - 1 == 0 && (-1 : Int) == 1 && us.size == us.size) = true) := by
    rw [show ((-1 : Int) == 1) = false from rfl, Bool.and_false, Bool.false_and]
    exact Bool.false_ne_true
  show wpAny _ _ (if ((us.size : Int) - 1 == 0 && (-1 : Int) == 1 && us.size == us.size) = true then _ else _) _ _ s
  rw [if_neg hno, revPick]
  first
    | exact wpAny_bind (m := Builtin.Tuple.tupleExact _) (wpAny_newObj_type (wpAny_pure ⟨_, rfl, wpAny_pure h⟩) fits)
    | exact wpAny_bind (m := Builtin.Tuple.tupleExact _) (wpAny_newObj_type (wpAny_bind (wpAny_pure (wpAny_pure ⟨_, rfl, wpAny_pure h⟩))) fits)
    | exact wpAny_bind (wpAny_bind (m := Builtin.Tuple.tupleExact _) (wpAny_newObj_type (wpAny_pure (wpAny_pure ⟨_, rfl, wpAny_pure h⟩)) fits))
    | exact wpAny_bind (wpAny_bind (m := Builtin.Tuple.tupleExact _) (wpAny_newObj_type (wpAny_pure ⟨_, rfl, wpAny_pure h⟩) fits))
end
section
variable {X : Cx} {W : WX} {e : Expr} {pos p1 p2 p3 : Pos} {f1 : Rho → R Dt}
def tRevA (K : PySem.W.Frag) (te : TE) : TE := fun σ H Q => te σ H fun x H1 => ∃ a xs, x = .ref a ∧ ((SqL K H1 a xs ∧ ∀ p, H1 p = none → Q (.ref p) (upd H1 p (.lst xs.reverse))) ∨ (SqT K H1 a xs ∧ ∀ p, H1 p = none → Q (.ref p) (upd H1 p (.tup xs.reverse))))
theorem pe_revA {te : TE} {k : Nat} (he : PE X e te) : PE X (.Subscript e (.Slice none none (some (.UnaryOp .USub (.Constant (.int 1) k p1) p2)) p3) pos) (tRevA X.K te) := by
  refine ⟨fun pins s σ H Q I h => Subscript_ (thn (he.run pins s σ H _ I h) fun v s1 ⟨x, H1, I1, r1, q1⟩ => ?_)⟩
  obtain ⟨a, xs, rfl, qq⟩ := q1
  cases r1
  have minus : PO X (some (.UnaryOp .USub (.Constant (.int 1) k p1) p2)) (tPart (tUn (rU fun i => .int (-i)) (tC (.int 1)))) := po_some (pe_un un_neg pe_int)
  refine wpAny_Slice (thn (po_none.run pins s1 σ H1 (fun o C => o = none ∧ C = H1) I1 ⟨rfl, rfl⟩) fun vl s2 ⟨l, B, I2, pl, el, e2⟩ => thn (po_none.run pins s2 σ B (fun o C => o = none ∧ C = B) I2 ⟨rfl, rfl⟩) fun vu s3 ⟨u, C, I3, pu, eu, e3⟩ => ?_)
  subst el e2 eu e3
  refine thn (minus.run pins s3 σ C (fun o D => o = some (-1) ∧ D = C) I3 ⟨1, rfl, -1, rfl, rfl, rfl⟩) fun vs s4 ⟨o, D, I4, ps, eo, e4⟩ => ?_
  subst eo e4
  have J : Inv X pins σ D { s4 with heap := s4.heap.push { cls := .type "slice", data := .fields #[vl, vu, vs] } } := I4.kept (t' := s4.toks) fun b ob q => Heap.get?_push_of_some _ q
  show wpAny (model X.prog X.w) X.A (subscriptTail e (.Slice none none (some (.UnaryOp .USub (.Constant (.int 1) k p1) p2)) p3) (.ref a) (.ref s4.heap.objs.size)) _ X.xe _
  rcases qq with ⟨hx, q⟩ | ⟨hx, q⟩
  · obtain ⟨us, r, ht, hz⟩ := J.list hx
    have hlen := r.length
    refine tail_any (ops := [.ref a, .ref s4.heap.objs.size]) ht.isList.typeIs (PySem.slot_list_getitem.lookup) ?_ (by with_unfolding_all rfl)
    refine wpAny_getItem_list_slice ht.isList (Heap.IsSliceOf.new _ vl vu vs) pl pu ps (by decide) ?_ (by rw [List.size_toArray]; omega)
    rw [PySem.W.krv_pick]
    refine ⟨.ref _, _, J.laid (t' := s4.toks) (o := .lst xs.reverse) (fun b ob z => Heap.get?_push_of_some _ z) (Nat.le_refl _) ⟨by rw [List.length_reverse]; exact hz, _, 0, r.reverse, Heap.get?_push_size _ rfl⟩, rfl, q _ (J.hok.fresh (Nat.le_refl _))⟩
  · obtain ⟨us, r, ht, hz⟩ := J.tuple hx
    have hlen := r.length
    cases pl
    cases pu
    refine tail_any (ops := [.ref a, .ref s4.heap.objs.size]) ht.typeIs (PyProof.Rows.slot_tuple_getitem.lookup) ?_ (by with_unfolding_all rfl)
    refine getRevT ht (Heap.IsSliceOf.new _ .none .none vs) ps ?_ (by rw [List.size_toArray]; omega)
    refine ⟨.ref _, _, J.laid (t' := s4.toks) (o := .tup xs.reverse) (fun b ob z => Heap.get?_push_of_some _ z) (Nat.le_refl _) ⟨by rw [List.length_reverse]; exact hz, _, r.reverse, IsTup.new _ _⟩, rfl, q _ (J.hok.fresh (Nat.le_refl _))⟩
def revA : Dt → Option Dt
  | .lst xs => some (.lst xs.reverse)
  | .tup xs => some (.tup xs.reverse)
  | .scr ns => some (.lst (ns.reverse.map .int))
  | _ => none
theorem und_revA (K : PySem.W.Frag) : UnD K (fun x H Q => ∃ a xs, x = .ref a ∧ ((SqL K H a xs ∧ ∀ p, H p = none → Q (.ref p) (upd H p (.lst xs.reverse))) ∨ (SqT K H a xs ∧ ∀ p, H p = none → Q (.ref p) (upd H p (.tup xs.reverse))))) revA := by
  intro x d z H0 H s hx hg Q k
  unfold revA at hg
  split at hg
  · cases hg
    obtain ⟨a, vs, rfl, h1, h2⟩ := hx
    exact ⟨a, vs, rfl, .inl ⟨SqL.of h1, al_lst s h2.reverse k⟩⟩
  · cases hg
    cases hx with
    | tup h1 h2 => exact ⟨_, _, rfl, .inr ⟨seqT_mono s h1, al_tup s h2.reverse k⟩⟩
  · cases hg
    cases hx with
    | scr h1 =>
      refine ⟨_, _, rfl, .inl ⟨seqL_mono s h1, al_lst s ?_ k⟩⟩
      rw [List.map_reverse]
      exact (daInts _).reverse
  · cases hg
theorem de_revA {k : Nat} (he : DE X W e f1) : DE X W (.Subscript e (.Slice none none (some (.UnaryOp .USub (.Constant (.int 1) k p1) p2)) p3) pos) (un revA f1) := fun F => PE.wk (pe_revA (he F)) fun σ H Q h => by
  obtain ⟨H0, ρ, E, q⟩ := h
  refine ⟨H0, ρ, E, ?_⟩
  unfold un at q
  cases e : f1 ρ with
  | bad => rw [e] at q; exact q
  | ex x ρ1 => rw [e] at q; exact q
  | ok d ρ1 =>
    rw [e] at q
    dsimp only [R.bind] at q
    intro v C0 C E1 m1 d1
    cases e2 : revA d with
    | none => rw [e2] at q; exact q.elim
    | some z =>
      rw [e2] at q
      refine und_revA X.K v d z C0 C E1.ex (Da.pk E1.ex d1) e2 Q fun v I0 I gr s4 d4 => ?_
      obtain ⟨E4, m4⟩ := E1.post m1 gr s4
      exact q v I0 I E4 m4 d4
end
end DW

set_option Elab.async false
set_option linter.all false
set_option autoImplicit false
set_option maxRecDepth 100000
set_option maxHeartbeats 4000000
/-! DWND: repr of a list of whole numbers of up to 4,200 figures (the head tells that no other bound was set) -/
namespace DW
open PySem PySem.Spec PyProof.Rows L2
def NdK (K : PySem.W.Frag) : Prop := PySem.W.nsIn K cStatics "sys.int_max_str_digits" = some none
theorem ns_none_of {K : PySem.W.Frag} {h : Heap} {a : Addr} {m : Str → Option Value} {n : Str} (X : K.In h) (G : h.Ns a m) (e : PySem.W.nsIn K a n = some none) : m n = none := by
  obtain ⟨o, es, ep, ho, hd, _, hf⟩ := G
  unfold PySem.W.nsIn at e
  split at e
  · rename_i c d es' n' sl q
    have := X _ _ q
    rw [ho] at this
    cases this
    cases hd
    split at e
    · cases e
    · rename_i he
      rw [← hf]
      unfold nsFind PySem.findBy
      rw [← Array.find?_toList, he]
      rfl
  · cases e
section
variable {X : Cx} {W : WX} {pins : List (Addr × Obj)} {σ : L2.St} {H : Hp} {s : Shared}
theorem nd_of (I : Inv X pins σ H s) (nd : NdK X.K) : s.heap.NoDigits := by
  have l : s.heap.NoLimit := I.env0.mod.nolimit.keeps fun b o e => (I.env0.bs b o e).1
  obtain ⟨mc, g, _⟩ := l
  exact ⟨mc, g, ns_none_of I.kIn g nd⟩
end
section
variable {prog : Program} {w : World} {A : Around} {E : Value → Shared → Prop} {s : Shared} {a : Int} {t : Tok}
theorem call_int_reprW {Q : Value → Shared → Prop} (hn : s.heap.NoDigits) (ha : a.natAbs < 10 ^ 4300) (h : Q (.str (toString a) s.toks) { s with toks := s.toks + 1 }) : wpAny (model prog w) A (call (.builtin "int.__repr__") [.int a t]) Q E s := by
  refine wpAny_call_entry F.slot_int_repr (typeIs_int s a t) F.entry_int_repr ?_ (F.args_int_repr_1 _)
  unfold Builtin.«int.__repr__»
  show wpAny _ _ (do let r ← Builtin.overDigitLimit? a; _) _ _ s
  refine wpAny_bind (overDigitLimit_any hn (fun hlt => ?_) (fun hge => absurd ha (Nat.not_lt.mpr hge)))
  exact wpAny_bind (wpAny_mkStr (wpAny_pure ⟨_, rfl, h⟩) (int_text_fits10 hlt))
theorem pyReprObj_intW {Q : Value → Shared → Prop} (hu : A.units < cLine) (hn : s.heap.NoDigits) (ha : a.natAbs < 10 ^ 4300) (h : Q (.str (toString a) s.toks) { s with toks := s.toks + 1 }) : wpAny (model prog w) A (pyReprObj (.int a t)) Q E s :=
  wpAny_pyReprObj_slot hu (typeIs_int s a t) F.slot_int_repr.toG (call_int_reprW hn ha ⟨_, _, rfl, h⟩)
theorem reprK_intW {as : List Addr} {h₀ : Heap} {d : Nat} (t : Tok) (hn : h₀.NoDigits) (ha : a.natAbs < 10 ^ 4300) : ReprK prog w as h₀ d (.int a t) (toString a) := fun base hb A g E s Q hg hcl hu hk0 hQ => by
  rw [pyReprUnder_leaf (v := .int a t) (by omega) (fun _ e => nomatch e)]
  unfold pyRepr
  exact wpAny_bind (pyReprObj_intW (by omega) (hn.keeps hk0) ha (wpAny_pure (hQ s.heap _ fun _ _ e => e)))
theorem readsAll_ints {h : Heap} : ∀ {ns : List Int} {vs : List Value} {as : List Addr}, ReadsAll h vs (ns.map PyData.int) as → vs.length = ns.length ∧ ∀ (i : Nat) (y : Value), vs[i]? = some y → ∃ n tk, ns[i]? = some n ∧ y = .int n tk
  | [], vs, as, r => by
    cases r
    exact ⟨rfl, fun i y e => by simp at e⟩
  | n :: ns, vs, as, r => by
    cases r with
    | cons r1 r2 =>
      obtain ⟨h1, h2⟩ := readsAll_ints (ns := ns) r2
      refine ⟨by rw [List.length_cons, List.length_cons, h1], fun i y e => ?_⟩
      cases i with
      | zero =>
        cases r1
        simp at e
        exact ⟨n, _, rfl, e.symm⟩
      | succ i => exact h2 i y (by simpa using e)
theorem repr_ints {Q : Value → Shared → Prop} {b : Addr} {ns : List Int} {as : List Addr} (rd : Reads s.heap (.ref b) (.list (ns.map PyData.int)) as) (hne : ns ≠ []) (nd : s.heap.NoDigits) (hw : ∀ n ∈ ns, n.natAbs < 10 ^ 4300) (hg : A.guards = some []) (hu : A.units + 2 < cLine)
    (hQ : ∀ h' u tk, (∀ c o, s.heap.get? c = some o → h'.get? c = some o) → Q (.str (listText (ns.map fun n => Str.ofString (toString n))) u) { s with heap := h', toks := tk })
    (hsz : (listText (ns.map fun n => Str.ofString (toString n))).length ≤ sizeLine) : wpAny (model prog w) A (call (.builtin "repr") [.ref b]) Q E s := by
  generalize hd : PyData.list (ns.map PyData.int) = d at rd
  cases rd with
  | list h1 h2 h3 h4 =>
    rename_i o vs n xs bs
    injection hd with hd
    subst hd
    obtain ⟨l⟩ := vs
    obtain ⟨q1, q2⟩ := readsAll_ints h4
    cases l with
    | nil =>
      cases ns with
      | nil => exact absurd rfl hne
      | cons a r => simp at q1
    | cons x l =>
      refine call_repr_slot (by omega) ⟨o, h1, h2⟩ F.slot_list_repr.toG (call_list_reprK (as := []) (d := 0) (g := []) (h₀ := s.heap) h1 h2 h3 (fun z => nomatch z) (by simpa using q1.symm) (fun i y e => ?_) hg (fun b _ => Clear.nil b) (by show A.units + 1 + 1 < cLine; omega) (fun _ _ e => e) (fun h' u tk hk => ⟨_, _, rfl, hQ h' u tk hk⟩) hsz)
      obtain ⟨m, tk, e1, rfl⟩ := q2 i y (by simpa using e)
      exact ⟨_, by rw [List.getElem?_map, e1]; rfl, reprK_intW tk nd (hw m (List.mem_of_getElem? e1))⟩
  | _ => cases hd
end
/-- what repr tells of a list of whole numbers -/
def wideOk (ns : List Int) : Bool := !ns.isEmpty && (decide (ns.length ≤ 100) && ns.all fun n => decide (n.natAbs.log2 < 14000))
def reprIL : Dt → Option Dt
  | .lst ds => (intsOf ds).bind fun ns => if wideOk ns = true then some (.str (toPy (.lst ds)).shown) else none
  | _ => none
def reprW (d : Dt) : Option Dt := if reprOk d = true then some (.str (toPy d).shown) else reprIL d
theorem wide_lt {n : Int} (h : n.natAbs.log2 < 14000) : n.natAbs < 10 ^ 4299 := by
  have h2 : n.natAbs < 2 ^ 14000 := by
    by_cases z : n.natAbs = 0
    · rw [z]; exact Nat.two_pow_pos 14000
    · exact (Nat.log2_lt z).mp h
  exact Nat.lt_of_lt_of_le h2 (by decide +kernel)
theorem shown_ints (ns : List Int) : (toPy (.lst (ns.map .int))).shown = listText (ns.map fun n => Str.ofString (toString n)) := by
  have e : ∀ ns : List Int, PyData.shownAll (toPyAll (ns.map .int)) = ns.map fun n => Str.ofString (toString n) := by
    intro ns
    induction ns with
    | nil => rfl
    | cons n ns ih =>
      simp only [List.map_cons, toPyAll, PyData.shownAll, ih]
      congr 1
  simp only [toPy, PyData.shown, e]
theorem wide_len : ∀ ns : List Int, (∀ n ∈ ns, n.natAbs < 10 ^ 4299) → piled (ns.map fun n => Str.ofString (toString n)) ≤ 4310 * ns.length
  | [], _ => Nat.le_refl _
  | n :: ns, h => by
    have h1 := wide_len ns fun m hm => h m (List.mem_cons_of_mem _ hm)
    have h2 := int_text_length_le10 (k := 4299) (by decide) (h n (List.mem_cons_self ..))
    simp only [List.map_cons, piled_cons, List.length_cons]
    have e : (Str.ofString (toString n)).length = (toString n).length := PySem.ofString_length _
    omega
section
variable {X : Cx} {W : WX} {e : Expr} {pos p : Pos} {f1 : Rho → R Dt}
def rReprIL (K : PySem.W.Frag) : V → Hp → VK → Prop := fun x H Q => ∃ (a : Addr) (ns : List Int), x = .ref a ∧ H a = some (.lst (ns.map V.int)) ∧ wideOk ns = true ∧ Q (.str (toPy (.lst (ns.map .int))).shown) H
theorem cr_reprIL (nd : NdK X.K) (hu : X.A.units + 64 < cLine) (hq : Quiet X.A) : CallR X (.builtin "repr") (fun xs H Q => ∃ x, xs = [x] ∧ rReprIL X.K x H Q) := by
  intro pins s σ H xs us Q I r h
  obtain ⟨x, rfl, a, ns, rfl, ha, hw, q⟩ := h
  obtain ⟨u, rfl, ru⟩ := vals1 r
  have hdp : Dp X.K H (.ref a) (.list (ns.map PyData.int)) := .lst (SqL.of ha) (dpInts ns)
  obtain ⟨as, rd⟩ := Dp.reads I _ _ _ hdp ru
  cases ru
  unfold wideOk at hw
  simp only [Bool.and_eq_true, Bool.not_eq_true', List.isEmpty_eq_false_iff, decide_eq_true_eq, List.all_eq_true] at hw
  obtain ⟨w1, w2, w3⟩ := hw
  have w4 : ∀ n ∈ ns, n.natAbs < 10 ^ 4299 := fun n hn => wide_lt (w3 n hn)
  rw [shown_ints] at q
  refine repr_ints rd w1 (nd_of I nd) (fun n hn => Nat.lt_of_lt_of_le (w4 n hn) (Nat.pow_le_pow_right (by omega) (by omega))) hq (by omega) (fun h' u tk hk => ⟨.str _, H, I.kept hk, ⟨_, rfl⟩, q⟩) ?_
  have h1 := listText_len_le (ns.map fun n => Str.ofString (toString n))
  have h2 := wide_len ns w4
  have h3 : 4310 * ns.length ≤ 4310 * 100 := Nat.mul_le_mul_left _ w2
  have h4 : 431010 ≤ sizeLine := by decide
  omega
theorem cr_reprW (nd : NdK X.K) (hu : X.A.units + 64 < cLine) (hq : Quiet X.A) : CallR X (.builtin "repr") (fun xs H Q => (∃ x, xs = [x] ∧ rRepr X.K x H Q) ∨ ∃ x, xs = [x] ∧ rReprIL X.K x H Q) := callr_or (cr_repr hu hq) (cr_reprIL nd hu hq)
theorem und_reprW (K : PySem.W.Frag) : UnD K (fun x H Q => (∃ y, [x] = [y] ∧ rRepr K y H Q) ∨ ∃ y, [x] = [y] ∧ rReprIL K y H Q) reprW := by
  intro x d z H0 H s hx hg Q k
  unfold reprW at hg
  split at hg
  · rename_i h
    exact .inl (und_repr K x d z H0 H s hx (by unfold reprD; rw [if_pos h]; exact hg) Q k)
  · unfold reprIL at hg
    split at hg
    · rename_i ds
      obtain ⟨ns, h1, h2⟩ := Option.bind_eq_some_iff.mp hg
      split at h2
      · rename_i hw
        cases h2
        have e := intsOf_eq h1
        subst e
        obtain ⟨a, vs, rfl, h3, h4⟩ := hx
        rw [h4.ints] at h3
        exact .inr ⟨_, rfl, a, ns, rfl, h3, hw, sc s (.str _) k⟩
      · cases h2
    · cases hg
theorem de_reprW (nd : NdK X.K) (hu : X.A.units + 64 < cLine) (hq : Quiet X.A) (hg : Gl X "repr") (hm : X.mg "repr" = none) (ha : DK X W e f1) (he : starEach (e :: []) X.env = (false, eval e X.env) :: starEach [] X.env := by rfl) : DE X W (.Call (.Name "repr" p) [e] [] pos) (un reprW f1) :=
  de_b1 (cr_reprW nd hu hq) (und_reprW _) hg hm (by decide +kernel) ha (he := he)
end
end DW

set_option Elab.async false
set_option linter.all false
set_option maxRecDepth 100000
set_option maxHeartbeats 4000000
/-! P1: reckoning with data functions: one rule each, and rules of loops -/
namespace PL
open PySem DW
open L2 (Key)
section
variable {ρ ρ1 ρ2 ρ3 : Rho} {d e z w : Dt} {f1 f2 f3 : Rho → R Dt} {b c : Bool} {cd c1 c2 : Rho → R Bool} {i : Nat} {r : SR} {s t : Rho → SR} {fa : Rho → R (List Dt)} {ds : List Dt}
theorem e_un {g : Dt → Option Dt} (h1 : f1 ρ = .ok d ρ1) (h2 : g d = some z) : un g f1 ρ = .ok z ρ1 := by simp only [un, h1, R.bind, h2]
theorem e_bin {g : Dt → Dt → Option Dt} (h1 : f1 ρ = .ok d ρ1) (h2 : f2 ρ1 = .ok e ρ2) (h3 : g d e = some z) : bin g f1 f2 ρ = .ok z ρ2 := by simp only [bin, h1, h2, R.bind, h3]
theorem e_binP {g : Dt → Dt → Option Dt} {d0 : Dt} (h0 : pk i ρ = some d0) (h2 : f2 ρ = .ok e ρ1) (h1 : pk i ρ1 = some d) (h3 : g d e = some z) : binP g i f2 ρ = .ok z ρ1 := by simp only [binP, h0, h1, h2, R.bind, h3]
theorem e_tst (h1 : f1 ρ = .ok (.bl b) ρ1) : tstF f1 ρ = .ok b ρ1 := by simp only [tstF, h1, R.bind]
theorem e_tru (h1 : f1 ρ = .ok d ρ1) (h2 : truD d = some b) : truF f1 ρ = .ok b ρ1 := by simp only [truF, h1, R.bind, h2]
theorem e_not (h1 : cd ρ = .ok b ρ1) : notT cd ρ = .ok (!b) ρ1 := by simp only [notT, h1, R.bind]
theorem e_andT (h1 : c1 ρ = .ok true ρ1) (h2 : c2 ρ1 = .ok b ρ2) : andT c1 c2 ρ = .ok b ρ2 := by simp only [andT, h1, R.bind, h2, if_true]
theorem e_andF (h1 : c1 ρ = .ok false ρ1) : andT c1 c2 ρ = .ok false ρ1 := by simp only [andT, h1, R.bind]; rfl
theorem e_orT (h1 : c1 ρ = .ok true ρ1) : orT c1 c2 ρ = .ok true ρ1 := by simp only [orT, h1, R.bind]; rfl
theorem e_orF (h1 : c1 ρ = .ok false ρ1) (h2 : c2 ρ1 = .ok b ρ2) : orT c1 c2 ρ = .ok b ρ2 := by simp only [orT, h1, R.bind, h2]; rfl
theorem e_andVT (h1 : f1 ρ = .ok (.bl true) ρ1) (h2 : f2 ρ1 = .ok d ρ2) : andV f1 f2 ρ = .ok d ρ2 := by simp only [andV, h1, R.bind, h2]; rfl
theorem e_andVF (h1 : f1 ρ = .ok (.bl false) ρ1) : andV f1 f2 ρ = .ok (.bl false) ρ1 := by simp only [andV, h1, R.bind]; rfl
theorem e_orVT (h1 : f1 ρ = .ok (.bl true) ρ1) : orV f1 f2 ρ = .ok (.bl true) ρ1 := by simp only [orV, h1, R.bind]; rfl
theorem e_orVF (h1 : f1 ρ = .ok (.bl false) ρ1) (h2 : f2 ρ1 = .ok d ρ2) : orV f1 f2 ρ = .ok d ρ2 := by simp only [orV, h1, R.bind, h2]; rfl
theorem e_ifET (h1 : cd ρ = .ok true ρ1) (h2 : f1 ρ1 = .ok d ρ2) : ifE cd f1 f2 ρ = .ok d ρ2 := by simp only [ifE, h1, R.bind, h2]; rfl
theorem e_ifEF (h1 : cd ρ = .ok false ρ1) (h2 : f2 ρ1 = .ok d ρ2) : ifE cd f1 f2 ρ = .ok d ρ2 := by simp only [ifE, h1, R.bind, h2]; rfl
theorem e_chT {g1 g2 : Dt → Dt → Option Dt} {x y : Dt} (h1 : f1 ρ = .ok x ρ1) (h2 : f2 ρ1 = .ok y ρ2) (h3 : g1 x y = some (.bl true)) (h4 : f3 ρ2 = .ok z ρ3) (h5 : g2 y z = some w) : chainD g1 g2 f1 f2 f3 ρ = .ok w ρ3 := by simp only [chainD, h1, h2, h3, h4, h5, R.bind]
theorem e_chF {g1 g2 : Dt → Dt → Option Dt} {x y : Dt} (h1 : f1 ρ = .ok x ρ1) (h2 : f2 ρ1 = .ok y ρ2) (h3 : g1 x y = some (.bl false)) : chainD g1 g2 f1 f2 f3 ρ = .ok (.bl false) ρ2 := by simp only [chainD, h1, h2, h3, R.bind]
theorem e_cons (h1 : f1 ρ = .ok d ρ1) (h2 : fa ρ1 = .ok ds ρ2) : consA f1 fa ρ = .ok (d :: ds) ρ2 := by simp only [consA, h1, h2, R.bind]
theorem e_tup (h1 : fa ρ = .ok ds ρ1) (h2 : ds.length ≤ 1000000) : tupD fa ρ = .ok (.tup ds) ρ1 := by simp only [tupD, h1, R.bind, if_pos h2]
theorem e_lst (h1 : fa ρ = .ok ds ρ1) (h2 : ds.length ≤ 1000000) : lstD fa ρ = .ok (.lst ds) ρ1 := by simp only [lstD, h1, R.bind, if_pos h2]
theorem e_lstO (h1 : fa ρ = .ok ds ρ1) (h2 : ds.length ≤ 1000000) : lstO fa ρ = .ok (.ol ds) ρ1 := by simp only [lstO, h1, R.bind, if_pos h2]
theorem e_frO (h1 : f1 ρ = .ok d ρ1) : frO f1 ρ = .ok (.fr d) ρ1 := by simp only [frO, h1, R.bind]
theorem e_cb {g : List Dt → Option Dt} (h1 : fa ρ = .ok ds ρ1) (h2 : g ds = some z) : cb g fa ρ = .ok z ρ1 := by simp only [cb, h1, R.bind, h2]
theorem e_callF {fn : Fn} (h1 : fa ρ = .ok ds ρ1) (h2 : fn ds = .ok (.fr d)) : callF fn fa ρ = .ok d ρ1 := by simp only [callF, h1, R.bind, h2]
theorem e_callO {fn : Fn} {sl : Sl} (h1 : fa ρ = .ok ds ρ1) (h2 : fn ds = .ok sl) : callO fn fa ρ = .ok sl ρ1 := by simp only [callO, h1, R.bind, h2]
theorem e_callM {fn : FnM} {k0 k1 k2 : List (Key × Dt)} (h0 : dAt i ρ = some k0) (h1 : fa ρ = .ok ds ρ1) (h2 : dAt i ρ1 = some k1) (h3 : fn k1 ds = .ok (.fr d) k2) (h4 : dPut i k2 ρ1 = ρ2) : callM fn i fa ρ = .ok d ρ2 := by simp only [callM, h0, h1, R.bind, h2, h3, h4]
theorem e_callMO {fn : FnM} {fo : Rho → R Sl} {k1 k2 : List (Key × Dt)} (h0 : fo ρ = .ok (.od k1) ρ1) (h1 : fa ρ1 = .ok ds ρ2) (h3 : fn k1 ds = .ok (.fr d) k2) : callMO fn fo fa ρ = .ok d ρ2 := by simp only [callMO, h0, h1, R.bind, h3]
theorem e_frz {fo : Rho → R Sl} {sl : Sl} (h1 : fo ρ = .ok sl ρ1) (h2 : toD sl = some d) : frzR fo ρ = .ok d ρ1 := by simp only [frzR, h1, R.bind, h2]
theorem e_sl3 {fl fh : Rho → R (Option Int)} {lo hi : Option Int} (h1 : f1 ρ = .ok d ρ1) (h2 : fl ρ1 = .ok lo ρ2) (h3 : fh ρ2 = .ok hi ρ3) (h4 : slD d lo hi = some z) : sl3 f1 fl fh ρ = .ok z ρ3 := by simp only [sl3, h1, h2, h3, h4, R.bind]
theorem e_someP {k : Int} (h1 : f1 ρ = .ok (.int k) ρ1) : someP f1 ρ = .ok (some k) ρ1 := by simp only [someP, h1, R.bind]
theorem e_itF (h1 : f1 ρ = .ok d ρ1) (h2 : itD d = some ds) : itF f1 ρ = .ok ds ρ1 := by simp only [itF, h1, R.bind, h2]
theorem e_rngF {g : List Dt → Option (List Dt)} {es : List Dt} (h1 : fa ρ = .ok ds ρ1) (h2 : g ds = some es) : rngF g fa ρ = .ok es ρ1 := by simp only [rngF, h1, R.bind, h2]
-- statements
theorem e_seq (h1 : s ρ = .nx ρ1) (h2 : t ρ1 = r) : seqS s t ρ = r := by simp only [seqS, h1, h2]
theorem e_seqR {sl : Sl} (h1 : s ρ = .rt sl ρ1) : seqS s t ρ = .rt sl ρ1 := by simp only [seqS, h1]
theorem e_set (h1 : f1 ρ = .ok d ρ1) (h2 : putR i (.fr d) ρ1 = some ρ2) : setS i f1 ρ = .nx ρ2 := by simp only [setS, h1, R.bindS, h2, nxO]
theorem e_setO {fo : Rho → R Sl} {sl : Sl} (h1 : fo ρ = .ok sl ρ1) (h0 : ∀ k, sl ≠ .io k) (h2 : putR i sl ρ1 = some ρ2) : setOS i fo ρ = .nx ρ2 := by
  simp only [setOS, h1, R.bindS]
  cases sl with
  | io k => exact absurd rfl (h0 k)
  | _ => simp only [h2, nxO]
theorem e_ret (h1 : f1 ρ = .ok d ρ1) : retS f1 ρ = .rt (.fr d) ρ1 := by simp only [retS, h1, R.bindS]
theorem e_retO {fo : Rho → R Sl} {sl : Sl} (h1 : fo ρ = .ok sl ρ1) : retOS fo ρ = .rt sl ρ1 := by simp only [retOS, h1, R.bindS]
theorem e_expr (h1 : f1 ρ = .ok d ρ1) : exprS f1 ρ = .nx ρ1 := by simp only [exprS, h1, R.bindS]
theorem e_ifT (h1 : cd ρ = .ok b ρ1) (hb : b = true) (h2 : s ρ1 = r) : ifS cd s t ρ = r := by subst hb; simp only [ifS, h1, R.bindS, h2, if_true]
theorem e_ifF (h1 : cd ρ = .ok b ρ1) (hb : b = false) (h2 : t ρ1 = r) : ifS cd s t ρ = r := by subst hb; simp only [ifS, h1, R.bindS, h2]; rfl
theorem e_asg {tg : Dt → Rho → Option Rho} (h1 : f1 ρ = .ok d ρ1) (h2 : tg d ρ1 = some ρ2) : asgS tg f1 ρ = .nx ρ2 := by simp only [asgS, h1, R.bindS, h2, nxO]
theorem e_argsP {fo : Rho → R Sl} {fs : List (Rho → R Sl)} {sl : Sl} {ss : List Sl} (h1 : fo ρ = .ok sl ρ1) (h3 : notIo sl = true) (h2 : argsP fs ρ1 = .ok ss ρ2) : argsP (fo :: fs) ρ = .ok (sl :: ss) ρ2 := by simp only [argsP, h1, h2, R.bind, h3, if_true]
theorem e_par {fs : List (Rho → R Sl)} {is : List Nat} {ss : List Sl} (h1 : argsP fs ρ = .ok ss ρ1) (h2 : putP is ss ρ1 = some ρ2) : parP is fs ρ = .nx ρ2 := by simp only [parP, h1, R.bindS, h2, nxO]
theorem e_app {xs0 xs : List Dt} (h0 : lAt i ρ = some xs0) (h1 : f1 ρ = .ok d ρ1) (h2 : lAt i ρ1 = some xs) (h3 : xs.length < 1000000) (h4 : ρ1.set i (some (.ol (xs ++ [d]))) = ρ2) : appS i f1 ρ = .nx ρ2 := by simp only [appS, h0, h1, R.bindS, h2, if_pos h3, h4]
theorem e_dput {fk fv : Rho → R Dt} {k0 k1 : List (Key × Dt)} {k : Dt} {key : Key} (h1 : fv ρ = .ok d ρ1) (h0 : dAt i ρ1 = some k0) (h2 : fk ρ1 = .ok k ρ2) (h3 : keyD k = some key) (h4 : dAt i ρ2 = some k1) (h5 : k1.length < 1000000) (h6 : dPut i (putKD k1 key d) ρ2 = ρ3) : dputS i fk fv ρ = .nx ρ3 := by
  simp only [dputS, h1, h0, h2, h3, h4, R.bindS, if_pos h5, h6]
theorem e_for {it : Rho → R (List Dt)} {tg : Dt → Rho → Option Rho} (h1 : it ρ = .ok ds ρ1) (h2 : forL tg s ds ρ1 = r) : forS it tg s ρ = r := by simp only [forS, h1, R.bindS, h2]
theorem m_runF {np nn : Nat} {body : Rho → SR} {sl : Sl} (hl : ds.length = np) (h : body (envOf nn ds) = .rt sl ρ1) : runF np nn body ds = .ok sl := by simp only [runF, if_pos hl, h]
theorem m_runM {np nn : Nat} {body : Rho → SR} {sl : Sl} {kvs kvs' : List (Key × Dt)} (hl : ds.length + 1 = np) (h : body (envM nn kvs ds) = .rt sl ρ1) (h2 : ioOf ρ1 = some kvs') : runM np nn body kvs ds = .ok sl kvs' := by simp only [runM, if_pos hl, h, h2]
-- loops
theorem wh_inv {bd : Rho → SR} {P : Rho → Prop} (I : Nat → Rho → Prop)
    (hs : ∀ k ρ, I k ρ → (∃ ρ1, cd ρ = .ok false ρ1 ∧ P ρ1) ∨ ∃ k' ρ1 ρ2, k' < k ∧ cd ρ = .ok true ρ1 ∧ bd ρ1 = .nx ρ2 ∧ I k' ρ2) : ∀ n k ρ, I k ρ → k < n → ∃ ρ', whS cd bd n ρ = .nx ρ' ∧ P ρ'
  | 0, k, ρ, _, h => absurd h (Nat.not_lt_zero _)
  | n + 1, k, ρ, hI, h => by
    rcases hs k ρ hI with ⟨ρ1, h1, h2⟩ | ⟨k', ρ1, ρ2, hk, h1, h2, h3⟩
    · exact ⟨ρ1, by simp only [whS, h1, R.bindS]; rfl, h2⟩
    · obtain ⟨ρ', q1, q2⟩ := wh_inv I hs n k' ρ2 h3 (by omega)
      exact ⟨ρ', by simp only [whS, h1, R.bindS, h2, if_true]; exact q1, q2⟩
theorem for_inv {bd : Rho → SR} {tg : Dt → Rho → Option Rho} (I : Nat → Rho → Prop) : ∀ (ds : List Dt) (j : Nat) (ρ : Rho), (∀ i d ρ, ds[i]? = some d → I (j + i) ρ → ∃ ρ1 ρ2, tg d ρ = some ρ1 ∧ bd ρ1 = .nx ρ2 ∧ I (j + i + 1) ρ2) → I j ρ → ∃ ρ', forL tg bd ds ρ = .nx ρ' ∧ I (j + ds.length) ρ'
  | [], j, ρ, _, h => ⟨ρ, rfl, h⟩
  | d :: ds, j, ρ, hs, h => by
    obtain ⟨ρ1, ρ2, h1, h2, h3⟩ := hs 0 d ρ rfl h
    obtain ⟨ρ', q1, q2⟩ := for_inv I ds (j + 1) ρ2 (fun i d ρ hd hI => by
      have := hs (i + 1) d ρ (by simpa using hd) (by rw [show j + (i + 1) = j + 1 + i by omega]; exact hI)
      rwa [show j + (i + 1) + 1 = j + 1 + i + 1 by omega] at this) h3
    refine ⟨ρ', by simp only [forL, h1, h2]; exact q1, ?_⟩
    rw [List.length_cons, show j + (ds.length + 1) = j + 1 + ds.length by omega]
    exact q2
-- operations
theorem o_mod {a b : Int} (h : 0 < b) : modD (.int a) (.int b) = some (.int (a % b)) := if_pos h
theorem log2_lt63 {b : Int} (h0 : 0 < b) (h1 : b < 2 ^ 8000) : b.natAbs.log2 < 9000 := by
  have hn : b.natAbs ≠ 0 := by omega
  refine Nat.lt_of_lt_of_le ((Nat.log2_lt (k := 8000) hn).mpr ?_) (by decide)
  generalize hp : (2 : Int) ^ 8000 = p at h1
  have : ((2 ^ 8000 : Nat) : Int) = p := by rw [← hp]; exact Int.natCast_pow 2 8000
  omega
theorem o_fdiv' {a b : Int} (h : 0 < b) (h1 : b < 2 ^ 8000) : fdivD (.int a) (.int b) = some (.int (a / b)) := if_pos ⟨h, log2_lt63 h h1⟩
theorem o_fdiv {a b : Int} (h : 0 < b) (h1 : b < 2 ^ 63) : fdivD (.int a) (.int b) = some (.int (a / b)) := by
  refine if_pos ⟨h, ?_⟩
  have hn : b.natAbs ≠ 0 := by omega
  exact Nat.lt_of_lt_of_le ((Nat.log2_lt (k := 63) hn).mpr (by omega)) (by decide)
theorem o_mulL {a b : Int} (h : -(2 ^ 63) < a) (h1 : a < 2 ^ 63) : mulD (.int a) (.int b) = some (.int (a * b)) := if_pos (by
  unfold mulOk
  have : a.natAbs < 2 ^ 64 := by omega
  simp [this])
theorem o_mulR {a b : Int} (h : -(2 ^ 63) < b) (h1 : b < 2 ^ 63) : mulD (.int a) (.int b) = some (.int (a * b)) := if_pos (by
  unfold mulOk
  have : b.natAbs < 2 ^ 64 := by omega
  simp [this])
end
/-! ### what a statement comes to -/
def WpB (Pn : Rho → Prop) (Pr : Sl → Rho → Prop) : SR → Prop
  | .nx ρ => Pn ρ
  | .rt s ρ => Pr s ρ
  | _ => False
structure Wp (Pn : Rho → Prop) (Pr : Sl → Rho → Prop) (r : SR) : Prop where
  out : WpB Pn Pr r
section
variable {ρ ρ1 ρ2 ρ3 : Rho} {d e z w : Dt} {f1 f2 f3 : Rho → R Dt} {b c : Bool} {cd c1 c2 : Rho → R Bool} {i n : Nat} {s t bd : Rho → SR} {fa : Rho → R (List Dt)} {ds : List Dt} {Pn : Rho → Prop} {Pr : Sl → Rho → Prop}
theorem w_nx (h : s ρ = .nx ρ1) (k : Pn ρ1) : Wp Pn Pr (s ρ) := by rw [h]; exact ⟨k⟩
theorem w_seq (h : Wp (fun ρ1 => Wp Pn Pr (t ρ1)) Pr (s ρ)) : Wp Pn Pr (seqS s t ρ) := by
  unfold seqS
  obtain ⟨h⟩ := h
  revert h
  cases s ρ with
  | nx _ => exact fun h => h
  | _ => exact fun h => ⟨h⟩
theorem w_step (h : s ρ = .nx ρ1) (k : Wp Pn Pr (t ρ1)) : Wp Pn Pr (seqS s t ρ) := w_seq (w_nx h k)
theorem w_ret (h : f1 ρ = .ok d ρ1) (k : Pr (.fr d) ρ1) : Wp Pn Pr (retS f1 ρ) := by rw [e_ret h]; exact ⟨k⟩
theorem w_ifT (h1 : cd ρ = .ok b ρ1) (hb : b = true) (h2 : Wp Pn Pr (s ρ1)) : Wp Pn Pr (ifS cd s t ρ) := by rw [e_ifT h1 hb rfl]; exact h2
theorem w_ifF (h1 : cd ρ = .ok b ρ1) (hb : b = false) (h2 : Wp Pn Pr (t ρ1)) : Wp Pn Pr (ifS cd s t ρ) := by rw [e_ifF h1 hb rfl]; exact h2
theorem w_if (h1 : cd ρ = .ok b ρ1) (ht : b = true → Wp Pn Pr (s ρ1)) (hf : b = false → Wp Pn Pr (t ρ1)) : Wp Pn Pr (ifS cd s t ρ) := by
  cases b
  · exact w_ifF h1 rfl (hf rfl)
  · exact w_ifT h1 rfl (ht rfl)
theorem w_wh (I : Nat → Rho → Prop) {k0 : Nat} (h0 : I k0 ρ) (hk : k0 < n)
    (hs : ∀ k ρ, I k ρ → (∃ ρ1, cd ρ = .ok false ρ1 ∧ Pn ρ1) ∨ ∃ ρ1, cd ρ = .ok true ρ1 ∧ Wp (fun ρ2 => ∃ k', k' < k ∧ I k' ρ2) Pr (bd ρ1)) : Wp Pn Pr (whS cd bd n ρ) := by
  induction n generalizing ρ k0 with
  | zero => exact absurd hk (Nat.not_lt_zero _)
  | succ n ih =>
    rcases hs k0 ρ h0 with ⟨ρ1, h1, h2⟩ | ⟨ρ1, h1, h2⟩
    · simp only [whS, h1, R.bindS]
      exact ⟨h2⟩
    · simp only [whS, h1, R.bindS, if_true]
      cases e : bd ρ1 with
      | nx ρ2 =>
        rw [e] at h2
        obtain ⟨k', h3, h4⟩ := h2
        exact ih h4 (by omega)
      | rt s ρ2 => rw [e] at h2; exact ⟨h2.out⟩
      | bk _ => rw [e] at h2; exact h2.out.elim
      | ct _ => rw [e] at h2; exact h2.out.elim
      | ex _ _ => rw [e] at h2; exact h2.out.elim
      | bad => rw [e] at h2; exact h2.out.elim
theorem w_forL {tg : Dt → Rho → Option Rho} (I : Nat → Rho → Prop) : ∀ (ds : List Dt) (j : Nat) (ρ : Rho), (∀ i d ρ, ds[i]? = some d → I (j + i) ρ → ∃ ρ1, tg d ρ = some ρ1 ∧ Wp (I (j + i + 1)) Pr (bd ρ1)) → I j ρ → Wp (I (j + ds.length)) Pr (forL tg bd ds ρ)
  | [], j, ρ, _, h => ⟨h⟩
  | d :: ds, j, ρ, hs, h => by
    obtain ⟨ρ1, h1, h2⟩ := hs 0 d ρ rfl h
    simp only [forL, h1]
    have ih := fun ρ2 => w_forL I ds (j + 1) ρ2 (fun i d ρ hd hI => by
      have := hs (i + 1) d ρ (by simpa using hd) (by rw [show j + (i + 1) = j + 1 + i by omega]; exact hI)
      rwa [show j + (i + 1) + 1 = j + 1 + i + 1 by omega] at this)
    rw [List.length_cons, show j + (ds.length + 1) = j + 1 + ds.length by omega]
    cases e : bd ρ1 with
    | nx ρ2 => rw [e] at h2; exact ih ρ2 h2.out
    | rt s ρ2 => rw [e] at h2; exact ⟨h2.out⟩
    | bk _ => rw [e] at h2; exact h2.out.elim
    | ct _ => rw [e] at h2; exact h2.out.elim
    | ex _ _ => rw [e] at h2; exact h2.out.elim
    | bad => rw [e] at h2; exact h2.out.elim
theorem Wp.imp {Pn' : Rho → Prop} {Pr' : Sl → Rho → Prop} {r : SR} (h : Wp Pn Pr r) (hn : ∀ ρ, Pn ρ → Pn' ρ) (hr : ∀ s ρ, Pr s ρ → Pr' s ρ) : Wp Pn' Pr' r := by
  obtain ⟨h⟩ := h
  cases r with
  | nx ρ => exact ⟨hn ρ h⟩
  | rt s ρ => exact ⟨hr s ρ h⟩
  | _ => exact ⟨h⟩
theorem w_for {it : Rho → R (List Dt)} {tg : Dt → Rho → Option Rho} (I : Nat → Rho → Prop) (h : it ρ = .ok ds ρ1) (h0 : I 0 ρ1) (hs : ∀ i d ρ, ds[i]? = some d → I i ρ → ∃ ρ1, tg d ρ = some ρ1 ∧ Wp (I (i + 1)) Pr (bd ρ1)) (hq : ∀ ρ', I ds.length ρ' → Pn ρ') : Wp Pn Pr (forS it tg bd ρ) := by
  rw [e_for h rfl]
  have := w_forL (Pr := Pr) I ds 0 ρ1 (fun i d ρ hd hI => by
    rw [Nat.zero_add] at hI ⊢
    exact hs i d ρ hd hI) h0
  rw [Nat.zero_add] at this
  exact this.imp hq fun _ _ h => h
theorem w_runF {np nn : Nat} {P : Sl → Prop} (hl : ds.length = np) (h : Wp (fun _ => P (.fr .non)) (fun s _ => P s) (bd (envOf nn ds))) : ∃ s, runF np nn bd ds = .ok s ∧ P s := by
  simp only [runF, if_pos hl]
  obtain ⟨h⟩ := h
  revert h
  cases bd (envOf nn ds) with
  | nx ρ => exact fun h => ⟨_, rfl, h⟩
  | rt s ρ => exact fun h => ⟨_, rfl, h⟩
  | _ => exact fun h => h.elim
theorem w_runF1 {np nn : Nat} (hl : ds.length = np) (h : Wp (fun _ => False) (fun s _ => s = .fr d) (bd (envOf nn ds))) : runF np nn bd ds = .ok (.fr d) := by
  obtain ⟨s, h1, rfl⟩ := w_runF (P := fun s => s = .fr d) hl (h.imp (fun _ h => h.elim) fun _ _ h => h)
  exact h1
theorem w_runM {np nn : Nat} {kvs : List (Key × Dt)} {P : Dt → List (Key × Dt) → Prop} (hl : ds.length + 1 = np) (h : Wp (fun _ => False) (fun s ρ => ∃ d k, s = .fr d ∧ ioOf ρ = some k ∧ P d k) (bd (envM nn kvs ds))) : ∃ d k, runM np nn bd kvs ds = .ok (.fr d) k ∧ P d k := by
  simp only [runM, if_pos hl]
  obtain ⟨h⟩ := h
  revert h
  cases bd (envM nn kvs ds) with
  | rt s ρ =>
    rintro ⟨d, k, rfl, h1, h2⟩
    refine ⟨d, k, ?_, h2⟩
    dsimp only
    rw [h1]
  | _ => exact fun h => h.elim
theorem w_retO {fo : Rho → R Sl} {sl : Sl} (h : fo ρ = .ok sl ρ1) (k : Pr sl ρ1) : Wp Pn Pr (retOS fo ρ) := by rw [e_retO h]; exact ⟨k⟩
theorem e_pnil : pairsF [] ρ = .ok [] ρ := rfl
theorem e_pair {x : Str} {ps : List (Key × Dt)} {r : List ((Rho → R Dt) × (Rho → R Dt))} (h1 : f2 ρ = .ok d ρ1) (h2 : pairsF r ρ1 = .ok ps ρ2) : pairsF ((cst (.str x), f2) :: r) ρ = .ok ((.inr x, d) :: ps) ρ2 := by
  simp only [pairsF, cst, R.bind, h1, keyD, h2]
theorem e_disp {fps : List ((Rho → R Dt) × (Rho → R Dt))} {kvs : List (Key × Dt)} (h1 : pairsF fps ρ = .ok kvs ρ1) (h2 : kvs.length ≤ 15) : dispO fps ρ = .ok (.od (mergeD [] kvs)) ρ1 := by simp only [dispO, h1, R.bind, if_pos h2]
def retOf : SR → Option Sl
  | .rt s _ => some s
  | _ => none
theorem w_of {sl : Sl} (h : retOf (s ρ) = some sl) (k : ∀ ρ', Pr sl ρ') : Wp Pn Pr (s ρ) := by
  revert h
  cases s ρ with
  | rt s' ρ' =>
    intro h
    cases h
    exact ⟨k _⟩
  | _ => intro h; cases h
/-- [e for t in xs if c], where each turn is known -/
theorem lc_fm {tg : Dt → Rho → Option Rho} {ct : Rho → R Bool} {el : Rho → R Dt} {vs : List Nat} (p : Dt → Bool) (F : Dt → Dt) : ∀ (xs : List Dt), (∀ x ∈ xs, ∃ ρ1, tg x ρ = some ρ1 ∧ ct ρ1 = .ok (p x) ρ1 ∧ (p x = true → el ρ1 = .ok (F x) ρ1) ∧ wipeR ρ1 vs = ρ) → lcL tg ct el vs xs ρ = .ok ((xs.filter p).map F) ρ
  | [], _ => rfl
  | x :: xs, h => by
    obtain ⟨ρ1, h1, h2, h3, h4⟩ := h x (List.mem_cons_self ..)
    have ih := lc_fm p F xs fun y hy => h y (List.mem_cons_of_mem _ hy)
    simp only [lcL, h1, h2, R.bind]
    cases e : p x with
    | true =>
      rw [if_pos rfl, List.filter_cons_of_pos e, h3 e]
      simp only [h4, ih, List.map_cons]
    | false =>
      rw [if_neg Bool.false_ne_true, List.filter_cons_of_neg (by rw [e]; exact Bool.false_ne_true)]
      simp only [h4, ih]
theorem lc_m {tg : Dt → Rho → Option Rho} {el : Rho → R Dt} {vs : List Nat} (F : Dt → Dt) (xs : List Dt) (h : ∀ x ∈ xs, ∃ ρ1, tg x ρ = some ρ1 ∧ el ρ1 = .ok (F x) ρ1 ∧ wipeR ρ1 vs = ρ) : lcL tg yesT el vs xs ρ = .ok (xs.map F) ρ := by
  have := lc_fm (ct := yesT) (fun _ => true) F xs fun x hx => by
    obtain ⟨ρ1, h1, h2, h3⟩ := h x hx
    exact ⟨ρ1, h1, rfl, fun _ => h2, h3⟩
  rw [this, List.filter_eq_self.mpr fun _ _ => rfl]
theorem e_lc {it : Rho → R (List Dt)} {tg : Dt → Rho → Option Rho} {ct : Rho → R Bool} {el : Rho → R Dt} {vs : List Nat} {xs : List Dt} (h1 : it ρ = .ok xs ρ1) (h2 : okW vs ρ1 = true) (h3 : xs.length ≤ 1000000) (h4 : lcL tg ct el vs xs (wipeR ρ1 vs) = .ok ds ρ2) : lcO it tg ct el vs ρ = .ok (.ol ds) ρ2 := by
  simp only [lcO, h1, R.bind, if_pos (And.intro h2 h3), h4]
theorem cut_hi {α : Type} {xs : List α} {k : Nat} (h : k ≤ xs.length) : cutD xs none (some (k : Int)) = xs.take k := by
  unfold cutD
  rw [HT.sIx_none, HT.sIx_nat, List.drop_zero, Nat.min_eq_left h]
  rfl
theorem cut_lo {α : Type} {xs : List α} {k : Nat} (h : k ≤ xs.length) : cutD xs (some (k : Int)) none = xs.drop k := by
  unfold cutD
  rw [HT.sIx_none, HT.sIx_nat, Nat.min_eq_left h, List.take_of_length_le]
  rw [List.length_drop]
  exact Nat.le_refl _
theorem o_rng2 {a b : Nat} (h : a ≤ b) (hb : b < 2 ^ 62) : rngD2 [.int a, .int b] = some ((List.range (b - a)).map fun i => .int (a + i : Nat)) := by
  have e : ((b : Int) - (a : Int)).toNat = b - a := by omega
  unfold rngD2
  dsimp only
  rw [if_pos ⟨by omega, by omega, by omega, by omega⟩, e]
  rfl
theorem intsOf_map : ∀ ns : List Int, intsOf (ns.map .int) = some ns
  | [] => rfl
  | n :: ns => by simp only [List.map_cons, intsOf, intsOf_map ns, Option.map_some]
theorem o_max {ns : List Int} {m : Int} (h1 : m ∈ ns) (h2 : ∀ y ∈ ns, y ≤ m) : maxD (.lst (ns.map .int)) = some (.int m) := by
  cases ns with
  | nil => cases h1
  | cons n ns =>
    unfold maxD
    dsimp only
    rw [intsOf_map]
    show some (Dt.int (maxL n ns)) = _
    obtain ⟨q1, q2, q3⟩ := maxL_spec ns n
    have h3 : maxL n ns ≤ m := by
      rcases q1 with e | e
      · rw [e]; exact h2 n (List.mem_cons_self ..)
      · exact h2 _ (List.mem_cons_of_mem _ e)
    have h4 : m ≤ maxL n ns := by
      rcases List.mem_cons.mp h1 with e | e
      · rw [e]; exact q2
      · exact q3 m e
    rw [Int.le_antisymm h3 h4]
end
end PL

set_option Elab.async false
set_option linter.all false
set_option autoImplicit false
set_option maxRecDepth 100000
set_option maxHeartbeats 4000000
/-! P3: reckoning by simp: each form unfolded one step, continuations left alone until their turn -/
namespace PL
open PySem DW
open L2 (Key)
def Rof {α : Type} (o : Option α) (ρ : Rho) : R α := match o with
  | some z => .ok z ρ
  | none => .bad
section
variable {α β γ : Type} {ρ ρ1 ρ2 : Rho} {d e z : Dt} {f1 f2 f3 : Rho → R Dt} {fa : Rho → R (List Dt)} {fo : Rho → R Sl} {c1 c2 : Rho → R Bool} {i j : Nat} {s t : Rho → SR} {sl : Sl} {b : Bool} {ds : List Dt} {kvs : List (Key × Dt)}
theorem x_Rof {a : α} : Rof (some a) ρ = .ok a ρ := rfl
theorem x_cst : cst d ρ = .ok d ρ := rfl
def var1 (s : Option (Option Sl)) (i : Nat) (ρ : Rho) : R Dt := match s with
  | some (some (.fr d)) => .ok d ρ
  | some (some (.ol xs)) => .ok (.lst xs) (ρ.set i (some (.fr (.lst xs))))
  | some (some (.od kvs)) => .ok (.dct kvs) (ρ.set i (some (.fr (.dct kvs))))
  | _ => .bad
theorem x_var : var i ρ = var1 ρ[i]? i ρ := rfl
theorem x_var1f : var1 (some (some (.fr d))) i ρ = .ok d ρ := rfl
theorem x_var1l : var1 (some (some (.ol ds))) i ρ = .ok (.lst ds) (ρ.set i (some (.fr (.lst ds)))) := rfl
theorem x_var1d : var1 (some (some (.od kvs))) i ρ = .ok (.dct kvs) (ρ.set i (some (.fr (.dct kvs)))) := rfl
def pk1 (s : Option (Option Sl)) : Option Dt := match s with
  | some (some (.fr d)) => some d
  | some (some (.ol xs)) => some (.lst xs)
  | some (some (.od kvs)) => some (.dct kvs)
  | some (some (.io kvs)) => some (.dct kvs)
  | _ => none
theorem x_pk : pk i ρ = pk1 ρ[i]? := rfl
theorem x_pk1f : pk1 (some (some (.fr d))) = some d := rfl
theorem x_pk1l : pk1 (some (some (.ol ds))) = some (.lst ds) := rfl
theorem x_pk1d : pk1 (some (some (.od kvs))) = some (.dct kvs) := rfl
theorem x_pk1i : pk1 (some (some (.io kvs))) = some (.dct kvs) := rfl
theorem x_pkF : pkF i ρ = Rof (pk i ρ) ρ := by unfold pkF Rof; cases pk i ρ <;> rfl
def un1 (g : α → Option β) (r : R α) : R β := match r with
  | .ok d ρ => Rof (g d) ρ
  | .ex x ρ => .ex x ρ
  | .bad => .bad
theorem x_un1 {g : α → Option β} {a : α} : un1 g (.ok a ρ) = Rof (g a) ρ := rfl
theorem x_un {g : Dt → Option Dt} : un g f1 ρ = un1 g (f1 ρ) := by
  unfold un
  cases f1 ρ with
  | ok a ρ1 => dsimp only [R.bind, un1, Rof]; cases g a <;> rfl
  | _ => rfl
theorem x_truF : truF f1 ρ = un1 truD (f1 ρ) := by
  unfold truF
  cases f1 ρ with
  | ok a ρ1 => dsimp only [R.bind, un1, Rof]; cases truD a <;> rfl
  | _ => rfl
def bOf (d : Dt) : Option Bool := match d with
  | .bl b => some b
  | _ => none
theorem x_bOf : bOf (.bl b) = some b := rfl
theorem x_tstF : tstF f1 ρ = un1 bOf (f1 ρ) := by
  unfold tstF
  cases f1 ρ with
  | ok d ρ1 => cases d <;> rfl
  | _ => rfl
theorem x_notT : notT c1 ρ = un1 (fun b => some (!b)) (c1 ρ) := by unfold notT; cases c1 ρ <;> rfl
def bin1 (g : Dt → Dt → Option Dt) (f2 : Rho → R Dt) (r : R Dt) : R Dt := match r with
  | .ok d ρ => un1 (g d) (f2 ρ)
  | .ex x ρ => .ex x ρ
  | .bad => .bad
theorem x_bin1 {g : Dt → Dt → Option Dt} : bin1 g f2 (.ok d ρ) = un1 (g d) (f2 ρ) := rfl
theorem x_bin {g : Dt → Dt → Option Dt} : bin g f1 f2 ρ = bin1 g f2 (f1 ρ) := by
  unfold bin
  cases f1 ρ with
  | ok d ρ1 =>
    dsimp only [R.bind, bin1]
    cases f2 ρ1 with
    | ok e ρ2 => dsimp only [un1, Rof]; cases g d e <;> rfl
    | _ => rfl
  | _ => rfl
def bp3 (g : Dt → Dt → Option Dt) (o : Option Dt) (e : Dt) (ρ : Rho) : R Dt := match o with
  | some d => Rof (g d e) ρ
  | none => .bad
def bp2 (g : Dt → Dt → Option Dt) (i : Nat) (r : R Dt) : R Dt := match r with
  | .ok e ρ => bp3 g (pk i ρ) e ρ
  | .ex x ρ => .ex x ρ
  | .bad => .bad
def bp1 (g : Dt → Dt → Option Dt) (i : Nat) (o : Option Dt) (f2 : Rho → R Dt) (ρ : Rho) : R Dt := match o with
  | some _ => bp2 g i (f2 ρ)
  | none => .bad
theorem x_bp3 {g : Dt → Dt → Option Dt} : bp3 g (some d) e ρ = Rof (g d e) ρ := rfl
theorem x_bp2 {g : Dt → Dt → Option Dt} : bp2 g i (.ok e ρ) = bp3 g (pk i ρ) e ρ := rfl
theorem x_bp1 {g : Dt → Dt → Option Dt} : bp1 g i (some d) f2 ρ = bp2 g i (f2 ρ) := rfl
theorem x_binP {g : Dt → Dt → Option Dt} : binP g i f2 ρ = bp1 g i (pk i ρ) f2 ρ := by
  unfold binP
  cases pk i ρ with
  | none => rfl
  | some d =>
    dsimp only [bp1]
    cases f2 ρ with
    | ok e ρ2 =>
      dsimp only [R.bind, bp2]
      cases pk i ρ2 with
      | none => rfl
      | some d2 => dsimp only [bp3, Rof]; cases g d2 e <;> rfl
    | _ => rfl
def and1 (r : R Bool) (c2 : Rho → R Bool) : R Bool := match r with
  | .ok b ρ => if b = true then c2 ρ else .ok false ρ
  | .ex x ρ => .ex x ρ
  | .bad => .bad
def or1 (r : R Bool) (c2 : Rho → R Bool) : R Bool := match r with
  | .ok b ρ => if b = true then .ok true ρ else c2 ρ
  | .ex x ρ => .ex x ρ
  | .bad => .bad
theorem x_andT : andT c1 c2 ρ = and1 (c1 ρ) c2 := by unfold andT; cases c1 ρ <;> rfl
theorem x_orT : orT c1 c2 ρ = or1 (c1 ρ) c2 := by unfold orT; cases c1 ρ <;> rfl
theorem x_and1t : and1 (.ok true ρ) c2 = c2 ρ := rfl
theorem x_and1f : and1 (.ok false ρ) c2 = .ok false ρ := rfl
theorem x_or1t : or1 (.ok true ρ) c2 = .ok true ρ := rfl
theorem x_or1f : or1 (.ok false ρ) c2 = c2 ρ := rfl
/-- both sides of a test that say nothing else -/
theorem x_and1b {b2 : Bool} (h : c2 ρ = .ok b2 ρ) : and1 (.ok b ρ) c2 = .ok (b && b2) ρ := by cases b <;> simp [and1, h]
theorem x_or1b {b2 : Bool} (h : c2 ρ = .ok b2 ρ) : or1 (.ok b ρ) c2 = .ok (b || b2) ρ := by cases b <;> simp [or1, h]
def andV1 (r : R Dt) (f2 : Rho → R Dt) : R Dt := match r with
  | .ok (.bl b) ρ => if b = true then f2 ρ else .ok (.bl false) ρ
  | .ex x ρ => .ex x ρ
  | _ => .bad
def orV1 (r : R Dt) (f2 : Rho → R Dt) : R Dt := match r with
  | .ok (.bl b) ρ => if b = true then .ok (.bl true) ρ else f2 ρ
  | .ex x ρ => .ex x ρ
  | _ => .bad
theorem x_andV : andV f1 f2 ρ = andV1 (f1 ρ) f2 := by
  unfold andV
  cases f1 ρ with
  | ok d ρ1 => cases d <;> rfl
  | _ => rfl
theorem x_orV : orV f1 f2 ρ = orV1 (f1 ρ) f2 := by
  unfold orV
  cases f1 ρ with
  | ok d ρ1 => cases d <;> rfl
  | _ => rfl
theorem x_andV1t : andV1 (.ok (.bl true) ρ) f2 = f2 ρ := rfl
theorem x_andV1f : andV1 (.ok (.bl false) ρ) f2 = .ok (.bl false) ρ := rfl
theorem x_orV1t : orV1 (.ok (.bl true) ρ) f2 = .ok (.bl true) ρ := rfl
theorem x_orV1f : orV1 (.ok (.bl false) ρ) f2 = f2 ρ := rfl
theorem x_andV1b {b2 : Bool} (h : f2 ρ = .ok (.bl b2) ρ) : andV1 (.ok (.bl b) ρ) f2 = .ok (.bl (b && b2)) ρ := by cases b <;> simp [andV1, h]
theorem x_orV1b {b2 : Bool} (h : f2 ρ = .ok (.bl b2) ρ) : orV1 (.ok (.bl b) ρ) f2 = .ok (.bl (b || b2)) ρ := by cases b <;> simp [orV1, h]
def ifE1 (r : R Bool) (f g : Rho → R Dt) : R Dt := match r with
  | .ok b ρ => if b = true then f ρ else g ρ
  | .ex x ρ => .ex x ρ
  | .bad => .bad
theorem x_ifE : ifE c1 f1 f2 ρ = ifE1 (c1 ρ) f1 f2 := by unfold ifE; cases c1 ρ <;> rfl
theorem x_ifE1t : ifE1 (.ok true ρ) f1 f2 = f1 ρ := rfl
theorem x_ifE1f : ifE1 (.ok false ρ) f1 f2 = f2 ρ := rfl
def ch3 (g2 : Dt → Dt → Option Dt) (f3 : Rho → R Dt) (y : Dt) (o : Option Dt) (ρ : Rho) : R Dt := match o with
  | some (.bl true) => un1 (g2 y) (f3 ρ)
  | some (.bl false) => .ok (.bl false) ρ
  | _ => .bad
def ch2 (g1 g2 : Dt → Dt → Option Dt) (f3 : Rho → R Dt) (x : Dt) (r : R Dt) : R Dt := match r with
  | .ok y ρ => ch3 g2 f3 y (g1 x y) ρ
  | .ex x ρ => .ex x ρ
  | .bad => .bad
def ch1 (g1 g2 : Dt → Dt → Option Dt) (f2 f3 : Rho → R Dt) (r : R Dt) : R Dt := match r with
  | .ok x ρ => ch2 g1 g2 f3 x (f2 ρ)
  | .ex x ρ => .ex x ρ
  | .bad => .bad
theorem x_chainD {g1 g2 : Dt → Dt → Option Dt} : chainD g1 g2 f1 f2 f3 ρ = ch1 g1 g2 f2 f3 (f1 ρ) := by
  unfold chainD
  cases f1 ρ with
  | ok x ρ1 =>
    dsimp only [R.bind, ch1]
    cases f2 ρ1 with
    | ok y ρ2 =>
      dsimp only [ch2]
      cases g1 x y with
      | none => rfl
      | some w =>
        cases w with
        | bl b =>
          cases b
          · rfl
          · dsimp only [ch3]
            cases f3 ρ2 with
            | ok z ρ3 => dsimp only [un1, Rof]; cases g2 y z <;> rfl
            | _ => rfl
        | _ => rfl
    | _ => rfl
  | _ => rfl
theorem x_ch1 {g1 g2 : Dt → Dt → Option Dt} : ch1 g1 g2 f2 f3 (.ok d ρ) = ch2 g1 g2 f3 d (f2 ρ) := rfl
theorem x_ch2 {g1 g2 : Dt → Dt → Option Dt} : ch2 g1 g2 f3 d (.ok e ρ) = ch3 g2 f3 e (g1 d e) ρ := rfl
theorem x_ch3t {g2 : Dt → Dt → Option Dt} : ch3 g2 f3 d (some (.bl true)) ρ = un1 (g2 d) (f3 ρ) := rfl
theorem x_ch3f {g2 : Dt → Dt → Option Dt} : ch3 g2 f3 d (some (.bl false)) ρ = .ok (.bl false) ρ := rfl
theorem x_nilA : nilA ρ = .ok [] ρ := rfl
def cons2 (d : Dt) (r : R (List Dt)) : R (List Dt) := match r with
  | .ok ds ρ => .ok (d :: ds) ρ
  | .ex x ρ => .ex x ρ
  | .bad => .bad
def cons1 (fa : Rho → R (List Dt)) (r : R Dt) : R (List Dt) := match r with
  | .ok d ρ => cons2 d (fa ρ)
  | .ex x ρ => .ex x ρ
  | .bad => .bad
theorem x_consA : consA f1 fa ρ = cons1 fa (f1 ρ) := by
  unfold consA
  cases f1 ρ with
  | ok d ρ1 =>
    dsimp only [R.bind, cons1]
    cases fa ρ1 <;> rfl
  | _ => rfl
theorem x_cons1 : cons1 fa (.ok d ρ) = cons2 d (fa ρ) := rfl
theorem x_cons2 : cons2 d (.ok ds ρ) = .ok (d :: ds) ρ := rfl
def few (b : Bool) (a : α) (ρ : Rho) : R α := if b = true then .ok a ρ else .bad
theorem x_few {a : α} : few true a ρ = .ok a ρ := rfl
def mk1 (k : List Dt → α) (r : R (List Dt)) : R α := match r with
  | .ok ds ρ => few (decide (ds.length ≤ 1000000)) (k ds) ρ
  | .ex x ρ => .ex x ρ
  | .bad => .bad
theorem x_mk1 {k : List Dt → α} : mk1 k (.ok ds ρ) = few (decide (ds.length ≤ 1000000)) (k ds) ρ := rfl
theorem x_tupD : tupD fa ρ = mk1 Dt.tup (fa ρ) := by
  unfold tupD
  cases fa ρ <;> simp only [R.bind, mk1, few, decide_eq_true_eq]
theorem x_lstD : lstD fa ρ = mk1 Dt.lst (fa ρ) := by
  unfold lstD
  cases fa ρ <;> simp only [R.bind, mk1, few, decide_eq_true_eq]
theorem x_lstO : lstO fa ρ = mk1 Sl.ol (fa ρ) := by
  unfold lstO
  cases fa ρ <;> simp only [R.bind, mk1, few, decide_eq_true_eq]
theorem x_dctO0 : dctO0 ρ = .ok (.od []) ρ := rfl
theorem x_frO : frO f1 ρ = un1 (fun d => some (Sl.fr d)) (f1 ρ) := by unfold frO; cases f1 ρ <;> rfl
theorem x_cb {g : List Dt → Option Dt} : cb g fa ρ = un1 g (fa ρ) := by
  unfold cb
  cases fa ρ with
  | ok a ρ1 => dsimp only [R.bind, un1, Rof]; cases g a <;> rfl
  | _ => rfl
theorem x_noP : noP ρ = .ok none ρ := rfl
def iOf (d : Dt) : Option (Option Int) := match d with
  | .int i => some (some i)
  | _ => none
theorem x_iOf {k : Int} : iOf (.int k) = some (some k) := rfl
theorem x_someP : someP f1 ρ = un1 iOf (f1 ρ) := by
  unfold someP
  cases f1 ρ with
  | ok d ρ1 => cases d <;> rfl
  | _ => rfl
def sl32 (fh : Rho → R (Option Int)) (d : Dt) (r : R (Option Int)) : R Dt := match r with
  | .ok lo ρ => un1 (slD d lo) (fh ρ)
  | .ex x ρ => .ex x ρ
  | .bad => .bad
def sl31 (fl fh : Rho → R (Option Int)) (r : R Dt) : R Dt := match r with
  | .ok d ρ => sl32 fh d (fl ρ)
  | .ex x ρ => .ex x ρ
  | .bad => .bad
theorem x_sl31 {fl fh : Rho → R (Option Int)} : sl31 fl fh (.ok d ρ) = sl32 fh d (fl ρ) := rfl
theorem x_sl32 {fh : Rho → R (Option Int)} {lo : Option Int} : sl32 fh d (.ok lo ρ) = un1 (slD d lo) (fh ρ) := rfl
theorem x_sl3 {fl fh : Rho → R (Option Int)} : sl3 f1 fl fh ρ = sl31 fl fh (f1 ρ) := by
  unfold sl3
  cases f1 ρ with
  | ok d ρ1 =>
    dsimp only [R.bind, sl31]
    cases fl ρ1 with
    | ok lo ρ2 =>
      dsimp only [sl32]
      cases fh ρ2 with
      | ok hi ρ3 => dsimp only [un1, Rof]; cases slD d lo hi <;> rfl
      | _ => rfl
    | _ => rfl
  | _ => rfl
def slK1 (fk : Rho → R (Option Int)) (r : R Dt) : R Dt := match r with
  | .ok d ρ => un1 (stpD d) (fk ρ)
  | .ex x ρ => .ex x ρ
  | .bad => .bad
theorem x_slK1 {fk : Rho → R (Option Int)} : slK1 fk (.ok d ρ) = un1 (stpD d) (fk ρ) := rfl
theorem x_slK {fk : Rho → R (Option Int)} : slK f1 fk ρ = slK1 fk (f1 ρ) := by
  unfold slK
  cases f1 ρ with
  | ok d ρ1 =>
    dsimp only [R.bind, slK1]
    cases fk ρ1 with
    | ok o ρ2 => dsimp only [un1, Rof]; cases stpD d o <;> rfl
    | _ => rfl
  | _ => rfl
def frF (r : FR) : Option Dt := match r with
  | .ok (.fr d) => some d
  | _ => none
def frS (r : FR) : Option Sl := match r with
  | .ok s => some s
  | _ => none
theorem x_frF : frF (.ok (.fr d)) = some d := rfl
theorem x_frS : frS (.ok sl) = some sl := rfl
def cal1 (fn : Fn) (k : FR → Option α) (r : R (List Dt)) : R α := match r with
  | .ok ds ρ => Rof (k (fn ds)) ρ
  | .ex x ρ => .ex x ρ
  | .bad => .bad
theorem x_cal1 {fn : Fn} {k : FR → Option α} : cal1 fn k (.ok ds ρ) = Rof (k (fn ds)) ρ := rfl
theorem x_callF {fn : Fn} : callF fn fa ρ = cal1 fn frF (fa ρ) := by
  unfold callF
  cases fa ρ with
  | ok ds ρ1 =>
    dsimp only [R.bind, cal1]
    cases fn ds with
    | ok s => cases s <;> rfl
    | _ => rfl
  | _ => rfl
theorem x_callO {fn : Fn} : callO fn fa ρ = cal1 fn frS (fa ρ) := by
  unfold callO
  cases fa ρ with
  | ok ds ρ1 =>
    dsimp only [R.bind, cal1]
    cases fn ds <;> rfl
  | _ => rfl
def FMof (r : FM) (i : Nat) (ρ : Rho) : R Dt := match r with
  | .ok (.fr d) kvs' => .ok d (dPut i kvs' ρ)
  | _ => .bad
theorem x_FMof : FMof (.ok (.fr d) kvs) i ρ = .ok d (dPut i kvs ρ) := rfl
def cm3 (fn : FnM) (i : Nat) (o : Option (List (Key × Dt))) (ds : List Dt) (ρ : Rho) : R Dt := match o with
  | some k => FMof (fn k ds) i ρ
  | none => .bad
def cm2 (fn : FnM) (i : Nat) (r : R (List Dt)) : R Dt := match r with
  | .ok ds ρ => cm3 fn i (dAt i ρ) ds ρ
  | .ex x ρ => .ex x ρ
  | .bad => .bad
def cm1 (fn : FnM) (i : Nat) (o : Option (List (Key × Dt))) (fa : Rho → R (List Dt)) (ρ : Rho) : R Dt := match o with
  | some _ => cm2 fn i (fa ρ)
  | none => .bad
theorem x_cm1 {fn : FnM} : cm1 fn i (some kvs) fa ρ = cm2 fn i (fa ρ) := rfl
theorem x_cm2 {fn : FnM} : cm2 fn i (.ok ds ρ) = cm3 fn i (dAt i ρ) ds ρ := rfl
theorem x_cm3 {fn : FnM} : cm3 fn i (some kvs) ds ρ = FMof (fn kvs ds) i ρ := rfl
theorem x_callM {fn : FnM} : callM fn i fa ρ = cm1 fn i (dAt i ρ) fa ρ := by
  unfold callM
  cases dAt i ρ with
  | none => rfl
  | some k =>
    dsimp only [cm1]
    cases fa ρ with
    | ok ds ρ1 =>
      dsimp only [R.bind, cm2]
      cases dAt i ρ1 with
      | none => rfl
      | some k1 =>
        dsimp only [cm3]
        cases fn k1 ds with
        | ok s k2 => cases s <;> rfl
        | _ => rfl
    | _ => rfl
def FMO (r : FM) : Option Dt := match r with
  | .ok (.fr d) _ => some d
  | _ => none
theorem x_FMO : FMO (.ok (.fr d) kvs) = some d := rfl
def cmo2 (fn : FnM) (k : List (Key × Dt)) (r : R (List Dt)) : R Dt := match r with
  | .ok ds ρ => Rof (FMO (fn k ds)) ρ
  | .ex x ρ => .ex x ρ
  | .bad => .bad
def cmo1 (fn : FnM) (fa : Rho → R (List Dt)) (r : R Sl) : R Dt := match r with
  | .ok (.od k) ρ => cmo2 fn k (fa ρ)
  | .ex x ρ => .ex x ρ
  | _ => .bad
theorem x_cmo1 {fn : FnM} : cmo1 fn fa (.ok (.od kvs) ρ) = cmo2 fn kvs (fa ρ) := rfl
theorem x_cmo2 {fn : FnM} : cmo2 fn kvs (.ok ds ρ) = Rof (FMO (fn kvs ds)) ρ := rfl
theorem x_callMO {fn : FnM} : callMO fn fo fa ρ = cmo1 fn fa (fo ρ) := by
  unfold callMO
  cases fo ρ with
  | ok s ρ1 =>
    cases s with
    | od k =>
      dsimp only [R.bind, cmo1]
      cases fa ρ1 with
      | ok ds ρ2 =>
        dsimp only [cmo2]
        cases fn k ds with
        | ok s k2 => cases s <;> rfl
        | _ => rfl
      | _ => rfl
    | _ => rfl
  | _ => rfl
theorem x_frzR : frzR fo ρ = un1 toD (fo ρ) := by
  unfold frzR
  cases fo ρ with
  | ok a ρ1 => dsimp only [R.bind, un1, Rof]; cases toD a <;> rfl
  | _ => rfl
theorem x_itF : itF f1 ρ = un1 itD (f1 ρ) := by
  unfold itF
  cases f1 ρ with
  | ok a ρ1 => dsimp only [R.bind, un1, Rof]; cases itD a <;> rfl
  | _ => rfl
theorem x_rngF {g : List Dt → Option (List Dt)} : rngF g fa ρ = un1 g (fa ρ) := by
  unfold rngF
  cases fa ρ with
  | ok a ρ1 => dsimp only [R.bind, un1, Rof]; cases g a <;> rfl
  | _ => rfl
def OLof (r : R (List Dt)) : R Sl := match r with
  | .ok ds ρ => .ok (.ol ds) ρ
  | _ => .bad
theorem x_OLof : OLof (.ok ds ρ) = .ok (.ol ds) ρ := rfl
def lc2 (b : Bool) (tg : Dt → Rho → Option Rho) (c : Rho → R Bool) (e : Rho → R Dt) (vs : List Nat) (xs : List Dt) (ρ : Rho) : R Sl := if b = true then OLof (lcL tg c e vs xs (wipeR ρ vs)) else .bad
def lc1 (tg : Dt → Rho → Option Rho) (c : Rho → R Bool) (e : Rho → R Dt) (vs : List Nat) (r : R (List Dt)) : R Sl := match r with
  | .ok xs ρ => lc2 (okW vs ρ && decide (xs.length ≤ 1000000)) tg c e vs xs ρ
  | .ex x ρ => .ex x ρ
  | .bad => .bad
theorem x_lc2 {tg : Dt → Rho → Option Rho} {vs : List Nat} : lc2 true tg c1 f1 vs ds ρ = OLof (lcL tg c1 f1 vs ds (wipeR ρ vs)) := rfl
theorem x_lc1 {tg : Dt → Rho → Option Rho} {vs : List Nat} : lc1 tg c1 f1 vs (.ok ds ρ) = lc2 (okW vs ρ && decide (ds.length ≤ 1000000)) tg c1 f1 vs ds ρ := rfl
theorem x_lcO {it : Rho → R (List Dt)} {tg : Dt → Rho → Option Rho} {vs : List Nat} : lcO it tg c1 f1 vs ρ = lc1 tg c1 f1 vs (it ρ) := by
  unfold lcO
  cases it ρ with
  | ok xs ρ1 =>
    simp only [R.bind, lc1, lc2, Bool.and_eq_true, decide_eq_true_eq]
    split
    · cases lcL tg c1 f1 vs xs (wipeR ρ1 vs) <;> rfl
    · rfl
  | _ => rfl
def cat1 (f2 : Rho → R Dt) (r : R Dt) : R Sl := match r with
  | .ok d ρ => un1 (catL d) (f2 ρ)
  | .ex x ρ => .ex x ρ
  | .bad => .bad
theorem x_cat1 : cat1 f2 (.ok d ρ) = un1 (catL d) (f2 ρ) := rfl
theorem x_catO : catO f1 f2 ρ = cat1 f2 (f1 ρ) := by
  unfold catO
  cases f1 ρ with
  | ok d ρ1 =>
    dsimp only [R.bind, cat1]
    cases f2 ρ1 with
    | ok e ρ2 => dsimp only [un1, Rof]; cases catL d e <;> rfl
    | _ => rfl
  | _ => rfl
def cp3 (o : Option Dt) (e : Dt) (ρ : Rho) : R Sl := match o with
  | some d => Rof (catL d e) ρ
  | none => .bad
def cp2 (i : Nat) (r : R Dt) : R Sl := match r with
  | .ok e ρ => cp3 (pk i ρ) e ρ
  | .ex x ρ => .ex x ρ
  | .bad => .bad
def cp1 (i : Nat) (o : Option Dt) (f2 : Rho → R Dt) (ρ : Rho) : R Sl := match o with
  | some _ => cp2 i (f2 ρ)
  | none => .bad
theorem x_cp1 : cp1 i (some d) f2 ρ = cp2 i (f2 ρ) := rfl
theorem x_cp2 : cp2 i (.ok e ρ) = cp3 (pk i ρ) e ρ := rfl
theorem x_cp3 : cp3 (some d) e ρ = Rof (catL d e) ρ := rfl
theorem x_catPO : catPO i f2 ρ = cp1 i (pk i ρ) f2 ρ := by
  unfold catPO
  cases pk i ρ with
  | none => rfl
  | some d =>
    dsimp only [cp1]
    cases f2 ρ with
    | ok e ρ2 =>
      dsimp only [R.bind, cp2]
      cases pk i ρ2 with
      | none => rfl
      | some d2 => dsimp only [cp3, Rof]; cases catL d2 e <;> rfl
    | _ => rfl
-- statements
def SB (r : SR) (k : Rho → SR) : SR := match r with
  | .nx ρ1 => k ρ1
  | .rt s ρ1 => .rt s ρ1
  | .bk ρ1 => .bk ρ1
  | .ct ρ1 => .ct ρ1
  | .ex e ρ1 => .ex e ρ1
  | .bad => .bad
theorem x_SBn {k : Rho → SR} : SB (.nx ρ) k = k ρ := rfl
theorem x_SBr {k : Rho → SR} : SB (.rt sl ρ) k = .rt sl ρ := rfl
theorem x_skipS : skipS ρ = .nx ρ := rfl
theorem x_badS : badS ρ = .bad := rfl
theorem x_seqS : seqS s t ρ = SB (s ρ) t := rfl
theorem x_nxO : nxO (some ρ) = .nx ρ := rfl
def set1 (i : Nat) (r : R Dt) : SR := match r with
  | .ok d ρ => nxO (putR i (.fr d) ρ)
  | .ex x ρ => .ex x ρ
  | .bad => .bad
theorem x_set1 : set1 i (.ok d ρ) = nxO (putR i (.fr d) ρ) := rfl
theorem x_setS : setS i f1 ρ = set1 i (f1 ρ) := by unfold setS; cases f1 ρ <;> rfl
def setO1 (i : Nat) (r : R Sl) : SR := match r with
  | .ok (.io _) _ => .bad
  | .ok s ρ => nxO (putR i s ρ)
  | .ex x ρ => .ex x ρ
  | .bad => .bad
theorem x_setO1f : setO1 i (.ok (.fr d) ρ) = nxO (putR i (.fr d) ρ) := rfl
theorem x_setO1l : setO1 i (.ok (.ol ds) ρ) = nxO (putR i (.ol ds) ρ) := rfl
theorem x_setO1d : setO1 i (.ok (.od kvs) ρ) = nxO (putR i (.od kvs) ρ) := rfl
theorem x_setOS : setOS i fo ρ = setO1 i (fo ρ) := by
  unfold setOS
  cases fo ρ with
  | ok s ρ1 => cases s <;> rfl
  | _ => rfl
def ret1 (r : R Dt) : SR := match r with
  | .ok d ρ => .rt (.fr d) ρ
  | .ex x ρ => .ex x ρ
  | .bad => .bad
def retO1 (r : R Sl) : SR := match r with
  | .ok s ρ => .rt s ρ
  | .ex x ρ => .ex x ρ
  | .bad => .bad
def exp1 (r : R Dt) : SR := match r with
  | .ok _ ρ => .nx ρ
  | .ex x ρ => .ex x ρ
  | .bad => .bad
theorem x_ret1 : ret1 (.ok d ρ) = .rt (.fr d) ρ := rfl
theorem x_retO1 : retO1 (.ok sl ρ) = .rt sl ρ := rfl
theorem x_exp1 : exp1 (.ok d ρ) = .nx ρ := rfl
theorem x_retS : retS f1 ρ = ret1 (f1 ρ) := by unfold retS; cases f1 ρ <;> rfl
theorem x_retOS : retOS fo ρ = retO1 (fo ρ) := by unfold retOS; cases fo ρ <;> rfl
theorem x_exprS : exprS f1 ρ = exp1 (f1 ρ) := by unfold exprS; cases f1 ρ <;> rfl
def if1 (r : R Bool) (s t : Rho → SR) : SR := match r with
  | .ok b ρ => if b = true then s ρ else t ρ
  | .ex x ρ => .ex x ρ
  | .bad => .bad
theorem x_ifS : ifS c1 s t ρ = if1 (c1 ρ) s t := by unfold ifS; cases c1 ρ <;> rfl
theorem x_if1t : if1 (.ok true ρ) s t = s ρ := rfl
theorem x_if1f : if1 (.ok false ρ) s t = t ρ := rfl
def asg1 (tg : Dt → Rho → Option Rho) (r : R Dt) : SR := match r with
  | .ok d ρ => nxO (tg d ρ)
  | .ex x ρ => .ex x ρ
  | .bad => .bad
theorem x_asg1 {tg : Dt → Rho → Option Rho} : asg1 tg (.ok d ρ) = nxO (tg d ρ) := rfl
theorem x_asgS {tg : Dt → Rho → Option Rho} : asgS tg f1 ρ = asg1 tg (f1 ρ) := by unfold asgS; cases f1 ρ <;> rfl
theorem x_argsP0 : argsP [] ρ = .ok [] ρ := rfl
def ap2 (s : Sl) (r : R (List Sl)) : R (List Sl) := match r with
  | .ok ss ρ => .ok (s :: ss) ρ
  | .ex x ρ => .ex x ρ
  | .bad => .bad
def ap1 (fs : List (Rho → R Sl)) (r : R Sl) : R (List Sl) := match r with
  | .ok (.io _) _ => .bad
  | .ok s ρ => ap2 s (argsP fs ρ)
  | .ex x ρ => .ex x ρ
  | .bad => .bad
theorem x_ap1f {fs : List (Rho → R Sl)} : ap1 fs (.ok (.fr d) ρ) = ap2 (.fr d) (argsP fs ρ) := rfl
theorem x_ap1l {fs : List (Rho → R Sl)} : ap1 fs (.ok (.ol ds) ρ) = ap2 (.ol ds) (argsP fs ρ) := rfl
theorem x_ap1d {fs : List (Rho → R Sl)} : ap1 fs (.ok (.od kvs) ρ) = ap2 (.od kvs) (argsP fs ρ) := rfl
theorem x_ap2 {ss : List Sl} : ap2 sl (.ok ss ρ) = .ok (sl :: ss) ρ := rfl
theorem x_argsP {fs : List (Rho → R Sl)} : argsP (fo :: fs) ρ = ap1 fs (fo ρ) := by
  simp only [argsP]
  cases fo ρ with
  | ok s ρ1 =>
    cases s with
    | io k => rfl
    | _ => dsimp only [R.bind, ap1, notIo]; cases argsP fs ρ1 <;> rfl
  | _ => rfl
def par1 (is : List Nat) (r : R (List Sl)) : SR := match r with
  | .ok ss ρ => nxO (putP is ss ρ)
  | .ex x ρ => .ex x ρ
  | .bad => .bad
theorem x_par1 {is : List Nat} {ss : List Sl} : par1 is (.ok ss ρ) = nxO (putP is ss ρ) := rfl
theorem x_parP {is : List Nat} {fs : List (Rho → R Sl)} : parP is fs ρ = par1 is (argsP fs ρ) := by unfold parP; cases argsP fs ρ <;> rfl
theorem x_putP0 : putP [] [] ρ = some ρ := rfl
def pp1 (is : List Nat) (ss : List Sl) (o : Option Rho) : Option Rho := match o with
  | some ρ => putP is ss ρ
  | none => none
theorem x_pp1 {is : List Nat} {ss : List Sl} : pp1 is ss (some ρ) = putP is ss ρ := rfl
theorem x_putP {is : List Nat} {ss : List Sl} : putP (i :: is) (sl :: ss) ρ = pp1 is ss (putR i sl ρ) := by
  rw [putP]
  cases putR i sl ρ <;> rfl
def app3 (i : Nat) (o : Option (List Dt)) (d : Dt) (ρ : Rho) : SR := match o with
  | some xs => if xs.length < 1000000 then .nx (ρ.set i (some (.ol (xs ++ [d])))) else .bad
  | none => .bad
def app2 (i : Nat) (r : R Dt) : SR := match r with
  | .ok d ρ => app3 i (lAt i ρ) d ρ
  | .ex x ρ => .ex x ρ
  | .bad => .bad
def app1 (i : Nat) (o : Option (List Dt)) (f : Rho → R Dt) (ρ : Rho) : SR := match o with
  | some _ => app2 i (f ρ)
  | none => .bad
theorem x_app1 : app1 i (some ds) f1 ρ = app2 i (f1 ρ) := rfl
theorem x_app2 : app2 i (.ok d ρ) = app3 i (lAt i ρ) d ρ := rfl
def nxB (b : Bool) (ρ : Rho) : SR := if b = true then .nx ρ else .bad
theorem x_nxB : nxB true ρ = .nx ρ := rfl
theorem x_app3 : app3 i (some ds) d ρ = nxB (decide (ds.length < 1000000)) (ρ.set i (some (.ol (ds ++ [d])))) := by
  simp only [app3, nxB, decide_eq_true_eq]
theorem x_appS : appS i f1 ρ = app1 i (lAt i ρ) f1 ρ := by
  unfold appS
  cases lAt i ρ with
  | none => rfl
  | some k =>
    dsimp only [app1]
    cases f1 ρ with
    | ok d ρ1 =>
      dsimp only [R.bindS, app2]
      cases lAt i ρ1 <;> rfl
    | _ => rfl
def dp4 (i : Nat) (o : Option (List (Key × Dt))) (k : Option Key) (d : Dt) (ρ : Rho) : SR := match k, o with
  | some k, some kvs => if kvs.length < 1000000 then .nx (dPut i (putKD kvs k d) ρ) else .bad
  | _, _ => .bad
def dp3 (i : Nat) (d : Dt) (r : R Dt) : SR := match r with
  | .ok k ρ => dp4 i (dAt i ρ) (keyD k) d ρ
  | .ex x ρ => .ex x ρ
  | .bad => .bad
def dp2 (i : Nat) (o : Option (List (Key × Dt))) (fk : Rho → R Dt) (d : Dt) (ρ : Rho) : SR := match o with
  | some _ => dp3 i d (fk ρ)
  | none => .bad
def dp1 (i : Nat) (fk : Rho → R Dt) (r : R Dt) : SR := match r with
  | .ok d ρ => dp2 i (dAt i ρ) fk d ρ
  | .ex x ρ => .ex x ρ
  | .bad => .bad
theorem x_dp1 {fk : Rho → R Dt} : dp1 i fk (.ok d ρ) = dp2 i (dAt i ρ) fk d ρ := rfl
theorem x_dp2 {fk : Rho → R Dt} : dp2 i (some kvs) fk d ρ = dp3 i d (fk ρ) := rfl
theorem x_dp3 : dp3 i d (.ok e ρ) = dp4 i (dAt i ρ) (keyD e) d ρ := rfl
theorem x_dp4 {k : Key} : dp4 i (some kvs) (some k) d ρ = nxB (decide (kvs.length < 1000000)) (dPut i (putKD kvs k d) ρ) := by
  simp only [dp4, nxB, decide_eq_true_eq]
theorem x_dputS {fk fv : Rho → R Dt} : dputS i fk fv ρ = dp1 i fk (fv ρ) := by
  unfold dputS
  cases fv ρ with
  | ok d ρ1 =>
    dsimp only [R.bindS, dp1]
    cases dAt i ρ1 with
    | none => rfl
    | some k0 =>
      dsimp only [dp2]
      cases fk ρ1 with
      | ok k ρ2 =>
        dsimp only [dp3]
        cases keyD k <;> cases dAt i ρ2 <;> rfl
      | _ => rfl
  | _ => rfl
theorem x_keyI {k : Int} : keyD (.int k) = some (.inl k) := rfl
theorem x_keyS {k : Str} : keyD (.str k) = some (.inr k) := rfl
def up3 (i : Nat) (o : Option (List (Key × Dt))) (d : Dt) (ρ : Rho) : SR := match d, o with
  | .dct more, some kvs => if kvs.length + more.length ≤ 1000000 then .nx (dPut i (mergeD kvs more) ρ) else .bad
  | _, _ => .bad
def up2 (i : Nat) (r : R Dt) : SR := match r with
  | .ok d ρ => up3 i (dAt i ρ) d ρ
  | .ex x ρ => .ex x ρ
  | .bad => .bad
def up1 (i : Nat) (o : Option (List (Key × Dt))) (f : Rho → R Dt) (ρ : Rho) : SR := match o with
  | some _ => up2 i (f ρ)
  | none => .bad
theorem x_up1 : up1 i (some kvs) f1 ρ = up2 i (f1 ρ) := rfl
theorem x_up2 : up2 i (.ok d ρ) = up3 i (dAt i ρ) d ρ := rfl
theorem x_up3 {more : List (Key × Dt)} : up3 i (some kvs) (.dct more) ρ = nxB (decide (kvs.length + more.length ≤ 1000000)) (dPut i (mergeD kvs more) ρ) := by
  simp only [up3, nxB, decide_eq_true_eq]
theorem x_updS : updS i f1 ρ = up1 i (dAt i ρ) f1 ρ := by
  unfold updS
  cases dAt i ρ with
  | none => rfl
  | some k0 =>
    dsimp only [up1]
    cases f1 ρ with
    | ok d ρ1 =>
      dsimp only [R.bindS, up2]
      cases d with
      | dct k => cases dAt i ρ1 <;> rfl
      | _ => rfl
    | _ => rfl
def for1 (tg : Dt → Rho → Option Rho) (s : Rho → SR) (r : R (List Dt)) : SR := match r with
  | .ok ds ρ => forL tg s ds ρ
  | .ex x ρ => .ex x ρ
  | .bad => .bad
theorem x_for1 {tg : Dt → Rho → Option Rho} : for1 tg s (.ok ds ρ) = forL tg s ds ρ := rfl
theorem x_forS {it : Rho → R (List Dt)} {tg : Dt → Rho → Option Rho} : forS it tg s ρ = for1 tg s (it ρ) := by unfold forS; cases it ρ <;> rfl
def wh2 (c : Rho → R Bool) (b : Rho → SR) (n : Nat) (r : SR) : SR := match r with
  | .nx ρ2 => whS c b n ρ2
  | .ct ρ2 => whS c b n ρ2
  | .bk ρ2 => .nx ρ2
  | .rt s ρ2 => .rt s ρ2
  | .ex e ρ2 => .ex e ρ2
  | .bad => .bad
def wh1 (c : Rho → R Bool) (b : Rho → SR) (n : Nat) (r : R Bool) : SR := match r with
  | .ok t ρ => if t = true then wh2 c b n (b ρ) else .nx ρ
  | .ex x ρ => .ex x ρ
  | .bad => .bad
theorem x_wh {n : Nat} : whS c1 s (n + 1) ρ = wh1 c1 s n (c1 ρ) := by
  simp only [whS]
  cases c1 ρ with
  | ok t ρ1 => cases t <;> rfl
  | _ => rfl
theorem x_wh1t {n : Nat} : wh1 c1 s n (.ok true ρ) = wh2 c1 s n (s ρ) := rfl
theorem x_wh1f {n : Nat} : wh1 c1 s n (.ok false ρ) = .nx ρ := rfl
theorem x_wh2n {n : Nat} : wh2 c1 s n (.nx ρ) = whS c1 s n ρ := rfl
theorem x_wh2r {n : Nat} : wh2 c1 s n (.rt sl ρ) = .rt sl ρ := rfl
def RTof (r : SR) : FR := match r with
  | .rt s _ => .ok s
  | .nx _ => .ok (.fr .non)
  | .ex e _ => .ex e
  | _ => .bad
theorem x_RTr : RTof (.rt sl ρ) = .ok sl := rfl
theorem x_RTn : RTof (.nx ρ) = .ok (.fr .non) := rfl
def rf1 (b : Bool) (s : Rho → SR) (ρ : Rho) : FR := if b = true then RTof (s ρ) else .bad
theorem x_rf1 : rf1 true s ρ = RTof (s ρ) := rfl
theorem x_runF {np nn : Nat} : runF np nn s ds = rf1 (decide (ds.length = np)) s (envOf nn ds) := by
  unfold runF rf1 RTof
  by_cases h : ds.length = np
  · refine (if_pos h).trans (Eq.trans ?_ (if_pos (decide_eq_true h)).symm)
    cases s (envOf nn ds) <;> rfl
  · exact (if_neg h).trans (if_neg (by rw [decide_eq_false h]; exact Bool.false_ne_true)).symm
def MIo (o : Option (List (Key × Dt))) (s : Sl) : FM := match o with
  | some kvs' => .ok s kvs'
  | none => .bad
def RMof (r : SR) : FM := match r with
  | .rt s ρ => MIo (ioOf ρ) s
  | .nx ρ => MIo (ioOf ρ) (.fr .non)
  | .ex e _ => .ex e
  | _ => .bad
theorem x_RMr : RMof (.rt sl ρ) = MIo (ioOf ρ) sl := rfl
theorem x_RMn : RMof (.nx ρ) = MIo (ioOf ρ) (.fr .non) := rfl
theorem x_MIo : MIo (some kvs) sl = .ok sl kvs := rfl
theorem x_ioOf : ioOf (some (.io kvs) :: ρ) = some kvs := rfl
def rm1 (b : Bool) (s : Rho → SR) (ρ : Rho) : FM := if b = true then RMof (s ρ) else .bad
theorem x_rm1 : rm1 true s ρ = RMof (s ρ) := rfl
theorem x_runM {np nn : Nat} : runM np nn s kvs ds = rm1 (decide (ds.length + 1 = np)) s (envM nn kvs ds) := by
  unfold runM rm1 RMof MIo
  by_cases h : ds.length + 1 = np
  · refine (if_pos h).trans (Eq.trans ?_ (if_pos (decide_eq_true h)).symm)
    cases s (envM nn kvs ds) with
    | rt sl ρ => first | rfl | (dsimp only; cases ioOf ρ <;> rfl)
    | nx ρ => first | rfl | (dsimp only; cases ioOf ρ <;> rfl)
    | _ => rfl
  · exact (if_neg h).trans (if_neg (by rw [decide_eq_false h]; exact Bool.false_ne_true)).symm
-- places
theorem x_putR : putR (i + 1) sl ρ = some (ρ.set (i + 1) (some sl)) := by
  unfold putR
  rw [if_neg (fun z => by have := z.1; omega)]
theorem x_putR0f : putR 0 sl (some (.fr d) :: ρ) = some (some sl :: ρ) := rfl
theorem x_putR0l {xs : List Dt} : putR 0 sl (some (.ol xs) :: ρ) = some (some sl :: ρ) := rfl
theorem x_putR0d {xs : List (Key × Dt)} : putR 0 sl (some (.od xs) :: ρ) = some (some sl :: ρ) := rfl
theorem x_putR0n : putR 0 sl (none :: ρ) = some (some sl :: ρ) := rfl
theorem x_noIof : noIo (some (.fr d) :: ρ) = true := rfl
theorem x_noIol {xs : List Dt} : noIo (some (.ol xs) :: ρ) = true := rfl
theorem x_noIod {xs : List (Key × Dt)} : noIo (some (.od xs) :: ρ) = true := rfl
theorem x_noIon : noIo (none :: ρ) = true := rfl
theorem x_tgN : tgN i d ρ = putR i (.fr d) ρ := rfl
theorem x_tgT {is : List Nat} {ds : List Dt} : tgT is (.tup ds) ρ = putAll is ds ρ := rfl
theorem x_putAll0 : putAll [] [] ρ = some ρ := rfl
def pa1 (is : List Nat) (ds : List Dt) (o : Option Rho) : Option Rho := match o with
  | some ρ => putAll is ds ρ
  | none => none
theorem x_pa1 {is : List Nat} : pa1 is ds (some ρ) = putAll is ds ρ := rfl
theorem x_putAll {is : List Nat} : putAll (i :: is) (d :: ds) ρ = pa1 is ds (putR i (.fr d) ρ) := by
  rw [putAll]
  cases putR i (.fr d) ρ <;> rfl
def dSl (s : Option (Option Sl)) : Option (List (Key × Dt)) := match s with
  | some (some (.od kvs)) => some kvs
  | some (some (.io kvs)) => some kvs
  | _ => none
theorem x_dAt : dAt i ρ = dSl ρ[i]? := rfl
theorem x_dSlo {k : List (Key × Dt)} : dSl (some (some (.od k))) = some k := rfl
theorem x_dSli {k : List (Key × Dt)} : dSl (some (some (.io k))) = some k := rfl
def dPu (s : Option (Option Sl)) (i : Nat) (k : List (Key × Dt)) (ρ : Rho) : Rho := match s with
  | some (some (.od _)) => ρ.set i (some (.od k))
  | some (some (.io _)) => ρ.set i (some (.io k))
  | _ => ρ
theorem x_dPut {k : List (Key × Dt)} : dPut i k ρ = dPu ρ[i]? i k ρ := rfl
theorem x_dPuo {k k' : List (Key × Dt)} : dPu (some (some (.od k'))) i k ρ = ρ.set i (some (.od k)) := rfl
theorem x_dPui {k k' : List (Key × Dt)} : dPu (some (some (.io k'))) i k ρ = ρ.set i (some (.io k)) := rfl
def lSl (s : Option (Option Sl)) : Option (List Dt) := match s with
  | some (some (.ol xs)) => some xs
  | _ => none
theorem x_lAt : lAt i ρ = lSl ρ[i]? := rfl
theorem x_lSl {k : List Dt} : lSl (some (some (.ol k))) = some k := rfl
theorem x_envOf {n : Nat} {ds : List Dt} : envOf n ds = ds.map (fun d => some (.fr d)) ++ List.replicate (n - ds.length) none := rfl
theorem x_envM {n : Nat} {ds : List Dt} {k : List (Key × Dt)} : envM n k ds = some (.io k) :: (ds.map (fun d => some (.fr d)) ++ List.replicate (n - (ds.length + 1)) none) := rfl
theorem x_toDl {xs : List Dt} : toD (.ol xs) = some (.lst xs) := rfl
theorem x_toDd {xs : List (Key × Dt)} : toD (.od xs) = some (.dct xs) := rfl
theorem x_toDf : toD (.fr d) = some d := rfl
theorem x_nof : notIo (.fr d) = true := rfl
theorem x_nol {xs : List Dt} : notIo (.ol xs) = true := rfl
theorem x_nod {xs : List (Key × Dt)} : notIo (.od xs) = true := rfl
theorem x_okW {vs : List Nat} : okW vs ρ = (noIo ρ || vs.all (fun v => decide (v ≠ 0))) := rfl
theorem x_wipe0 : wipeR ρ [] = ρ := rfl
theorem x_wipe {vs : List Nat} : wipeR ρ (i :: vs) = (wipeR ρ vs).set i none := rfl
theorem x_yesT : yesT ρ = .ok true ρ := rfl
end
/-! ### numbers -/
section
theorem n_add (a b : Nat) : (a : Int) + (b : Int) = ((a + b : Nat) : Int) := rfl
theorem n_mul (a b : Nat) : (a : Int) * (b : Int) = ((a * b : Nat) : Int) := rfl
theorem n_mod (a b : Nat) : (a : Int) % (b : Int) = ((a % b : Nat) : Int) := rfl
theorem n_div (a b : Nat) : (a : Int) / (b : Int) = ((a / b : Nat) : Int) := rfl
theorem n_sub {a b : Nat} (h : b ≤ a) : (a : Int) - (b : Int) = ((a - b : Nat) : Int) := by omega
theorem n_lt (a b : Nat) : decide ((a : Int) < (b : Int)) = decide (a < b) := by simp only [Int.ofNat_lt]
theorem n_le (a b : Nat) : decide ((a : Int) ≤ (b : Int)) = decide (a ≤ b) := by simp only [Int.ofNat_le]
theorem n_eq (a b : Nat) : decide ((a : Int) = (b : Int)) = decide (a = b) := by simp only [Int.ofNat_inj]
theorem d_t {p : Prop} [Decidable p] (h : p) : decide p = true := decide_eq_true h
theorem d_f {p : Prop} [Decidable p] (h : ¬ p) : decide p = false := decide_eq_false h
theorem y_add (a b : Int) : addD (.int a) (.int b) = some (.int (a + b)) := rfl
theorem y_sub (a b : Int) : subD (.int a) (.int b) = some (.int (a - b)) := rfl
theorem y_mod {b : Nat} (a : Int) (h : 0 < b) : modD (.int a) (.int (b : Nat)) = some (.int (a % (b : Nat))) := o_mod (by omega)
theorem y_div {b : Nat} (a : Int) (h : 0 < b ∧ b < 2 ^ 63) : fdivD (.int a) (.int (b : Nat)) = some (.int (a / (b : Nat))) := o_fdiv (by omega) (by omega)
theorem y_mulL {a : Nat} {b : Int} (h : a < 2 ^ 63) : mulD (.int (a : Nat)) (.int b) = some (.int ((a : Nat) * b)) := o_mulL (by omega) (by omega)
theorem y_mulR {a : Int} {b : Nat} (h : b < 2 ^ 63) : mulD (.int a) (.int (b : Nat)) = some (.int (a * (b : Nat))) := o_mulR (by omega) (by omega)
theorem y_lt (a b : Int) : ltD (.int a) (.int b) = some (.bl (decide (a < b))) := rfl
theorem y_le (a b : Int) : leD (.int a) (.int b) = some (.bl (decide (a ≤ b))) := rfl
theorem y_gt (a b : Int) : gtD (.int a) (.int b) = some (.bl (decide (b < a))) := rfl
theorem y_ge (a b : Int) : geD (.int a) (.int b) = some (.bl (decide (b ≤ a))) := rfl
theorem y_cmp (p : Int → Int → Bool) (a b : Int) : cmpD p (.int a) (.int b) = some (.bl (p a b)) := rfl
theorem y_eq (a b : Int) : eqD (.int a) (.int b) = some (.bl (decide (a = b))) := rfl
theorem y_ne (a b : Int) : neD (.int a) (.int b) = some (.bl (!decide (a = b))) := rfl
theorem y_int (a : Int) : intD (.int a) = some (.int a) := rfl
theorem y_notD (b : Bool) : notD (.bl b) = some (.bl (!b)) := rfl
theorem y_truB (b : Bool) : truD (.bl b) = some b := rfl
theorem y_neg (a : Int) : negD (.int a) = some (.int (-a)) := rfl
theorem y_isi_n (T : Ty) : isiD T .non = some (.bl (isiT T .none)) := rfl
theorem y_isi_b (T : Ty) (b : Bool) : isiD T (.bl b) = some (.bl (isiT T .bool)) := rfl
theorem y_isi_i (T : Ty) (i : Int) : isiD T (.int i) = some (.bl (isiT T .int)) := rfl
theorem y_isi_s (T : Ty) (i : Str) : isiD T (.str i) = some (.bl (isiT T .str)) := rfl
theorem y_isi_l (T : Ty) (i : List Dt) : isiD T (.lst i) = some (.bl (isiT T .list)) := rfl
theorem y_isi_t (T : Ty) (i : List Dt) : isiD T (.tup i) = some (.bl (isiT T .tuple)) := rfl
theorem y_isi_d (T : Ty) (i : List (L2.Key × Dt)) : isiD T (.dct i) = some (.bl (isiT T .dict)) := rfl
theorem y_isi_c (T : Ty) (i : List Int) : isiD T (.scr i) = some (.bl (isiT T .list)) := rfl
end
/-! ### lists of natural numbers -/
abbrev NI (n : Nat) : Dt := .int (n : Nat)
def nl (ns : List Nat) : List Dt := ns.map fun n => .int (n : Nat)
section
variable {ns ms : List Nat} {n m : Nat}
theorem nl_nil : nl [] = [] := rfl
theorem nl_cons : nl (n :: ns) = .int (n : Nat) :: nl ns := rfl
theorem nl_app : nl (ns ++ ms) = nl ns ++ nl ms := List.map_append
theorem nl_len : (nl ns).length = ns.length := List.length_map _
theorem nl_get (i : Nat) : (nl ns)[i]? = (ns[i]?).map fun n => Dt.int (n : Nat) := List.getElem?_map
theorem l_len (ds : List Dt) : lenD (.lst ds) = some (.int (ds.length : Nat)) := rfl
theorem l_lenT (ds : List Dt) : lenD (.tup ds) = some (.int (ds.length : Nat)) := rfl
theorem l_it (ds : List Dt) : itD (.lst ds) = some ds := rfl
theorem l_itT (ds : List Dt) : itD (.tup ds) = some ds := rfl
theorem l_tuple (ds : List Dt) : tupleD (.lst ds) = some (.tup ds) := rfl
theorem l_list (ds : List Dt) : listD (.tup ds) = some (.lst ds) := rfl
theorem l_listL (ds : List Dt) : listD (.lst ds) = some (.lst ds) := rfl
theorem l_ix (ds : List Dt) (i : Nat) : ixD (.lst ds) (.int (i : Nat)) = ds[i]? := by
  show L2.atI ds (i : Nat) = _
  unfold L2.atI L2.ixN
  rw [if_pos (by omega)]
  by_cases h : i < ds.length
  · rw [if_pos (by omega)]; rfl
  · rw [if_neg (by omega), List.getElem?_eq_none (by omega)]; rfl
theorem l_ixT (ds : List Dt) (i : Nat) : ixD (.tup ds) (.int (i : Nat)) = ds[i]? := l_ix ds i
theorem l_sum : sumD (.lst (nl ns)) = some (.int (ns.sum : Nat)) := by
  have e : nl ns = (ns.map fun n => ((n : Nat) : Int)).map Dt.int := by unfold nl; rw [List.map_map]; rfl
  unfold sumD
  dsimp only
  rw [e, intsOf_map]
  show some (Dt.int _) = _
  congr 2
  induction ns with
  | nil => rfl
  | cons n ns ih =>
    have ih' := ih (by unfold nl; rw [List.map_map]; rfl)
    rw [List.map_cons, List.sum_cons, List.sum_cons, ih']
    rfl
theorem eqv_nl : ∀ ns ms : List Nat, PyData.eqvAll (toPyAll (nl ns)) (toPyAll (nl ms)) = decide (ns = ms)
  | [], [] => rfl
  | [], m :: ms => rfl
  | n :: ns, [] => rfl
  | n :: ns, m :: ms => by
    simp only [nl_cons, toPyAll, toPy, PyData.eqvAll, PyData.eqv, eqv_nl ns ms]
    by_cases h : n = m
    · subst h
      simp
    · have : ¬ ((n : Int) = (m : Int)) := by omega
      simp [h, this]
theorem nl_shape : ∀ ns : List Nat, plainAll (nl ns) = true ∧ PyData.canLayAll0 (toPyAll (nl ns)) = true ∧ PyData.depthAll (toPyAll (nl ns)) = 0
  | [] => ⟨rfl, rfl, rfl⟩
  | n :: ns => by
    obtain ⟨h1, h2, h3⟩ := nl_shape ns
    refine ⟨?_, ?_, ?_⟩
    · simp only [nl_cons, plainAll, plainD, h1, Bool.and_self]
    · simp only [nl_cons, toPyAll, toPy, PyData.canLayAll0, PyData.canLay0, h2, Bool.and_self]
    · simp only [nl_cons, toPyAll, toPy, PyData.depthAll, PyData.depth, h3, Nat.max_self]
theorem nl_shp (ns : List Nat) : shp (.lst (nl ns)) = true := by
  obtain ⟨h1, h2, h3⟩ := nl_shape ns
  simp only [shp, plainD, h1, SeqAt.shaped, toPy, PyData.canLay0, h2, PyData.depth, h3, Bool.true_and]
  rfl
theorem nl_shpT (ns : List Nat) : shp (.tup (nl ns)) = true := by
  obtain ⟨h1, h2, h3⟩ := nl_shape ns
  simp only [shp, plainD, h1, SeqAt.shaped, toPy, PyData.canLay0, h2, PyData.depth, h3, Bool.true_and]
  rfl
theorem l_eq : eqD (.lst (nl ns)) (.lst (nl ms)) = some (.bl (decide (ns = ms))) := by
  unfold eqD
  dsimp only
  rw [if_pos ⟨nl_shp ns, nl_shp ms⟩]
  simp only [eqt, toPy, PyData.eqv, eqv_nl]
theorem l_ne : neD (.lst (nl ns)) (.lst (nl ms)) = some (.bl (!decide (ns = ms))) := by
  unfold neD
  dsimp only
  rw [if_pos ⟨nl_shp ns, nl_shp ms⟩]
  simp only [eqt, toPy, PyData.eqv, eqv_nl]
theorem l_eq0 : eqD (.lst (nl ns)) (.lst []) = some (.bl (decide (ns = []))) := l_eq (ms := [])
theorem l_ne0 : neD (.lst (nl ns)) (.lst []) = some (.bl (!decide (ns = []))) := l_ne (ms := [])
theorem l_eqT : eqD (.tup (nl ns)) (.tup (nl ms)) = some (.bl (decide (ns = ms))) := by
  unfold eqD
  dsimp only
  rw [if_pos ⟨nl_shpT ns, nl_shpT ms⟩]
  simp only [eqt, toPy, PyData.eqv, eqv_nl]
theorem nl_flat : ∀ ns : List Nat, (nl ns).all flatD = true
  | [] => rfl
  | n :: ns => by
    rw [nl_cons, List.all_cons, nl_flat ns]
    rfl
theorem nl_inV : ∀ ns : List Nat, L2.inV (.int (m : Nat)) ((nl ns).map toV) = decide (m ∈ ns)
  | [] => rfl
  | n :: ns => by
    have ih := nl_inV ns
    rw [nl_cons, List.map_cons]
    unfold L2.inV at ih ⊢
    rw [List.any_cons, ih]
    show (L2.eqV (.int (n : Nat)) (.int (m : Nat)) || decide (m ∈ ns)) = decide (m ∈ n :: ns)
    by_cases h : n = m
    · subst h
      simp [L2.eqV]
    · have h1 : ¬ ((n : Int) = (m : Int)) := by omega
      have h2 : m ≠ n := fun z => h z.symm
      simp [L2.eqV, h1, h2]
theorem l_in : inD (.int (m : Nat)) (.lst (nl ns)) = some (.bl (decide (m ∈ ns))) := by
  unfold inD inB
  dsimp only
  rw [if_pos ⟨rfl, nl_flat ns⟩]
  show some (Dt.bl (L2.inV (.int (m : Nat)) ((nl ns).map toV))) = _
  rw [nl_inV]
theorem l_nin : ninD (.int (m : Nat)) (.lst (nl ns)) = some (.bl (!decide (m ∈ ns))) := by
  unfold ninD inB
  dsimp only
  rw [if_pos ⟨rfl, nl_flat ns⟩]
  show some (Dt.bl (!L2.inV (.int (m : Nat)) ((nl ns).map toV))) = _
  rw [nl_inV]
theorem l_cat (xs ys : List Dt) (h : xs.length + ys.length ≤ 1000000) : addD (.lst xs) (.lst ys) = some (.lst (xs ++ ys)) := if_pos h
theorem l_catT (xs ys : List Dt) (h : xs.length + ys.length ≤ 1000000) : addD (.tup xs) (.tup ys) = some (.tup (xs ++ ys)) := if_pos h
theorem nl_stp (c : Int) : stp (nl ns) c = nl (stp ns c) := by
  unfold stp pickI
  rw [nl_len]
  generalize sliceRange 0 (ns.length : Nat) c = ix
  induction ix with
  | nil => rfl
  | cons i ix ih =>
    rw [List.filterMap_cons, List.filterMap_cons, nl_get, ih]
    cases ns[i]? <;> rfl
theorem l_stp {k : Nat} (h : 0 < k) : stpD (.lst (nl ns)) (some (k : Nat)) = some (.lst (nl (stp ns (k : Nat)))) := by
  unfold stpD
  dsimp only
  rw [if_pos (by omega), nl_stp]
/-- every k-th one of a row of k * c things -/
theorem stp_range {c k : Nat} (hk : 0 < k) (f : Nat → Nat) : stp ((List.range (k * c)).map f) (k : Nat) = (List.range c).map fun i => f (i * k) := by
  unfold stp pickI sliceRange
  rw [List.length_map, List.length_range]
  have e1 : (if ((k : Nat) : Int) > 0 then (if (0 : Int) < ((k * c : Nat) : Int) then (((k * c : Nat) : Int) - 0 + (k : Nat) - 1) / (k : Nat) else 0) else if (0 : Int) > ((k * c : Nat) : Int) then (0 - ((k * c : Nat) : Int) - (k : Nat) - 1) / -((k : Nat) : Int) else 0).toNat = c := by
    rw [if_pos (by omega)]
    by_cases hc : c = 0
    · subst hc
      rfl
    · have hp : 0 < k * c := Nat.mul_pos hk (by omega)
      rw [if_pos (by omega)]
      have e2 : ((k * c : Nat) : Int) - 0 + ((k : Nat) : Int) - 1 = ((k * c + k - 1 : Nat) : Int) := by omega
      rw [e2]
      show (((k * c + k - 1) / k : Nat) : Int).toNat = c
      rw [Int.toNat_natCast]
      rw [show k * c + k - 1 = (k - 1) + k * c by omega, Nat.add_mul_div_left _ _ hk, Nat.div_eq_of_lt (by omega), Nat.zero_add]
  simp only [e1]
  rw [List.filterMap_map]
  have e3 : ∀ i ∈ List.range c, ((fun x => ((List.range (k * c)).map f)[x]?) ∘ fun j : Nat => (0 + ((k : Nat) : Int) * (j : Int)).toNat) i = some (f (i * k)) := fun i hi => by
    rw [List.mem_range] at hi
    have e4 : (0 + ((k : Nat) : Int) * (i : Int)).toNat = i * k := by
      rw [Int.zero_add, n_mul, Int.toNat_natCast, Nat.mul_comm]
    show ((List.range (k * c)).map f)[(0 + ((k : Nat) : Int) * (i : Int)).toNat]? = _
    have e5 : i * k < k * c := by
      rw [Nat.mul_comm]
      exact Nat.mul_lt_mul_of_pos_left hi hk
    rw [e4, List.getElem?_map, List.getElem?_range e5]
    rfl
  generalize hg : ((fun x => ((List.range (k * c)).map f)[x]?) ∘ fun j : Nat => (0 + ((k : Nat) : Int) * (j : Int)).toNat) = g at e3
  clear hg e1
  generalize List.range c = l at e3
  induction l with
  | nil => rfl
  | cons a l ih =>
    rw [List.filterMap_cons, e3 a (List.mem_cons_self ..), List.map_cons, ih fun i hi => e3 i (List.mem_cons_of_mem _ hi)]
theorem l_rng1 {n : Nat} (h : n < 2 ^ 62) : rngD1 [.int (n : Nat)] = some (nl (List.range n)) := by
  have e : (n : Int).toNat = n := rfl
  unfold rngD1
  dsimp only
  rw [if_pos ⟨by omega, by omega⟩, e]
  rfl
theorem l_rng2 {a b : Nat} (h : b < 2 ^ 62 ∧ a < 2 ^ 62) : rngD2 [.int (a : Nat), .int (b : Nat)] = some (nl (List.range' a (b - a))) := by
  have e : ((b : Int) - (a : Int)).toNat = b - a := by omega
  unfold rngD2
  dsimp only
  rw [if_pos ⟨by omega, by omega, by omega, by omega⟩, e]
  unfold nl
  rw [List.range'_eq_map_range, List.map_map]
  rfl
theorem lc_nat {ρ : Rho} {tg : Dt → Rho → Option Rho} {ct : Rho → R Bool} {el : Rho → R Dt} {vs : List Nat} (p : Nat → Bool) (F : Nat → Dt) : ∀ (ns : List Nat), (∀ n ∈ ns, ∃ ρ1, tg (.int (n : Nat)) ρ = some ρ1 ∧ ct ρ1 = .ok (p n) ρ1 ∧ (p n = true → el ρ1 = .ok (F n) ρ1) ∧ wipeR ρ1 vs = ρ) → lcL tg ct el vs (nl ns) ρ = .ok ((ns.filter p).map F) ρ
  | [], _ => rfl
  | x :: xs, h => by
    obtain ⟨ρ1, h1, h2, h3, h4⟩ := h x (List.mem_cons_self ..)
    have ih := lc_nat p F xs fun y hy => h y (List.mem_cons_of_mem _ hy)
    rw [nl_cons]
    simp only [lcL, h1, h2, R.bind]
    cases e : p x with
    | true =>
      rw [if_pos rfl, List.filter_cons_of_pos e, h3 e]
      simp only [h4, ih, List.map_cons]
    | false =>
      rw [if_neg Bool.false_ne_true, List.filter_cons_of_neg (by rw [e]; exact Bool.false_ne_true)]
      simp only [h4, ih]
theorem lc_natN {ρ : Rho} {tg : Dt → Rho → Option Rho} {ct : Rho → R Bool} {el : Rho → R Dt} {vs : List Nat} (p : Nat → Bool) (F : Nat → Nat) (ns : List Nat) (h : ∀ n ∈ ns, ∃ ρ1, tg (.int (n : Nat)) ρ = some ρ1 ∧ ct ρ1 = .ok (p n) ρ1 ∧ (p n = true → el ρ1 = .ok (.int (F n : Nat)) ρ1) ∧ wipeR ρ1 vs = ρ) : lcL tg ct el vs (nl ns) ρ = .ok (nl ((ns.filter p).map F)) ρ := by
  rw [lc_nat p (fun n => .int (F n : Nat)) ns h]
  unfold nl
  rw [List.map_map]
  rfl
theorem lc_natF {ρ : Rho} {tg : Dt → Rho → Option Rho} {ct : Rho → R Bool} {el : Rho → R Dt} {vs : List Nat} (p : Nat → Bool) (ns : List Nat) (h : ∀ n ∈ ns, ∃ ρ1, tg (.int (n : Nat)) ρ = some ρ1 ∧ ct ρ1 = .ok (p n) ρ1 ∧ (p n = true → el ρ1 = .ok (.int (n : Nat)) ρ1) ∧ wipeR ρ1 vs = ρ) : lcL tg ct el vs (nl ns) ρ = .ok (nl (ns.filter p)) ρ := by
  rw [lc_natN p (fun n => n) ns h, List.map_id']
theorem lc_natM {ρ : Rho} {tg : Dt → Rho → Option Rho} {el : Rho → R Dt} {vs : List Nat} (F : Nat → Nat) (ns : List Nat) (h : ∀ n ∈ ns, ∃ ρ1, tg (.int (n : Nat)) ρ = some ρ1 ∧ el ρ1 = .ok (.int (F n : Nat)) ρ1 ∧ wipeR ρ1 vs = ρ) : lcL tg yesT el vs (nl ns) ρ = .ok (nl (ns.map F)) ρ := by
  rw [lc_natN (fun _ => true) F ns fun n hn => by
    obtain ⟨ρ1, h1, h2, h3⟩ := h n hn
    exact ⟨ρ1, h1, rfl, fun _ => h2, h3⟩, List.filter_eq_self.mpr fun _ _ => rfl]
end
end PL
namespace PL
open PySem DW
open L2 (Key)
/-! ### loops -/
section
variable {α : Type} {tg : Dt → Rho → Option Rho} {bd : Rho → SR} {ρ ρ1 : Rho} {d : Dt}
def fb1 (bd : Rho → SR) (o : Option Rho) : SR := match o with
  | some ρ => bd ρ
  | none => .bad
def fb (tg : Dt → Rho → Option Rho) (bd : Rho → SR) (d : Dt) (ρ : Rho) : SR := fb1 bd (tg d ρ)
theorem x_fb : fb tg bd d ρ = fb1 bd (tg d ρ) := rfl
theorem x_fb1 : fb1 bd (some ρ) = bd ρ := rfl
theorem forL_cons {ds : List Dt} {ρ' : Rho} (h : fb tg bd d ρ = .nx ρ') : forL tg bd (d :: ds) ρ = forL tg bd ds ρ' := by
  unfold fb fb1 at h
  simp only [forL]
  cases e : tg d ρ with
  | none => rw [e] at h; cases h
  | some ρ1 =>
    rw [e] at h
    dsimp only at h ⊢
    rw [h]
theorem for_ind (F : α → Dt) (P : Nat → Rho → Prop) : ∀ (xs : List α) (j : Nat) (ρ : Rho), (∀ i x ρ, xs[i]? = some x → P (j + i) ρ → ∃ ρ', fb tg bd (F x) ρ = .nx ρ' ∧ P (j + i + 1) ρ') → P j ρ → ∃ ρ', forL tg bd (xs.map F) ρ = .nx ρ' ∧ P (j + xs.length) ρ'
  | [], j, ρ, _, h => ⟨ρ, rfl, h⟩
  | x :: xs, j, ρ, hs, h => by
    obtain ⟨ρ2, h2, h3⟩ := hs 0 x ρ rfl h
    obtain ⟨ρ', q1, q2⟩ := for_ind F P xs (j + 1) ρ2 (fun i d ρ hd hI => by
      have := hs (i + 1) d ρ (by simpa using hd) (by rw [show j + (i + 1) = j + 1 + i by omega]; exact hI)
      rwa [show j + (i + 1) + 1 = j + 1 + i + 1 by omega] at this) h3
    refine ⟨ρ', ?_, ?_⟩
    · rw [List.map_cons, forL_cons h2]; exact q1
    · rw [List.length_cons, show j + (xs.length + 1) = j + 1 + xs.length by omega]
      exact q2
/-- a for whose turns keep P, none of which returns -/
theorem for_P {F : α → Dt} (P : Nat → Rho → Prop) {xs : List α} {ρ : Rho} (h0 : P 0 ρ) (hs : ∀ i x ρ, xs[i]? = some x → P i ρ → ∃ ρ', fb tg bd (F x) ρ = .nx ρ' ∧ P (i + 1) ρ') : ∃ ρ', forL tg bd (xs.map F) ρ = .nx ρ' ∧ P xs.length ρ' := by
  have := for_ind (tg := tg) (bd := bd) F P xs 0 ρ (fun i x ρ hx hI => by rw [Nat.zero_add] at hI ⊢; exact hs i x ρ hx hI) h0
  rwa [Nat.zero_add] at this
theorem for_nl (P : Nat → Rho → Prop) {ns : List Nat} {ρ : Rho} (h0 : P 0 ρ) (hs : ∀ i x ρ, ns[i]? = some x → P i ρ → ∃ ρ', fb tg bd (.int (x : Nat)) ρ = .nx ρ' ∧ P (i + 1) ρ') : ∃ ρ', forL tg bd (nl ns) ρ = .nx ρ' ∧ P ns.length ρ' := for_P (F := fun n : Nat => Dt.int (n : Nat)) P h0 hs
/-- a for as a fold over a state -/
theorem for_fold {σ : Type} {F : α → Dt} (enc : σ → Rho) (step : σ → α → σ) (Inv : σ → Prop) : ∀ {xs : List α} {s : σ}, Inv s → (∀ s x, x ∈ xs → Inv s → fb tg bd (F x) (enc s) = .nx (enc (step s x)) ∧ Inv (step s x)) → forL tg bd (xs.map F) (enc s) = .nx (enc (xs.foldl step s)) ∧ Inv (xs.foldl step s)
  | [], s, hi, _ => ⟨rfl, hi⟩
  | x :: xs, s, hi, hs => by
    obtain ⟨h1, h2⟩ := hs s x (List.mem_cons_self ..) hi
    rw [List.map_cons, forL_cons h1]
    exact for_fold enc step Inv h2 fun s y hy hi => hs s y (List.mem_cons_of_mem _ hy) hi
end
/-! ### comprehensions over any things -/
section
variable {α : Type} {ρ : Rho} {tg : Dt → Rho → Option Rho} {ct : Rho → R Bool} {el : Rho → R Dt} {vs : List Nat}
theorem lc_any {F : α → Dt} (p : α → Bool) (G : α → Dt) : ∀ (xs : List α), (∀ x ∈ xs, ∃ ρ1, tg (F x) ρ = some ρ1 ∧ ct ρ1 = .ok (p x) ρ1 ∧ (p x = true → el ρ1 = .ok (G x) ρ1) ∧ wipeR ρ1 vs = ρ) → lcL tg ct el vs (xs.map F) ρ = .ok ((xs.filter p).map G) ρ
  | [], _ => rfl
  | x :: xs, h => by
    obtain ⟨ρ1, h1, h2, h3, h4⟩ := h x (List.mem_cons_self ..)
    have ih := lc_any p G xs fun y hy => h y (List.mem_cons_of_mem _ hy)
    rw [List.map_cons]
    simp only [lcL, h1, h2, R.bind]
    cases e : p x with
    | true =>
      rw [if_pos rfl, List.filter_cons_of_pos e, h3 e]
      simp only [h4, ih, List.map_cons]
    | false =>
      rw [if_neg Bool.false_ne_true, List.filter_cons_of_neg (by rw [e]; exact Bool.false_ne_true)]
      simp only [h4, ih]
end
end PL
namespace PL
open PySem DW
theorem nl_last {ns : List Nat} {n : Nat} : ixD (.lst (nl (ns ++ [n]))) (.int (-((1 : Nat) : Int))) = some (.int (n : Nat)) := by
  show L2.atI (nl (ns ++ [n])) _ = _
  unfold L2.atI L2.ixN
  rw [if_neg (by omega), nl_len, List.length_append, List.length_singleton, if_pos (by omega)]
  show (nl (ns ++ [n]))[((-((1 : Nat) : Int)) + ((ns.length + 1 : Nat) : Int)).toNat]? = _
  rw [show ((-((1 : Nat) : Int)) + ((ns.length + 1 : Nat) : Int)).toNat = ns.length by omega, nl_get, List.getElem?_append_right (Nat.le_refl _), Nat.sub_self]
  rfl
end PL
namespace PL
open PySem DW
theorem l_eq00 : eqD (.lst []) (.lst []) = some (.bl true) := rfl
theorem l_ne00 : neD (.lst []) (.lst []) = some (.bl false) := rfl
theorem l_eq01 {ns : List Nat} : eqD (.lst []) (.lst (nl ns)) = some (.bl (decide ([] = ns))) := l_eq (ns := [])
theorem l_ne01 {ns : List Nat} : neD (.lst []) (.lst (nl ns)) = some (.bl (!decide ([] = ns))) := l_ne (ns := [])
end PL
namespace PL
open PySem DW
theorem l_lenS (ns : List Int) : lenD (.scr ns) = some (.int (ns.length : Nat)) := rfl
end PL
namespace PL
open PySem DW
open L2 (Key)
/-! ### dicts whose keys are natural numbers, all with True -/
section
variable {ρ : Rho} {it : Rho → R (List Dt)} {tg : Dt → Rho → Option Rho} {c1 : Rho → R Bool} {f1 f2 : Rho → R Dt} {vs : List Nat} {ds : List Dt} {kvs : List (Key × Dt)}
def ODof (r : R (List (Key × Dt))) : R Sl := match r with
  | .ok ds ρ => .ok (.od ds) ρ
  | _ => .bad
theorem x_ODof : ODof (.ok kvs ρ) = .ok (.od kvs) ρ := rfl
def dc2 (b : Bool) (tg : Dt → Rho → Option Rho) (c : Rho → R Bool) (e e' : Rho → R Dt) (vs : List Nat) (xs : List Dt) (ρ : Rho) : R Sl := if b = true then ODof (dcL tg c e e' vs xs (wipeR ρ vs) []) else .bad
def dc1 (tg : Dt → Rho → Option Rho) (c : Rho → R Bool) (e e' : Rho → R Dt) (vs : List Nat) (r : R (List Dt)) : R Sl := match r with
  | .ok xs ρ => dc2 (okW vs ρ && decide (xs.length ≤ 1000000)) tg c e e' vs xs ρ
  | .ex x ρ => .ex x ρ
  | .bad => .bad
theorem x_dc2 : dc2 true tg c1 f1 f2 vs ds ρ = ODof (dcL tg c1 f1 f2 vs ds (wipeR ρ vs) []) := rfl
theorem x_dc1 : dc1 tg c1 f1 f2 vs (.ok ds ρ) = dc2 (okW vs ρ && decide (ds.length ≤ 1000000)) tg c1 f1 f2 vs ds ρ := rfl
theorem x_dcO : dcO it tg c1 f1 f2 vs ρ = dc1 tg c1 f1 f2 vs (it ρ) := by
  unfold dcO
  cases it ρ with
  | ok xs ρ1 =>
    simp only [R.bind, dc1, dc2, Bool.and_eq_true, decide_eq_true_eq]
    split
    · cases dcL tg c1 f1 f2 vs xs (wipeR ρ1 vs) [] <;> rfl
    · rfl
  | _ => rfl
def tk (ks : List Nat) : List (Key × Dt) := ks.map fun x => (.inl ((x : Nat) : Int), .bl true)
def insN (ks : List Nat) (x : Nat) : List Nat := if x ∈ ks then ks else ks ++ [x]
def mrg (ks ms : List Nat) : List Nat := ms.foldl insN ks
theorem tk_len (ks : List Nat) : (tk ks).length = ks.length := List.length_map _
theorem tk_nil : tk [] = [] := rfl
theorem tk_any (ks : List Nat) (x : Nat) : ((tk ks).any fun kv => decide (kv.1 = (.inl ((x : Nat) : Int) : Key))) = decide (x ∈ ks) := by
  induction ks with
  | nil => rfl
  | cons k ks ih =>
    show (decide ((.inl ((k : Nat) : Int) : Key) = .inl ((x : Nat) : Int)) || (tk ks).any _) = _
    rw [ih]
    by_cases h : x = k
    · subst h; simp
    · have : ¬ ((.inl ((k : Nat) : Int) : Key) = .inl ((x : Nat) : Int)) := fun z => h (by have := Sum.inl.inj z; omega)
      simp [this, h]
theorem tk_get (ks : List Nat) (x : Nat) : (getK (tk ks) (.inl ((x : Nat) : Int))).isSome = decide (x ∈ ks) := by
  rw [← tk_any]
  unfold getK
  generalize tk ks = l
  induction l with
  | nil => rfl
  | cons a l ih =>
    rw [List.find?_cons, List.any_cons]
    cases decide (a.1 = (.inl ((x : Nat) : Int) : Key)) with
    | true => rfl
    | false => rw [Bool.false_or]; exact ih
theorem tk_put (ks : List Nat) (x : Nat) : putKD (tk ks) (.inl ((x : Nat) : Int)) (.bl true) = tk (insN ks x) := by
  unfold putKD insN
  rw [tk_any]
  by_cases h : x ∈ ks
  · rw [if_pos (decide_eq_true h), if_pos h]
    unfold tk
    rw [List.map_map]
    refine List.map_congr_left fun k _ => ?_
    show (if (.inl ((k : Nat) : Int) : Key) = .inl ((x : Nat) : Int) then ((.inl ((k : Nat) : Int) : Key), Dt.bl true) else (.inl ((k : Nat) : Int), .bl true)) = _
    split <;> rfl
  · rw [if_neg (by rw [decide_eq_false h]; exact Bool.false_ne_true), if_neg h]
    unfold tk
    rw [List.map_append]
    rfl
theorem tk_merge (ms : List Nat) : ∀ ks : List Nat, mergeD (tk ks) (tk ms) = tk (mrg ks ms) := by
  induction ms with
  | nil => intro ks; rfl
  | cons m ms ih =>
    intro ks
    show mergeD (putKD (tk ks) (.inl ((m : Nat) : Int)) (.bl true)) (tk ms) = tk (mrg (insN ks m) ms)
    rw [tk_put, ih]
theorem l_nin_tk {x : Nat} {ks : List Nat} : ninD (.int (x : Nat)) (.dct (tk ks)) = some (.bl (!decide (x ∈ ks))) := by
  show some (Dt.bl (!(getK (tk ks) (.inl ((x : Nat) : Int))).isSome)) = _
  rw [tk_get]
theorem l_in_tk {x : Nat} {ks : List Nat} : inD (.int (x : Nat)) (.dct (tk ks)) = some (.bl (decide (x ∈ ks))) := by
  show some (Dt.bl (getK (tk ks) (.inl ((x : Nat) : Int))).isSome) = _
  rw [tk_get]
theorem dc_tk {ek ev : Rho → R Dt} {vs : List Nat} : ∀ (ns acc : List Nat), (∀ n ∈ ns, ∃ ρ1, tg (.int (n : Nat)) ρ = some ρ1 ∧ ek ρ1 = .ok (.int (n : Nat)) ρ1 ∧ ev ρ1 = .ok (.bl true) ρ1 ∧ wipeR ρ1 vs = ρ) → dcL tg yesT ek ev vs (nl ns) ρ (tk acc) = .ok (tk (mrg acc ns)) ρ
  | [], acc, _ => rfl
  | n :: ns, acc, h => by
    obtain ⟨ρ1, h1, h2, h3, h4⟩ := h n (List.mem_cons_self ..)
    rw [nl_cons]
    simp only [dcL, h1, yesT, R.bind, h2, h3, if_true, keyD, h4]
    rw [tk_put, dc_tk ns _ fun m hm => h m (List.mem_cons_of_mem _ hm)]
    rfl
theorem mem_insN {ks : List Nat} {x y : Nat} : y ∈ insN ks x ↔ y ∈ ks ∨ y = x := by
  unfold insN
  split
  · rename_i h
    constructor
    · exact fun z => .inl z
    · rintro (z | rfl)
      · exact z
      · exact h
  · rw [List.mem_append, List.mem_singleton]
theorem mem_mrg {ms : List Nat} : ∀ {ks : List Nat} {y : Nat}, y ∈ mrg ks ms ↔ y ∈ ks ∨ y ∈ ms := by
  induction ms with
  | nil => intro ks y; simp [mrg]
  | cons m ms ih =>
    intro ks y
    show y ∈ mrg (insN ks m) ms ↔ _
    rw [ih, mem_insN, List.mem_cons]
    constructor
    · rintro ((h | h) | h)
      · exact .inl h
      · exact .inr (.inl h)
      · exact .inr (.inr h)
    · rintro (h | h | h)
      · exact .inl (.inl h)
      · exact .inl (.inr h)
      · exact .inr h
theorem insN_nodup {ks : List Nat} {x : Nat} (h : ks.Nodup) : (insN ks x).Nodup := by
  unfold insN
  split
  · exact h
  · rename_i hx
    rw [List.nodup_append]
    refine ⟨h, by simp, fun a ha c hc => ?_⟩
    rw [List.mem_singleton] at hc
    subst hc
    exact fun z => hx (z ▸ ha)
theorem mrg_nodup {ms : List Nat} : ∀ {ks : List Nat}, ks.Nodup → (mrg ks ms).Nodup := by
  induction ms with
  | nil => exact fun h => h
  | cons m ms ih => exact fun h => ih (insN_nodup h)
theorem pairs_tk (ns : List Nat) : dictD (.lst (ns.map fun n => Dt.tup [.int (n : Nat), .bl true])) = some (.dct (tk (mrg [] ns))) := by
  unfold dictD
  dsimp only
  have : pairsD (ns.map fun n => Dt.tup [.int (n : Nat), .bl true]) = some (tk ns) := by
    induction ns with
    | nil => rfl
    | cons n ns ih =>
      rw [List.map_cons]
      unfold pairsD
      rw [ih]
      rfl
  rw [this, ← tk_merge]
  rfl
theorem l_min {ns : List Nat} {x : Nat} (h1 : x ∈ ns) (h2 : ∀ y ∈ ns, x ≤ y) : minD (.lst (nl ns)) = some (.int (x : Nat)) := by
  have key : ∀ (l : List Nat) (m : Nat), (x = m ∨ x ∈ l) → x ≤ m → (∀ y ∈ l, x ≤ y) → minL (m : Nat) (l.map fun n => ((n : Nat) : Int)) = (x : Nat) := by
    intro l
    induction l with
    | nil =>
      intro m h _ _
      rcases h with h | h
      · subst h; rfl
      · cases h
    | cons a l ih =>
      intro m h hm hl
      show minL (if ((a : Nat) : Int) < (m : Nat) then ((a : Nat) : Int) else (m : Nat)) (l.map _) = _
      have ha := hl a (List.mem_cons_self ..)
      have hl' := fun y hy => hl y (List.mem_cons_of_mem _ hy)
      split
      · refine ih a ?_ ha hl'
        rcases h with h | h
        · omega
        · exact List.mem_cons.mp h
      · refine ih m ?_ hm hl'
        rcases h with h | h
        · exact .inl h
        · rcases List.mem_cons.mp h with h | h
          · exact .inl (by omega)
          · exact .inr h
  cases ns with
  | nil => cases h1
  | cons n ns =>
    unfold minD
    dsimp only
    have e : nl (n :: ns) = ((n :: ns).map fun n => ((n : Nat) : Int)).map Dt.int := by unfold nl; rw [List.map_map]; rfl
    rw [e, intsOf_map]
    show some (Dt.int (minL (n : Nat) (ns.map fun n => ((n : Nat) : Int)))) = _
    rw [key ns n (List.mem_cons.mp h1) (h2 n (List.mem_cons_self ..)) fun y hy => h2 y (List.mem_cons_of_mem _ hy)]
end
end PL

set_option Elab.async false
set_option linter.all false
set_option autoImplicit false
set_option maxRecDepth 100000
set_option maxHeartbeats 4000000
/-! P4: loops met in a goal; more comprehensions -/
namespace PL
open PySem DW
open L2 (Key)
section
variable {α : Type} {tg : Dt → Rho → Option Rho} {bd k : Rho → SR} {c : Rho → R Bool} {ρ : Rho} {ns : List Nat} {F : α → Dt} {xs : List α}
theorem rt_for {X : FR} (P : Nat → Rho → Prop) (h0 : P 0 ρ) (hs : ∀ i x ρ, ns[i]? = some x → P i ρ → ∃ ρ', fb tg bd (.int (x : Nat)) ρ = .nx ρ' ∧ P (i + 1) ρ') (hk : ∀ ρ', P ns.length ρ' → RTof (k ρ') = X) : RTof (SB (forL tg bd (nl ns) ρ) k) = X := by
  obtain ⟨ρ', h1, h2⟩ := for_nl P h0 hs
  rw [h1]
  exact hk ρ' h2
theorem rm_for {X : FM} (P : Nat → Rho → Prop) (h0 : P 0 ρ) (hs : ∀ i x ρ, ns[i]? = some x → P i ρ → ∃ ρ', fb tg bd (.int (x : Nat)) ρ = .nx ρ' ∧ P (i + 1) ρ') (hk : ∀ ρ', P ns.length ρ' → RMof (k ρ') = X) : RMof (SB (forL tg bd (nl ns) ρ) k) = X := by
  obtain ⟨ρ', h1, h2⟩ := for_nl P h0 hs
  rw [h1]
  exact hk ρ' h2
theorem sb_for {X : SR} (P : Nat → Rho → Prop) (h0 : P 0 ρ) (hs : ∀ i x ρ, ns[i]? = some x → P i ρ → ∃ ρ', fb tg bd (.int (x : Nat)) ρ = .nx ρ' ∧ P (i + 1) ρ') (hk : ∀ ρ', P ns.length ρ' → k ρ' = X) : SB (forL tg bd (nl ns) ρ) k = X := by
  obtain ⟨ρ', h1, h2⟩ := for_nl P h0 hs
  rw [h1]
  exact hk ρ' h2
theorem rt_forA {X : FR} (P : Nat → Rho → Prop) (h0 : P 0 ρ) (hs : ∀ i x ρ, xs[i]? = some x → P i ρ → ∃ ρ', fb tg bd (F x) ρ = .nx ρ' ∧ P (i + 1) ρ') (hk : ∀ ρ', P xs.length ρ' → RTof (k ρ') = X) : RTof (SB (forL tg bd (xs.map F) ρ) k) = X := by
  obtain ⟨ρ', h1, h2⟩ := for_P (F := F) P h0 hs
  rw [h1]
  exact hk ρ' h2
theorem rm_forA {X : FM} (P : Nat → Rho → Prop) (h0 : P 0 ρ) (hs : ∀ i x ρ, xs[i]? = some x → P i ρ → ∃ ρ', fb tg bd (F x) ρ = .nx ρ' ∧ P (i + 1) ρ') (hk : ∀ ρ', P xs.length ρ' → RMof (k ρ') = X) : RMof (SB (forL tg bd (xs.map F) ρ) k) = X := by
  obtain ⟨ρ', h1, h2⟩ := for_P (F := F) P h0 hs
  rw [h1]
  exact hk ρ' h2
theorem sb_forA {X : SR} (P : Nat → Rho → Prop) (h0 : P 0 ρ) (hs : ∀ i x ρ, xs[i]? = some x → P i ρ → ∃ ρ', fb tg bd (F x) ρ = .nx ρ' ∧ P (i + 1) ρ') (hk : ∀ ρ', P xs.length ρ' → k ρ' = X) : SB (forL tg bd (xs.map F) ρ) k = X := by
  obtain ⟨ρ', h1, h2⟩ := for_P (F := F) P h0 hs
  rw [h1]
  exact hk ρ' h2
theorem wh_P (P : Nat → Rho → Prop) (Q : Rho → Prop) (hs : ∀ q ρ, P q ρ → (∃ ρ1, c ρ = .ok false ρ1 ∧ Q ρ1) ∨ ∃ q' ρ1 ρ2, c ρ = .ok true ρ1 ∧ bd ρ1 = .nx ρ2 ∧ P q' ρ2 ∧ q' < q) : ∀ (fuel q : Nat) (ρ : Rho), P q ρ → q < fuel → ∃ ρ', whS c bd fuel ρ = .nx ρ' ∧ Q ρ'
  | 0, q, ρ, _, h => absurd h (Nat.not_lt_zero _)
  | n + 1, q, ρ, hp, hq => by
    rcases hs q ρ hp with ⟨ρ1, h1, h2⟩ | ⟨q', ρ1, ρ2, h1, h2, h3, h4⟩
    · exact ⟨ρ1, by rw [x_wh, h1, x_wh1f], h2⟩
    · obtain ⟨ρ', h5, h6⟩ := wh_P P Q hs n q' ρ2 h3 (by omega)
      exact ⟨ρ', by rw [x_wh, h1, x_wh1t, h2, x_wh2n, h5], h6⟩
theorem rt_wh {X : FR} {fuel : Nat} (P : Nat → Rho → Prop) (Q : Rho → Prop) (q : Nat) (h0 : P q ρ) (hq : q < fuel) (hs : ∀ q ρ, P q ρ → (∃ ρ1, c ρ = .ok false ρ1 ∧ Q ρ1) ∨ ∃ q' ρ1 ρ2, c ρ = .ok true ρ1 ∧ bd ρ1 = .nx ρ2 ∧ P q' ρ2 ∧ q' < q) (hk : ∀ ρ', Q ρ' → RTof (k ρ') = X) : RTof (SB (whS c bd fuel ρ) k) = X := by
  obtain ⟨ρ', h1, h2⟩ := wh_P P Q hs fuel q ρ h0 hq
  rw [h1]
  exact hk ρ' h2
theorem rm_wh {X : FM} {fuel : Nat} (P : Nat → Rho → Prop) (Q : Rho → Prop) (q : Nat) (h0 : P q ρ) (hq : q < fuel) (hs : ∀ q ρ, P q ρ → (∃ ρ1, c ρ = .ok false ρ1 ∧ Q ρ1) ∨ ∃ q' ρ1 ρ2, c ρ = .ok true ρ1 ∧ bd ρ1 = .nx ρ2 ∧ P q' ρ2 ∧ q' < q) (hk : ∀ ρ', Q ρ' → RMof (k ρ') = X) : RMof (SB (whS c bd fuel ρ) k) = X := by
  obtain ⟨ρ', h1, h2⟩ := wh_P P Q hs fuel q ρ h0 hq
  rw [h1]
  exact hk ρ' h2
theorem sb_wh {X : SR} {fuel : Nat} (P : Nat → Rho → Prop) (Q : Rho → Prop) (q : Nat) (h0 : P q ρ) (hq : q < fuel) (hs : ∀ q ρ, P q ρ → (∃ ρ1, c ρ = .ok false ρ1 ∧ Q ρ1) ∨ ∃ q' ρ1 ρ2, c ρ = .ok true ρ1 ∧ bd ρ1 = .nx ρ2 ∧ P q' ρ2 ∧ q' < q) (hk : ∀ ρ', Q ρ' → k ρ' = X) : SB (whS c bd fuel ρ) k = X := by
  obtain ⟨ρ', h1, h2⟩ := wh_P P Q hs fuel q ρ h0 hq
  rw [h1]
  exact hk ρ' h2
end
section
variable {ρ : Rho} {tg : Dt → Rho → Option Rho} {el ek ev : Rho → R Dt} {vs : List Nat}
theorem lc_natD (F : Nat → Dt) (ns : List Nat) (h : ∀ n ∈ ns, ∃ ρ1, tg (.int (n : Nat)) ρ = some ρ1 ∧ el ρ1 = .ok (F n) ρ1 ∧ wipeR ρ1 vs = ρ) : lcL tg yesT el vs (nl ns) ρ = .ok (ns.map F) ρ := by
  rw [lc_nat (fun _ => true) F ns fun n hn => by
    obtain ⟨ρ1, h1, h2, h3⟩ := h n hn
    exact ⟨ρ1, h1, rfl, fun _ => h2, h3⟩, List.filter_eq_self.mpr fun _ _ => rfl]
theorem dc_tk0 (ns : List Nat) (h : ∀ n ∈ ns, ∃ ρ1, tg (.int (n : Nat)) ρ = some ρ1 ∧ ek ρ1 = .ok (.int (n : Nat)) ρ1 ∧ ev ρ1 = .ok (.bl true) ρ1 ∧ wipeR ρ1 vs = ρ) : dcL tg yesT ek ev vs (nl ns) ρ [] = .ok (tk (mrg [] ns)) ρ := dc_tk ns [] h
theorem take_filter_range (p : Nat → Bool) : ∀ (n i x : Nat), ((List.range n).filter p)[i]? = some x → x < n ∧ p x = true ∧ ((List.range n).filter p).take i = (List.range x).filter p
  | 0, i, x, h => by simp at h
  | n + 1, i, x, h => by
    rw [List.range_succ, List.filter_append] at h ⊢
    by_cases hi : i < ((List.range n).filter p).length
    · rw [List.getElem?_append_left hi] at h
      obtain ⟨h1, h2, h3⟩ := take_filter_range p n i x h
      refine ⟨by omega, h2, ?_⟩
      rw [List.take_append_of_le_length (by omega), h3]
    · rw [List.getElem?_append_right (by omega)] at h
      by_cases hp : p n = true
      · rw [List.filter_cons_of_pos hp, List.filter_nil] at h ⊢
        have h1 : i - ((List.range n).filter p).length = 0 := by
          have := (List.getElem?_eq_some_iff.mp h).1
          simp at this
          omega
        rw [h1] at h
        have h2 : n = x := Option.some.inj h
        subst h2
        refine ⟨by omega, hp, ?_⟩
        rw [show i = ((List.range n).filter p).length by omega, List.take_left']
        rfl
      · rw [List.filter_cons_of_neg hp] at h
        simp at h
end
section
variable {α : Type} {xs : List α} {ns : List Nat}
theorem cut_nn (xs : List α) (i j : Nat) : cutD xs (some (i : Int)) (some (j : Int)) = (xs.drop i).take (j - i) := by
  unfold cutD
  rw [HT.sIx_nat, HT.sIx_nat]
  by_cases hi : i ≤ xs.length
  · rw [Nat.min_eq_left hi]
    by_cases hj : j ≤ xs.length
    · rw [Nat.min_eq_left hj]
    · rw [Nat.min_eq_right (by omega), List.take_of_length_le (by rw [List.length_drop]; omega), List.take_of_length_le (by rw [List.length_drop]; omega)]
  · have hi' : xs.length ≤ i := by omega
    rw [Nat.min_eq_right hi', List.drop_of_length_le (Nat.le_refl _), List.drop_of_length_le hi', List.take_nil, List.take_nil]
theorem cut_n0 (xs : List α) (i : Nat) : cutD xs (some (i : Int)) none = xs.drop i := by
  unfold cutD
  rw [HT.sIx_nat, HT.sIx_none]
  by_cases hi : i ≤ xs.length
  · rw [Nat.min_eq_left hi, List.take_of_length_le (by rw [List.length_drop]; omega)]
  · rw [Nat.min_eq_right (by omega), List.drop_of_length_le (Nat.le_refl _), List.drop_of_length_le (by omega), List.take_nil]
theorem cut_0n (xs : List α) (j : Nat) : cutD xs none (some (j : Int)) = xs.take j := by
  unfold cutD
  rw [HT.sIx_nat, HT.sIx_none, List.drop_zero, Nat.sub_zero]
  by_cases hj : j ≤ xs.length
  · rw [Nat.min_eq_left hj]
  · rw [Nat.min_eq_right (by omega), List.take_of_length_le (Nat.le_refl _), List.take_of_length_le (by omega)]
theorem l_slT (ds : List Dt) (lo hi : Option Int) : slD (.tup ds) lo hi = some (.tup (cutD ds lo hi)) := rfl
theorem l_slL (ds : List Dt) (lo hi : Option Int) : slD (.lst ds) lo hi = some (.lst (cutD ds lo hi)) := rfl
theorem nl_drop (i : Nat) : (nl ns).drop i = nl (ns.drop i) := by unfold nl; rw [List.map_drop]
theorem nl_take (i : Nat) : (nl ns).take i = nl (ns.take i) := by unfold nl; rw [List.map_take]
theorem l_rng3 {c K : Nat} (hK : 0 < K) (hc : c * K < 2 ^ 29) (hc1 : 0 < c) : rngD3 [.int (0 : Nat), .int (c * K : Nat), .int (K : Nat)] = some (nl ((List.range c).map fun i => i * K)) := by
  have h0 : 0 < c * K := Nat.mul_pos hc1 hK
  have h1 : K ≤ c * K := Nat.le_mul_of_pos_left _ hc1
  unfold rngD3
  dsimp only
  rw [if_pos ⟨by omega, by omega, by omega, by omega, by omega, by omega⟩, if_pos (by omega)]
  have e : ((((c * K : Nat) : Int) - ((0 : Nat) : Int) - 1) / (K : Int) + 1).toNat = c := by
    have e1 : ((c * K : Nat) : Int) - ((0 : Nat) : Int) - 1 = ((c * K - 1 : Nat) : Int) := by omega
    rw [e1]
    show ((((c * K - 1) / K : Nat) : Int) + 1).toNat = c
    have e2 : (c * K - 1) / K = c - 1 := by
      obtain ⟨d, rfl⟩ : ∃ d, c = d + 1 := ⟨c - 1, by omega⟩
      rw [Nat.succ_mul, show d * K + K - 1 = (K - 1) + K * d by rw [Nat.mul_comm d K]; omega, Nat.add_mul_div_left _ _ hK, Nat.div_eq_of_lt (by omega)]
      omega
    rw [e2]
    omega
  rw [e]
  unfold nl
  rw [List.map_map]
  congr 1
  refine List.map_congr_left fun i _ => ?_
  show Dt.int (((0 : Nat) : Int) + (i : Int) * (K : Int)) = Dt.int ((i * K : Nat) : Int)
  congr 1
  rw [n_mul]
  omega
end
section
variable {ρ : Rho} {fa : Rho → R (List Dt)} {gd : List Dt → Option (List Dt)} {k : List Dt → Dt} {ds : List Dt}
def rgl2 (k : List Dt → Dt) (o : Option (List Dt)) (ρ : Rho) : R Dt := match o with
  | some xs => few (decide (xs.length ≤ 1000000)) (k xs) ρ
  | none => .bad
def rgl1 (gd : List Dt → Option (List Dt)) (k : List Dt → Dt) (r : R (List Dt)) : R Dt := match r with
  | .ok ds ρ => rgl2 k (gd ds) ρ
  | .ex x ρ => .ex x ρ
  | .bad => .bad
theorem x_rgl2 : rgl2 k (some ds) ρ = few (decide (ds.length ≤ 1000000)) (k ds) ρ := rfl
theorem x_rgl1 : rgl1 gd k (.ok ds ρ) = rgl2 k (gd ds) ρ := rfl
theorem x_rgList : rgList gd fa ρ = rgl1 gd Dt.lst (fa ρ) := by
  unfold rgList
  cases fa ρ with
  | ok ds ρ1 =>
    dsimp only [R.bind, rgl1]
    cases gd ds with
    | none => rfl
    | some xs => simp only [rgl2, few, decide_eq_true_eq]
  | _ => rfl
theorem x_rgTup : rgTup gd fa ρ = rgl1 gd Dt.tup (fa ρ) := by
  unfold rgTup
  cases fa ρ with
  | ok ds ρ1 =>
    dsimp only [R.bind, rgl1]
    cases gd ds with
    | none => rfl
    | some xs => simp only [rgl2, few, decide_eq_true_eq]
  | _ => rfl
end
section
variable {α : Type} {tg : Dt → Rho → Option Rho} {bd k : Rho → SR} {ρ : Rho} {F : α → Dt} {xs : List α}
theorem forL_ret {d : Dt} {ds : List Dt} {s : Sl} {ρ' : Rho} (h : fb tg bd d ρ = .rt s ρ') : forL tg bd (d :: ds) ρ = .rt s ρ' := by
  unfold fb fb1 at h
  simp only [forL]
  cases e : tg d ρ with
  | none => rw [e] at h; cases h
  | some ρ1 =>
    rw [e] at h
    dsimp only at h ⊢
    rw [h]
/-- a for that returns at the first thing that fails -/
theorem for_all (P : Rho → Prop) (p : α → Bool) (s : Sl) : ∀ (xs : List α) (ρ : Rho), (∀ x ∈ xs, ∀ ρ, P ρ → (p x = true → ∃ ρ', fb tg bd (F x) ρ = .nx ρ' ∧ P ρ') ∧ (p x = false → ∃ ρ', fb tg bd (F x) ρ = .rt s ρ')) → P ρ →
    (xs.all p = true → ∃ ρ', forL tg bd (xs.map F) ρ = .nx ρ' ∧ P ρ') ∧ (xs.all p = false → ∃ ρ', forL tg bd (xs.map F) ρ = .rt s ρ')
  | [], ρ, _, h => ⟨fun _ => ⟨ρ, rfl, h⟩, fun z => Bool.noConfusion z⟩
  | x :: xs, ρ, hs, h => by
    obtain ⟨h1, h2⟩ := hs x (List.mem_cons_self ..) ρ h
    rw [List.all_cons, List.map_cons]
    cases e : p x with
    | false =>
      rw [Bool.false_and]
      refine ⟨fun z => Bool.noConfusion z, fun _ => ?_⟩
      obtain ⟨ρ', h3⟩ := h2 e
      exact ⟨ρ', forL_ret h3⟩
    | true =>
      rw [Bool.true_and]
      obtain ⟨ρ', h3, h4⟩ := h1 e
      rw [forL_cons h3]
      exact for_all P p s xs ρ' (fun y hy => hs y (List.mem_cons_of_mem _ hy)) h4
theorem rt_all {X : FR} {s : Sl} (P : Rho → Prop) (p : α → Bool) (h0 : P ρ) (hs : ∀ x ∈ xs, ∀ ρ, P ρ → (p x = true → ∃ ρ', fb tg bd (F x) ρ = .nx ρ' ∧ P ρ') ∧ (p x = false → ∃ ρ', fb tg bd (F x) ρ = .rt s ρ')) (hk : xs.all p = true → ∀ ρ', P ρ' → RTof (k ρ') = X) (hf : xs.all p = false → X = .ok s) : RTof (SB (forL tg bd (xs.map F) ρ) k) = X := by
  obtain ⟨h1, h2⟩ := for_all (tg := tg) (bd := bd) P p s xs ρ hs h0
  cases e : xs.all p with
  | true =>
    obtain ⟨ρ', h3, h4⟩ := h1 e
    rw [h3]
    exact hk e ρ' h4
  | false =>
    obtain ⟨ρ', h3⟩ := h2 e
    rw [h3, hf e]
    rfl
/-- a dict of numbers by numbers -/
def skv (S : Nat → Nat) (xs : List Nat) : List (Key × Dt) := xs.map fun x => (.inl ((x : Nat) : Int), .int (S x : Nat))
theorem skv_len (S : Nat → Nat) (xs : List Nat) : (skv S xs).length = xs.length := List.length_map _
theorem skv_put {S : Nat → Nat} {xs : List Nat} {x : Nat} (h : x ∉ xs) : putKD (skv S xs) (.inl ((x : Nat) : Int)) (.int (S x : Nat)) = skv S (xs ++ [x]) := by
  unfold putKD
  have : ((skv S xs).any fun kv => decide (kv.1 = (.inl ((x : Nat) : Int) : Key))) = false := by
    rw [List.any_eq_false]
    intro kv hk
    obtain ⟨y, hy, rfl⟩ := List.mem_map.mp hk
    rw [decide_eq_true_eq]
    intro z
    have := Sum.inl.inj z
    exact h ((show y = x by omega) ▸ hy)
  rw [this]
  show skv S xs ++ _ = _
  unfold skv
  rw [List.map_append]
  rfl
theorem skv_get {S : Nat → Nat} : ∀ {xs : List Nat} {x : Nat}, x ∈ xs → getK (skv S xs) (.inl ((x : Nat) : Int)) = some (.int (S x : Nat))
  | [], _, h => (List.not_mem_nil h).elim
  | y :: ys, x, h => by
    unfold getK skv
    rw [List.map_cons, List.find?_cons]
    by_cases e : y = x
    · subst e
      rw [decide_eq_true rfl]
      rfl
    · have : ¬ ((.inl ((y : Nat) : Int) : Key) = .inl ((x : Nat) : Int)) := fun z => e (by have := Sum.inl.inj z; omega)
      rw [decide_eq_false this]
      rcases List.mem_cons.mp h with h | h
      · exact absurd h.symm e
      · exact skv_get h
theorem ix_skv {S : Nat → Nat} {xs : List Nat} {x : Nat} (h : x ∈ xs) : ixD (.dct (skv S xs)) (.int (x : Nat)) = some (.int (S x : Nat)) := skv_get h
end
theorem forL_nil {tg : Dt → Rho → Option Rho} {bd : Rho → SR} {ρ : Rho} : forL tg bd [] ρ = .nx ρ := rfl
section
variable {ρ : Rho} {f1 f2 : Rho → R Dt} {d e : Dt} {kvs : List (Key × Dt)} {c : Int} {i : Nat} {g : Dt → Dt → Option Dt} {ok : Dt → Bool}
def gp3 (c : Int) (o : Option Dt) (e : Dt) (ρ : Rho) : R Dt := match o with
  | some d => Rof (getOr c d e) ρ
  | none => .bad
def gp2 (c : Int) (i : Nat) (r : R Dt) : R Dt := match r with
  | .ok e ρ => gp3 c (pk i ρ) e ρ
  | .ex x ρ => .ex x ρ
  | .bad => .bad
def gp1 (c : Int) (i : Nat) (o : Option Dt) (f2 : Rho → R Dt) (ρ : Rho) : R Dt := match o with
  | some (.dct _) => gp2 c i (f2 ρ)
  | _ => .bad
theorem x_gp3 : gp3 c (some d) e ρ = Rof (getOr c d e) ρ := rfl
theorem x_gp2 : gp2 c i (.ok e ρ) = gp3 c (pk i ρ) e ρ := rfl
theorem x_gp1 : gp1 c i (some (.dct kvs)) f2 ρ = gp2 c i (f2 ρ) := rfl
theorem x_getP : getP c i f2 ρ = gp1 c i (pk i ρ) f2 ρ := by
  unfold getP
  cases pk i ρ with
  | none => rfl
  | some d =>
    cases d with
    | dct k =>
      dsimp only [gp1]
      cases f2 ρ with
      | ok e ρ2 =>
        dsimp only [R.bind, gp2]
        cases pk i ρ2 with
        | none => rfl
        | some d2 => dsimp only [gp3, Rof]; cases getOr c d2 e <;> rfl
      | _ => rfl
    | _ => rfl
def mt2 (b : Bool) (g : Dt → Dt → Option Dt) (d : Dt) (f2 : Rho → R Dt) (ρ : Rho) : R Dt := if b = true then un1 (g d) (f2 ρ) else .bad
def mt1 (g : Dt → Dt → Option Dt) (ok : Dt → Bool) (f2 : Rho → R Dt) (r : R Dt) : R Dt := match r with
  | .ok d ρ => mt2 (ok d) g d f2 ρ
  | .ex x ρ => .ex x ρ
  | .bad => .bad
theorem x_mt2 : mt2 true g d f2 ρ = un1 (g d) (f2 ρ) := rfl
theorem x_mt1 : mt1 g ok f2 (.ok d ρ) = mt2 (ok d) g d f2 ρ := rfl
theorem x_meth1 : meth1 g ok f1 f2 ρ = mt1 g ok f2 (f1 ρ) := by
  unfold meth1
  cases f1 ρ with
  | ok d ρ1 =>
    dsimp only [R.bind, mt1, mt2]
    split
    · cases f2 ρ1 with
      | ok e ρ2 => dsimp only [un1, Rof]; cases g d e <;> rfl
      | _ => rfl
    · rfl
  | _ => rfl
theorem l_isL {xs : List Dt} : isLst (.lst xs) = true := rfl
end
section
variable {tg : Dt → Rho → Option Rho} {bd k : Rho → SR} {ρ : Rho} {ns : List Nat}
theorem rm_forE (G : FM → Prop) (P : Nat → Rho → Prop) (h0 : P 0 ρ) (hs : ∀ i x ρ, ns[i]? = some x → P i ρ → ∃ ρ', fb tg bd (.int (x : Nat)) ρ = .nx ρ' ∧ P (i + 1) ρ') (hk : ∀ ρ', P ns.length ρ' → G (RMof (k ρ'))) : G (RMof (SB (forL tg bd (nl ns) ρ) k)) := by
  obtain ⟨ρ', h1, h2⟩ := for_nl P h0 hs
  rw [h1]
  exact hk ρ' h2
theorem sb_forE (G : SR → Prop) (P : Nat → Rho → Prop) (h0 : P 0 ρ) (hs : ∀ i x ρ, ns[i]? = some x → P i ρ → ∃ ρ', fb tg bd (.int (x : Nat)) ρ = .nx ρ' ∧ P (i + 1) ρ') (hk : ∀ ρ', P ns.length ρ' → G (k ρ')) : G (SB (forL tg bd (nl ns) ρ) k) := by
  obtain ⟨ρ', h1, h2⟩ := for_nl P h0 hs
  rw [h1]
  exact hk ρ' h2
theorem sb_whE {c : Rho → R Bool} (G : SR → Prop) {fuel : Nat} (P : Nat → Rho → Prop) (Q : Rho → Prop) (q : Nat) (h0 : P q ρ) (hq : q < fuel) (hs : ∀ q ρ, P q ρ → (∃ ρ1, c ρ = .ok false ρ1 ∧ Q ρ1) ∨ ∃ q' ρ1 ρ2, c ρ = .ok true ρ1 ∧ bd ρ1 = .nx ρ2 ∧ P q' ρ2 ∧ q' < q) (hk : ∀ ρ', Q ρ' → G (k ρ')) : G (SB (whS c bd fuel ρ) k) := by
  obtain ⟨ρ', h1, h2⟩ := wh_P P Q hs fuel q ρ h0 hq
  rw [h1]
  exact hk ρ' h2
end
end PL

set_option Elab.async false
set_option linter.all false
set_option maxRecDepth 100000
set_option maxHeartbeats 4000000
/-! P5: reckoning with errors -/
namespace PL
open PySem DW
open L2 (Key)
section
variable {α β : Type} {ρ : Rho} {d : Dt} {ds : List Dt} {sl : Sl} {e : Xc} {f1 f2 : Rho → R Dt} {fa : Rho → R (List Dt)} {fb k s t : Rho → SR} {i : Nat} {mt : Str → Option Bool} {su : Xc → Option Dt} {c f : Str}
def XRof (r : FR) (ρ : Rho) : R Dt := match r with
  | .ok (.fr d) => .ok d ρ
  | .ex e => .ex e ρ
  | _ => .bad
theorem x_XRo : XRof (.ok (.fr d)) ρ = .ok d ρ := rfl
theorem x_XRe : XRof (.ex e) ρ = .ex e ρ := rfl
def calX (fn : Fn) (r : R (List Dt)) : R Dt := match r with
  | .ok ds ρ => XRof (fn ds) ρ
  | .ex x ρ => .ex x ρ
  | .bad => .bad
theorem x_calX {fn : Fn} : calX fn (.ok ds ρ) = XRof (fn ds) ρ := rfl
theorem x_calXe {fn : Fn} : calX fn (.ex e ρ) = .ex e ρ := rfl
theorem x_callX {fn : Fn} : callX fn fa ρ = calX fn (fa ρ) := by
  unfold callX
  cases fa ρ with
  | ok ds ρ1 =>
    dsimp only [R.bind, calX]
    cases fn ds with
    | ok s => cases s <;> rfl
    | _ => rfl
  | _ => rfl
def rai1 (c f : Str) (r : R Dt) : SR := match r with
  | .ok d ρ => .ex ⟨c, f, d⟩ ρ
  | .ex x ρ => .ex x ρ
  | .bad => .bad
theorem x_rai1 : rai1 c f (.ok d ρ) = .ex ⟨c, f, d⟩ ρ := rfl
theorem x_rai : raiseS c f f1 ρ = rai1 c f (f1 ρ) := by unfold raiseS; cases f1 ρ <;> rfl
def try3 (b : Bool) (d : Dt) (ρ : Rho) : SR := if b = true then .rt (.fr d) ρ else .bad
theorem x_try3 : try3 true d ρ = .rt (.fr d) ρ := rfl
def try2 (i : Nat) (m : Option Bool) (o : Option Dt) (e : Xc) (ρ : Rho) : SR := match m with
  | some true => (match o with
    | some d => try3 (decide (i < ρ.length)) d ρ
    | none => .bad)
  | some false => .ex e ρ
  | none => .bad
theorem x_try2 : try2 i (some true) (some d) e ρ = try3 (decide (i < ρ.length)) d ρ := rfl
theorem x_try2f {o : Option Dt} : try2 i (some false) o e ρ = .ex e ρ := rfl
def try1 (i : Nat) (mt : Str → Option Bool) (su : Xc → Option Dt) (r : SR) : SR := match r with
  | .ex e ρ => try2 i (mt e.cls) (su e) e ρ
  | r => r
theorem x_try1 : try1 i mt su (.ex e ρ) = try2 i (mt e.cls) (su e) e ρ := rfl
theorem x_try1r : try1 i mt su (.rt sl ρ) = .rt sl ρ := rfl
theorem x_try1n : try1 i mt su (.nx ρ) = .nx ρ := rfl
theorem x_tryR : tryR i fb mt su ρ = try1 i mt su (fb ρ) := by
  unfold tryR
  cases fb ρ with
  | ex e ρ1 =>
    show _ = try2 i (mt e.cls) (su e) e ρ1
    unfold try2
    dsimp only
    cases mt e.cls with
    | none => rfl
    | some b =>
      cases b with
      | false => rfl
      | true =>
        cases su e with
        | none => rfl
        | some d =>
          unfold try3
          by_cases h : i < ρ1.length
          · simp [h]
          · simp [h]
  | _ => rfl
theorem x_exu1 {g : α → Option β} : un1 g (.ex e ρ) = .ex e ρ := rfl
theorem x_exb1 {g : Dt → Dt → Option Dt} : bin1 g f2 (.ex e ρ) = .ex e ρ := rfl
theorem x_exc1 : cons1 fa (.ex e ρ) = .ex e ρ := rfl
theorem x_exc2 : cons2 d (.ex e ρ) = .ex e ρ := rfl
theorem x_exm1 {k : List Dt → α} : mk1 k (.ex e ρ) = .ex e ρ := rfl
theorem x_exSB : SB (.ex e ρ) k = .ex e ρ := rfl
theorem x_exr1 : ret1 (.ex e ρ) = .ex e ρ := rfl
theorem x_exe1 : exp1 (.ex e ρ) = .ex e ρ := rfl
theorem x_exi1 : if1 (.ex e ρ) s t = .ex e ρ := rfl
theorem x_exRT : RTof (.ex e ρ) = .ex e := rfl
end
end PL

set_option Elab.async false
set_option linter.all false
set_option maxRecDepth 100000
set_option maxHeartbeats 4000000
namespace LAW
open PySem PySem.Spec PyProof.Rows L2 DW
def top (i : Nat) : Stmt := PySem.Challenge.pw_wheelnines_k45_whole_block_sums.main.body.getD i (.Pass ⟨0, 0, 0, 0⟩)
section
variable {P : Program} {w : World} {K : PySem.W.Frag} {mg : Str → Option Value} {base : Heap}
/-! ### power -/
abbrev st_power : Stmt := top 12
def b_power : Rho → SR := seqS (parP [2, 3, 4] [frO (cst (.int (1 : Nat))), frO (var 0), frO (var 1)]) (seqS (whS (tstF (bin gtD (var 4) (cst (.int (0 : Nat))))) (seqS (ifS (tstF (bin eqD (bin modD (var 4) (cst (.int (2 : Nat)))) (cst (.int (1 : Nat))))) (setS 2 (bin mulD (var 2) (pkF 3))) (skipS)) (seqS (setS 3 (bin mulD (var 3) (pkF 3))) (setS 4 (bin fdivD (var 4) (cst (.int (2 : Nat))))))) 1000000) (retS (var 2)))
def m_power : Fn := runF 2 5 b_power
theorem sc_power : FnScope ["base", "exponent", "found", "square", "left"] ["base", "exponent"] (defScope st_power) := ⟨rfl, rfl, rfl, by decide +kernel, rfl, by decide +kernel, by decide +kernel⟩
theorem p_power (D : IsDef K mg "power" st_power) : Has P w K mg base "power" ["base", "exponent"] m_power 1 := by
  have nd := sc_power.nd
  refine has0 (N := ["base", "exponent", "found", "square", "left"]) (ps := ["base", "exponent"]) (k := 0) (body := b_power) D sc_power (by decide) (fun _ _ _ _ _ _ us hl => match us, hl with | [_, _], _ => rfl) ?_
  intro f cdv A outer s H E hr hq hc
  exact ds_cons (ds_par3 (i := 2) (j := 3) (l := 4) rfl nd (by decide) (by decide) (by decide) (dps_cons (do_fr (de_int)) (dps_cons (do_fr (de_var 0)) (dps_cons (do_fr (de_var 1)) (dps_nil)))) (by rfl)) (ds_cons (ds_while 1000000 PassesOwn.never (dt_cmp (op_gt) (opd_cmp _ _) (nomark _) (de_var 4) (dk_of (de_int))) (ds_cons (ds_if (dt_cmp (opr_eq (u64 hr)) (opd_eq _) (nomark _) (de_mod (de_var 4) (dk_of (de_int))) (dk_of (de_int))) (ds_one (ds_set 2 nd (de_mul (de_var 2) (dk_var 3)))) (ds_nil)) (ds_cons (ds_set 3 nd (de_mul (de_var 3) (dk_var 3))) (ds_one (ds_set 4 nd (de_fdiv (de_var 4) (dk_of (de_int)))))))) (ds_one (ds_ret (de_var 2))))
/-! ### is_integer -/
abbrev st_is_integer : Stmt := top 8
def b_is_integer : Rho → SR := retS (andV (un (isiD .int) (pkF 0)) (un notD (un (isiD .bool) (pkF 0))))
def m_is_integer : Fn := runF 1 1 b_is_integer
theorem sc_is_integer : FnScope ["value"] ["value"] (defScope st_is_integer) := ⟨rfl, rfl, rfl, by decide +kernel, rfl, by decide +kernel, by decide +kernel⟩
theorem p_is_integer (D : IsDef K mg "is_integer" st_is_integer) (n_isinstance : mg "isinstance" = none) (n_bool : mg "bool" = none) (n_int : mg "int" = none) : Has P w K mg base "is_integer" ["value"] m_is_integer 1 := by
  have nd := sc_is_integer.nd
  refine has0 (N := ["value"]) (ps := ["value"]) (k := 0) (body := b_is_integer) D sc_is_integer (by decide) (fun _ _ _ _ _ _ us hl => match us, hl with | [_], _ => rfl) ?_
  intro f cdv A outer s H E hr hq hc
  exact ds_one (ds_ret (de_and (de_isi .int (by decide) rfl n_isinstance rfl n_int (by decide +kernel) (dk_var 0)) (de_one (de_not (dk_of (de_isi .bool (by decide) rfl n_isinstance rfl n_bool (by decide +kernel) (dk_var 0)))))))
/-! ### is_whole -/
abbrev st_is_whole : Stmt := top 9
def b_is_whole : Rho → SR := retS (andV (callF m_is_integer (consA (var 0) (nilA))) (chainD leD leD (var 1) (var 0) (var 2)))
def m_is_whole : Fn := runF 3 3 b_is_whole
theorem sc_is_whole : FnScope ["value", "least", "most"] ["value", "least", "most"] (defScope st_is_whole) := ⟨rfl, rfl, rfl, by decide +kernel, rfl, by decide +kernel, by decide +kernel⟩
theorem p_is_whole (D : IsDef K mg "is_whole" st_is_whole) (h_is_integer : Has P w K mg base "is_integer" ["value"] m_is_integer 1) : Has P w K mg base "is_whole" ["value", "least", "most"] m_is_whole 2 := by
  have nd := sc_is_whole.nd
  refine has0 (N := ["value", "least", "most"]) (ps := ["value", "least", "most"]) (k := 1) (body := b_is_whole) D sc_is_whole (by decide) (fun _ _ _ _ _ _ us hl => match us, hl with | [_, _, _], _ => rfl) ?_
  intro f cdv A outer s H E hr hq hc
  exact ds_one (ds_ret (de_and (de_h h_is_integer hr hq (by decide) rfl (da_cons (de_var 0) (da_nil))) (de_one (de_chain (op_le) (opd_cmp _ _) (op_le) (opd_cmp _ _) (de_var 1) (de_var 0) (de_var 2)))))
/-! ### need_between -/
abbrev st_need_between : Stmt := top 18
def b_need_between : Rho → SR := seqS (ifS (notT (truF (callF m_is_whole (consA (var 0) (consA (var 1) (consA (var 2) (nilA))))))) (badS) (skipS)) (retS (var 0))
def m_need_between : Fn := runF 3 3 b_need_between
theorem sc_need_between : FnScope ["value", "least", "most"] ["value", "least", "most"] (defScope st_need_between) := ⟨rfl, rfl, rfl, by decide +kernel, rfl, by decide +kernel, by decide +kernel⟩
theorem p_need_between (D : IsDef K mg "need_between" st_need_between) (h_is_whole : Has P w K mg base "is_whole" ["value", "least", "most"] m_is_whole 2) : Has P w K mg base "need_between" ["value", "least", "most"] m_need_between 3 := by
  have nd := sc_need_between.nd
  refine has0 (N := ["value", "least", "most"]) (ps := ["value", "least", "most"]) (k := 2) (body := b_need_between) D sc_need_between (by decide) (fun _ _ _ _ _ _ us hl => match us, hl with | [_, _, _], _ => rfl) ?_
  intro f cdv A outer s H E hr hq hc
  exact ds_cons (ds_if (dt_not (dt_tru (dk_of (de_h h_is_whole hr hq (by decide) rfl (da_cons (de_var 0) (da_cons (de_var 1) (da_cons (de_var 2) (da_nil)))))))) (ds_one (ds_never)) (ds_nil)) (ds_one (ds_ret (de_var 0)))
/-! ### need_weight -/
abbrev st_need_weight : Stmt := top 19
def b_need_weight : Rho → SR := retS (callF m_need_between (consA (var 0) (consA (bin subD (cst (.int (0 : Nat))) (cst (.int (1000 : Nat)))) (consA (cst (.int (1000 : Nat))) (nilA)))))
def m_need_weight : Fn := runF 1 1 b_need_weight
theorem sc_need_weight : FnScope ["value"] ["value"] (defScope st_need_weight) := ⟨rfl, rfl, rfl, by decide +kernel, rfl, by decide +kernel, by decide +kernel⟩
theorem p_need_weight (D : IsDef K mg "need_weight" st_need_weight) (h_need_between : Has P w K mg base "need_between" ["value", "least", "most"] m_need_between 3) (g_MOST_WEIGHT : ∃ t, mg "MOST_WEIGHT" = some (.int 1000 t)) : Has P w K mg base "need_weight" ["value"] m_need_weight 4 := by
  obtain ⟨_, g_MOST_WEIGHT⟩ := g_MOST_WEIGHT
  have nd := sc_need_weight.nd
  refine has0 (N := ["value"]) (ps := ["value"]) (k := 3) (body := b_need_weight) D sc_need_weight (by decide) (fun _ _ _ _ _ _ us hl => match us, hl with | [_], _ => rfl) ?_
  intro f cdv A outer s H E hr hq hc
  exact ds_one (ds_ret (de_h h_need_between hr hq (by decide) rfl (da_cons (de_var 0) (da_cons (de_sub (de_int) (dk_of (de_gi rfl g_MOST_WEIGHT))) (da_cons (de_gi rfl g_MOST_WEIGHT) (da_nil))))))
/-! ### need_base -/
abbrev st_need_base : Stmt := top 10
def b_need_base : Rho → SR := seqS (ifS (notT (truF (callF m_is_whole (consA (var 0) (consA (cst (.int (2 : Nat))) (consA (cst (.int (1000 : Nat))) (nilA))))))) (badS) (skipS)) (retS (var 0))
def m_need_base : Fn := runF 1 1 b_need_base
theorem sc_need_base : FnScope ["value"] ["value"] (defScope st_need_base) := ⟨rfl, rfl, rfl, by decide +kernel, rfl, by decide +kernel, by decide +kernel⟩
theorem p_need_base (D : IsDef K mg "need_base" st_need_base) (h_is_whole : Has P w K mg base "is_whole" ["value", "least", "most"] m_is_whole 2) (g_MOST_BASE : ∃ t, mg "MOST_BASE" = some (.int 1000 t)) : Has P w K mg base "need_base" ["value"] m_need_base 3 := by
  obtain ⟨_, g_MOST_BASE⟩ := g_MOST_BASE
  have nd := sc_need_base.nd
  refine has0 (N := ["value"]) (ps := ["value"]) (k := 2) (body := b_need_base) D sc_need_base (by decide) (fun _ _ _ _ _ _ us hl => match us, hl with | [_], _ => rfl) ?_
  intro f cdv A outer s H E hr hq hc
  exact ds_cons (ds_if (dt_not (dt_tru (dk_of (de_h h_is_whole hr hq (by decide) rfl (da_cons (de_var 0) (da_cons (de_int) (da_cons (de_gi rfl g_MOST_BASE) (da_nil)))))))) (ds_one (ds_never)) (ds_nil)) (ds_one (ds_ret (de_var 0)))
/-! ### block_sum -/
abbrev st_block_sum : Stmt := top 20
def b_block_sum : Rho → SR := seqS (setS 4 (callF m_power (consA (callF m_need_base (consA (var 0) (nilA))) (consA (callF m_need_between (consA (var 1) (consA (cst (.int (1 : Nat))) (consA (cst (.int (400 : Nat))) (nilA))))) (nilA))))) (seqS (exprS (callF m_need_weight (consA (var 2) (nilA)))) (seqS (parP [5, 6, 7] [frO (callF m_need_between (consA (var 3) (consA (cst (.int (0 : Nat))) (consA (cst (.int (1000000000000000000000000000000000000000000000000000000000000 : Nat))) (nilA))))), frO (cst (.int (1 : Nat))), frO (cst (.int (0 : Nat)))]) (seqS (whS (tstF (bin gtD (var 5) (cst (.int (0 : Nat))))) (seqS (setS 7 (bin addD (var 7) (bin mulD (var 6) (bin modD (var 5) (pkF 4))))) (seqS (setS 5 (bin fdivD (var 5) (pkF 4))) (setS 6 (bin mulD (var 6) (pkF 2))))) 1000000) (retS (var 7)))))
def m_block_sum : Fn := runF 4 8 b_block_sum
theorem sc_block_sum : FnScope ["base", "size", "weight", "number", "step", "left", "factor", "found"] ["base", "size", "weight", "number"] (defScope st_block_sum) := ⟨rfl, rfl, rfl, by decide +kernel, rfl, by decide +kernel, by decide +kernel⟩
theorem p_block_sum (D : IsDef K mg "block_sum" st_block_sum) (h_need_between : Has P w K mg base "need_between" ["value", "least", "most"] m_need_between 3) (h_need_weight : Has P w K mg base "need_weight" ["value"] m_need_weight 4) (h_need_base : Has P w K mg base "need_base" ["value"] m_need_base 3) (h_power : Has P w K mg base "power" ["base", "exponent"] m_power 1) (g_MOST_NUMBER : ∃ t, mg "MOST_NUMBER" = some (.int 1000000000000000000000000000000000000000000000000000000000000 t)) (g_MOST_SIZE : ∃ t, mg "MOST_SIZE" = some (.int 400 t)) : Has P w K mg base "block_sum" ["base", "size", "weight", "number"] m_block_sum 5 := by
  obtain ⟨_, g_MOST_NUMBER⟩ := g_MOST_NUMBER
  obtain ⟨_, g_MOST_SIZE⟩ := g_MOST_SIZE
  have nd := sc_block_sum.nd
  refine has0 (N := ["base", "size", "weight", "number", "step", "left", "factor", "found"]) (ps := ["base", "size", "weight", "number"]) (k := 4) (body := b_block_sum) D sc_block_sum (by decide) (fun _ _ _ _ _ _ us hl => match us, hl with | [_, _, _, _], _ => rfl) ?_
  intro f cdv A outer s H E hr hq hc
  exact ds_cons (ds_set 4 nd (de_h h_power hr hq (by decide) rfl (da_cons (de_h h_need_base hr hq (by decide) rfl (da_cons (de_var 0) (da_nil))) (da_cons (de_h h_need_between hr hq (by decide) rfl (da_cons (de_var 1) (da_cons (de_int) (da_cons (de_gi rfl g_MOST_SIZE) (da_nil))))) (da_nil))))) (ds_cons (ds_expr (de_h h_need_weight hr hq (by decide) rfl (da_cons (de_var 2) (da_nil)))) (ds_cons (ds_par3 (i := 5) (j := 6) (l := 7) rfl nd (by decide) (by decide) (by decide) (dps_cons (do_fr (de_h h_need_between hr hq (by decide) rfl (da_cons (de_var 3) (da_cons (de_int) (da_cons (de_gi rfl g_MOST_NUMBER) (da_nil)))))) (dps_cons (do_fr (de_int)) (dps_cons (do_fr (de_int)) (dps_nil)))) (by rfl)) (ds_cons (ds_while 1000000 PassesOwn.never (dt_cmp (op_gt) (opd_cmp _ _) (nomark _) (de_var 5) (dk_of (de_int))) (ds_cons (ds_set 7 nd (de_add (de_var 7) (dk_of (de_mul (de_var 6) (dk_of (de_mod (de_var 5) (dk_var 4))))))) (ds_cons (ds_set 5 nd (de_fdiv (de_var 5) (dk_var 4))) (ds_one (ds_set 6 nd (de_mul (de_var 6) (dk_var 2))))))) (ds_one (ds_ret (de_var 7))))))
/-! ### need_denominator -/
abbrev st_need_denominator : Stmt := top 11
def b_need_denominator : Rho → SR := seqS (ifS (notT (truF (callF m_is_whole (consA (var 0) (consA (cst (.int (1 : Nat))) (consA (cst (.int (5000 : Nat))) (nilA))))))) (badS) (skipS)) (retS (var 0))
def m_need_denominator : Fn := runF 1 1 b_need_denominator
theorem sc_need_denominator : FnScope ["value"] ["value"] (defScope st_need_denominator) := ⟨rfl, rfl, rfl, by decide +kernel, rfl, by decide +kernel, by decide +kernel⟩
theorem p_need_denominator (D : IsDef K mg "need_denominator" st_need_denominator) (h_is_whole : Has P w K mg base "is_whole" ["value", "least", "most"] m_is_whole 2) (g_MOST_DENOMINATOR : ∃ t, mg "MOST_DENOMINATOR" = some (.int 5000 t)) : Has P w K mg base "need_denominator" ["value"] m_need_denominator 3 := by
  obtain ⟨_, g_MOST_DENOMINATOR⟩ := g_MOST_DENOMINATOR
  have nd := sc_need_denominator.nd
  refine has0 (N := ["value"]) (ps := ["value"]) (k := 2) (body := b_need_denominator) D sc_need_denominator (by decide) (fun _ _ _ _ _ _ us hl => match us, hl with | [_], _ => rfl) ?_
  intro f cdv A outer s H E hr hq hc
  exact ds_cons (ds_if (dt_not (dt_tru (dk_of (de_h h_is_whole hr hq (by decide) rfl (da_cons (de_var 0) (da_cons (de_int) (da_cons (de_gi rfl g_MOST_DENOMINATOR) (da_nil)))))))) (ds_one (ds_never)) (ds_nil)) (ds_one (ds_ret (de_var 0)))
/-! ### power_rest -/
abbrev st_power_rest : Stmt := top 13
def b_power_rest : Rho → SR := seqS (parP [3, 4, 5] [frO (bin modD (cst (.int (1 : Nat))) (pkF 2)), frO (bin modD (var 0) (pkF 2)), frO (var 1)]) (seqS (whS (tstF (bin gtD (var 5) (cst (.int (0 : Nat))))) (seqS (ifS (tstF (bin eqD (bin modD (var 5) (cst (.int (2 : Nat)))) (cst (.int (1 : Nat))))) (setS 3 (bin modD (bin mulD (var 3) (pkF 4)) (pkF 2))) (skipS)) (seqS (setS 4 (bin modD (bin mulD (var 4) (pkF 4)) (pkF 2))) (setS 5 (bin fdivD (var 5) (cst (.int (2 : Nat))))))) 1000000) (retS (var 3)))
def m_power_rest : Fn := runF 3 6 b_power_rest
theorem sc_power_rest : FnScope ["base", "exponent", "divisor", "found", "square", "left"] ["base", "exponent", "divisor"] (defScope st_power_rest) := ⟨rfl, rfl, rfl, by decide +kernel, rfl, by decide +kernel, by decide +kernel⟩
theorem p_power_rest (D : IsDef K mg "power_rest" st_power_rest) : Has P w K mg base "power_rest" ["base", "exponent", "divisor"] m_power_rest 1 := by
  have nd := sc_power_rest.nd
  refine has0 (N := ["base", "exponent", "divisor", "found", "square", "left"]) (ps := ["base", "exponent", "divisor"]) (k := 0) (body := b_power_rest) D sc_power_rest (by decide) (fun _ _ _ _ _ _ us hl => match us, hl with | [_, _, _], _ => rfl) ?_
  intro f cdv A outer s H E hr hq hc
  exact ds_cons (ds_par3 (i := 3) (j := 4) (l := 5) rfl nd (by decide) (by decide) (by decide) (dps_cons (do_fr (de_mod (de_int) (dk_var 2))) (dps_cons (do_fr (de_mod (de_var 0) (dk_var 2))) (dps_cons (do_fr (de_var 1)) (dps_nil)))) (by rfl)) (ds_cons (ds_while 1000000 PassesOwn.never (dt_cmp (op_gt) (opd_cmp _ _) (nomark _) (de_var 5) (dk_of (de_int))) (ds_cons (ds_if (dt_cmp (opr_eq (u64 hr)) (opd_eq _) (nomark _) (de_mod (de_var 5) (dk_of (de_int))) (dk_of (de_int))) (ds_one (ds_set 3 nd (de_mod (de_mul (de_var 3) (dk_var 4)) (dk_var 2)))) (ds_nil)) (ds_cons (ds_set 4 nd (de_mod (de_mul (de_var 4) (dk_var 4)) (dk_var 2))) (ds_one (ds_set 5 nd (de_fdiv (de_var 5) (dk_of (de_int)))))))) (ds_one (ds_ret (de_var 3))))
/-! ### keeps_remainders -/
abbrev st_keeps_remainders : Stmt := top 21
def b_keeps_remainders : Rho → SR := seqS (exprS (callF m_need_base (consA (var 0) (nilA)))) (seqS (exprS (callF m_need_denominator (consA (var 1) (nilA)))) (seqS (exprS (callF m_need_between (consA (var 2) (consA (cst (.int (1 : Nat))) (consA (cst (.int (400 : Nat))) (nilA)))))) (retS (bin eqD (bin modD (bin subD (callF m_power_rest (consA (var 0) (consA (var 2) (consA (var 1) (nilA))))) (callF m_need_weight (consA (var 3) (nilA)))) (pkF 1)) (cst (.int (0 : Nat)))))))
def m_keeps_remainders : Fn := runF 4 4 b_keeps_remainders
theorem sc_keeps_remainders : FnScope ["base", "denominator", "size", "weight"] ["base", "denominator", "size", "weight"] (defScope st_keeps_remainders) := ⟨rfl, rfl, rfl, by decide +kernel, rfl, by decide +kernel, by decide +kernel⟩
theorem p_keeps_remainders (D : IsDef K mg "keeps_remainders" st_keeps_remainders) (h_need_weight : Has P w K mg base "need_weight" ["value"] m_need_weight 4) (h_power_rest : Has P w K mg base "power_rest" ["base", "exponent", "divisor"] m_power_rest 1) (h_need_between : Has P w K mg base "need_between" ["value", "least", "most"] m_need_between 3) (h_need_denominator : Has P w K mg base "need_denominator" ["value"] m_need_denominator 3) (h_need_base : Has P w K mg base "need_base" ["value"] m_need_base 3) (g_MOST_SIZE : ∃ t, mg "MOST_SIZE" = some (.int 400 t)) : Has P w K mg base "keeps_remainders" ["base", "denominator", "size", "weight"] m_keeps_remainders 5 := by
  obtain ⟨_, g_MOST_SIZE⟩ := g_MOST_SIZE
  have nd := sc_keeps_remainders.nd
  refine has0 (N := ["base", "denominator", "size", "weight"]) (ps := ["base", "denominator", "size", "weight"]) (k := 4) (body := b_keeps_remainders) D sc_keeps_remainders (by decide) (fun _ _ _ _ _ _ us hl => match us, hl with | [_, _, _, _], _ => rfl) ?_
  intro f cdv A outer s H E hr hq hc
  exact ds_cons (ds_expr (de_h h_need_base hr hq (by decide) rfl (da_cons (de_var 0) (da_nil)))) (ds_cons (ds_expr (de_h h_need_denominator hr hq (by decide) rfl (da_cons (de_var 1) (da_nil)))) (ds_cons (ds_expr (de_h h_need_between hr hq (by decide) rfl (da_cons (de_var 2) (da_cons (de_int) (da_cons (de_gi rfl g_MOST_SIZE) (da_nil)))))) (ds_one (ds_ret (de_cmp (opr_eq (u64 hr)) (opd_eq _) (nomark _) (de_mod (de_sub (de_h h_power_rest hr hq (by decide) rfl (da_cons (de_var 0) (da_cons (de_var 2) (da_cons (de_var 1) (da_nil))))) (dk_of (de_h h_need_weight hr hq (by decide) rfl (da_cons (de_var 3) (da_nil))))) (dk_var 1)) (dk_of (de_int)))))))
/-! ### _law_hand_right -/
abbrev st__law_hand_right : Stmt := top 29
def b__law_hand_right : Rho → SR := seqS (setOS 0 (lstO (consA (callF m_block_sum (consA (cst (.int (10 : Nat))) (consA (cst (.int (1 : Nat))) (consA (cst (.int (1 : Nat))) (consA (cst (.int (142857 : Nat))) (nilA)))))) (consA (callF m_block_sum (consA (cst (.int (10 : Nat))) (consA (cst (.int (1 : Nat))) (consA (un negD (cst (.int (1 : Nat)))) (consA (cst (.int (142857 : Nat))) (nilA)))))) (consA (callF m_block_sum (consA (cst (.int (10 : Nat))) (consA (cst (.int (3 : Nat))) (consA (un negD (cst (.int (1 : Nat)))) (consA (cst (.int (142857 : Nat))) (nilA)))))) (nilA)))))) (seqS (setOS 0 (catPO 0 (lstD (consA (callF m_block_sum (consA (cst (.int (10 : Nat))) (consA (cst (.int (1 : Nat))) (consA (cst (.int (2 : Nat))) (consA (cst (.int (123 : Nat))) (nilA)))))) (consA (callF m_block_sum (consA (cst (.int (10 : Nat))) (consA (cst (.int (2 : Nat))) (consA (un negD (cst (.int (3 : Nat)))) (consA (cst (.int (12345 : Nat))) (nilA)))))) (consA (callF m_block_sum (consA (cst (.int (10 : Nat))) (consA (cst (.int (1 : Nat))) (consA (cst (.int (0 : Nat))) (consA (cst (.int (129 : Nat))) (nilA)))))) (nilA))))))) (seqS (ifS (tstF (binP neD 0 (lstD (consA (cst (.int (27 : Nat))) (consA (cst (.int (11 : Nat))) (consA (cst (.int (715 : Nat))) (consA (cst (.int (11 : Nat))) (consA (un negD (cst (.int (15 : Nat)))) (consA (cst (.int (9 : Nat))) (nilA)))))))))) (retS (cst (.bl false))) (skipS)) (seqS (setS 1 (bin powD (cst (.int (10 : Nat))) (cst (.int (60 : Nat))))) (seqS (setOS 0 (lstO (consA (callF m_block_sum (consA (cst (.int (2 : Nat))) (consA (cst (.int (400 : Nat))) (consA (cst (.int (1000 : Nat))) (consA (var 1) (nilA)))))) (consA (callF m_block_sum (consA (cst (.int (10 : Nat))) (consA (cst (.int (60 : Nat))) (consA (cst (.int (7 : Nat))) (consA (var 1) (nilA)))))) (consA (callF m_block_sum (consA (cst (.int (7 : Nat))) (consA (cst (.int (1 : Nat))) (consA (cst (.int (5 : Nat))) (consA (cst (.int (0 : Nat))) (nilA)))))) (nilA)))))) (seqS (appS 0 (callF m_block_sum (consA (cst (.int (1000 : Nat))) (consA (cst (.int (1 : Nat))) (consA (cst (.int (1000 : Nat))) (consA (var 1) (nilA))))))) (seqS (ifS (orT (tstF (binP neD 0 (lstD (consA (var 1) (consA (cst (.int (7 : Nat))) (consA (cst (.int (0 : Nat))) (consA (var 1) (nilA)))))))) (tstF (bin neD (callF m_block_sum (consA (cst (.int (2 : Nat))) (consA (cst (.int (1 : Nat))) (consA (cst (.int (1 : Nat))) (consA (bin subD (bin powD (cst (.int (2 : Nat))) (cst (.int (60 : Nat)))) (cst (.int (1 : Nat)))) (nilA)))))) (cst (.int (60 : Nat)))))) (retS (cst (.bl false))) (skipS)) (seqS (setOS 0 (lstO (consA (callF m_keeps_remainders (consA (cst (.int (10 : Nat))) (consA (cst (.int (9 : Nat))) (consA (cst (.int (1 : Nat))) (consA (cst (.int (1 : Nat))) (nilA)))))) (consA (callF m_keeps_remainders (consA (cst (.int (10 : Nat))) (consA (cst (.int (11 : Nat))) (consA (cst (.int (1 : Nat))) (consA (un negD (cst (.int (1 : Nat)))) (nilA)))))) (consA (callF m_keeps_remainders (consA (cst (.int (10 : Nat))) (consA (cst (.int (7 : Nat))) (consA (cst (.int (3 : Nat))) (consA (un negD (cst (.int (1 : Nat)))) (nilA)))))) (nilA)))))) (seqS (setOS 0 (catPO 0 (lstD (consA (callF m_keeps_remainders (consA (cst (.int (10 : Nat))) (consA (cst (.int (7 : Nat))) (consA (cst (.int (1 : Nat))) (consA (cst (.int (1 : Nat))) (nilA)))))) (consA (callF m_keeps_remainders (consA (cst (.int (10 : Nat))) (consA (cst (.int (1001 : Nat))) (consA (cst (.int (3 : Nat))) (consA (un negD (cst (.int (1 : Nat)))) (nilA)))))) (consA (callF m_keeps_remainders (consA (cst (.int (10 : Nat))) (consA (cst (.int (8 : Nat))) (consA (cst (.int (3 : Nat))) (consA (cst (.int (0 : Nat))) (nilA)))))) (nilA))))))) (seqS (setOS 0 (catPO 0 (lstD (consA (callF m_keeps_remainders (consA (cst (.int (10 : Nat))) (consA (cst (.int (1 : Nat))) (consA (cst (.int (1 : Nat))) (consA (cst (.int (5 : Nat))) (nilA)))))) (consA (callF m_keeps_remainders (consA (cst (.int (10 : Nat))) (consA (cst (.int (7 : Nat))) (consA (cst (.int (1 : Nat))) (consA (cst (.int (3 : Nat))) (nilA)))))) (consA (callF m_keeps_remainders (consA (cst (.int (10 : Nat))) (consA (cst (.int (8 : Nat))) (consA (cst (.int (2 : Nat))) (consA (cst (.int (0 : Nat))) (nilA)))))) (nilA))))))) (seqS (setOS 0 (catPO 0 (lstD (consA (callF m_keeps_remainders (consA (cst (.int (10 : Nat))) (consA (cst (.int (1009 : Nat))) (consA (cst (.int (400 : Nat))) (consA (cst (.int (1 : Nat))) (nilA)))))) (consA (callF m_keeps_remainders (consA (cst (.int (10 : Nat))) (consA (cst (.int (9 : Nat))) (consA (cst (.int (400 : Nat))) (consA (cst (.int (1 : Nat))) (nilA)))))) (nilA)))))) (seqS (appS 0 (callF m_keeps_remainders (consA (cst (.int (2 : Nat))) (consA (cst (.int (7 : Nat))) (consA (cst (.int (399 : Nat))) (consA (cst (.int (1 : Nat))) (nilA))))))) (retS (bin eqD (un reprW (pkF 0)) (un reprW (lstD (consA (cst (.bl true)) (consA (cst (.bl true)) (consA (cst (.bl true)) (consA (cst (.bl false)) (consA (cst (.bl true)) (consA (cst (.bl true)) (consA (cst (.bl true)) (consA (cst (.bl true)) (consA (cst (.bl false)) (consA (cst (.bl false)) (consA (cst (.bl true)) (consA (cst (.bl true)) (nilA))))))))))))))))))))))))))))
def m__law_hand_right : Fn := runF 0 2 b__law_hand_right
theorem sc__law_hand_right : FnScope ["told", "far"] [] (defScope st__law_hand_right) := ⟨rfl, rfl, rfl, by decide +kernel, rfl, by decide +kernel, by decide +kernel⟩
theorem p__law_hand_right (D : IsDef K mg "_law_hand_right" st__law_hand_right) (h_keeps_remainders : Has P w K mg base "keeps_remainders" ["base", "denominator", "size", "weight"] m_keeps_remainders 5) (h_block_sum : Has P w K mg base "block_sum" ["base", "size", "weight", "number"] m_block_sum 5) (ndk : NdK K) (n_repr : mg "repr" = none) : Has P w K mg base "_law_hand_right" [] m__law_hand_right 6 := by
  have nd := sc__law_hand_right.nd
  refine has0 (N := ["told", "far"]) (ps := []) (k := 5) (body := b__law_hand_right) D sc__law_hand_right (by decide) (fun _ _ _ _ _ _ us hl => match us, hl with | [], _ => rfl) ?_
  intro f cdv A outer s H E hr hq hc
  exact ds_cons (ds_setO 0 nd (do_lst (da_cons (de_h h_block_sum hr hq (by decide) rfl (da_cons (de_int) (da_cons (de_int) (da_cons (de_int) (da_cons (de_int) (da_nil)))))) (da_cons (de_h h_block_sum hr hq (by decide) rfl (da_cons (de_int) (da_cons (de_int) (da_cons (de_neg (de_int)) (da_cons (de_int) (da_nil)))))) (da_cons (de_h h_block_sum hr hq (by decide) rfl (da_cons (de_int) (da_cons (de_int) (da_cons (de_neg (de_int)) (da_cons (de_int) (da_nil)))))) (da_nil)))))) (ds_cons (ds_setO 0 nd (do_catP (pv 0) (dk_of (de_lst (da_cons (de_h h_block_sum hr hq (by decide) rfl (da_cons (de_int) (da_cons (de_int) (da_cons (de_int) (da_cons (de_int) (da_nil)))))) (da_cons (de_h h_block_sum hr hq (by decide) rfl (da_cons (de_int) (da_cons (de_int) (da_cons (de_neg (de_int)) (da_cons (de_int) (da_nil)))))) (da_cons (de_h h_block_sum hr hq (by decide) rfl (da_cons (de_int) (da_cons (de_int) (da_cons (de_int) (da_cons (de_int) (da_nil)))))) (da_nil)))))))) (ds_cons (ds_if (dt_cmpP (opr_ne (u64 hr)) (opd_ne _) (nomark _) (pv 0) (dk_of (de_lst (da_cons (de_int) (da_cons (de_int) (da_cons (de_int) (da_cons (de_int) (da_cons (de_neg (de_int)) (da_cons (de_int) (da_nil)))))))))) (ds_one (ds_ret (de_bl))) (ds_nil)) (ds_cons (ds_set 1 nd (de_pow (de_int) (dk_of (de_int)))) (ds_cons (ds_setO 0 nd (do_lst (da_cons (de_h h_block_sum hr hq (by decide) rfl (da_cons (de_int) (da_cons (de_int) (da_cons (de_int) (da_cons (de_var 1) (da_nil)))))) (da_cons (de_h h_block_sum hr hq (by decide) rfl (da_cons (de_int) (da_cons (de_int) (da_cons (de_int) (da_cons (de_var 1) (da_nil)))))) (da_cons (de_h h_block_sum hr hq (by decide) rfl (da_cons (de_int) (da_cons (de_int) (da_cons (de_int) (da_cons (de_int) (da_nil)))))) (da_nil)))))) (ds_cons (ds_app 0 (pv 0) (de_h h_block_sum hr hq (by decide) rfl (da_cons (de_int) (da_cons (de_int) (da_cons (de_int) (da_cons (de_var 1) (da_nil))))))) (ds_cons (ds_if (dt_w (dw_or (dt_cmpP (opr_ne (u64 hr)) (opd_ne _) (nomark _) (pv 0) (dk_of (de_lst (da_cons (de_var 1) (da_cons (de_int) (da_cons (de_int) (da_cons (de_var 1) (da_nil)))))))) (dw_or1 (dt_cmp (opr_ne (u64 hr)) (opd_ne _) (nomark _) (de_h h_block_sum hr hq (by decide) rfl (da_cons (de_int) (da_cons (de_int) (da_cons (de_int) (da_cons (de_sub (de_pow (de_int) (dk_of (de_int))) (dk_of (de_int))) (da_nil)))))) (dk_of (de_int)))))) (ds_one (ds_ret (de_bl))) (ds_nil)) (ds_cons (ds_setO 0 nd (do_lst (da_cons (de_h h_keeps_remainders hr hq (by decide) rfl (da_cons (de_int) (da_cons (de_int) (da_cons (de_int) (da_cons (de_int) (da_nil)))))) (da_cons (de_h h_keeps_remainders hr hq (by decide) rfl (da_cons (de_int) (da_cons (de_int) (da_cons (de_int) (da_cons (de_neg (de_int)) (da_nil)))))) (da_cons (de_h h_keeps_remainders hr hq (by decide) rfl (da_cons (de_int) (da_cons (de_int) (da_cons (de_int) (da_cons (de_neg (de_int)) (da_nil)))))) (da_nil)))))) (ds_cons (ds_setO 0 nd (do_catP (pv 0) (dk_of (de_lst (da_cons (de_h h_keeps_remainders hr hq (by decide) rfl (da_cons (de_int) (da_cons (de_int) (da_cons (de_int) (da_cons (de_int) (da_nil)))))) (da_cons (de_h h_keeps_remainders hr hq (by decide) rfl (da_cons (de_int) (da_cons (de_int) (da_cons (de_int) (da_cons (de_neg (de_int)) (da_nil)))))) (da_cons (de_h h_keeps_remainders hr hq (by decide) rfl (da_cons (de_int) (da_cons (de_int) (da_cons (de_int) (da_cons (de_int) (da_nil)))))) (da_nil)))))))) (ds_cons (ds_setO 0 nd (do_catP (pv 0) (dk_of (de_lst (da_cons (de_h h_keeps_remainders hr hq (by decide) rfl (da_cons (de_int) (da_cons (de_int) (da_cons (de_int) (da_cons (de_int) (da_nil)))))) (da_cons (de_h h_keeps_remainders hr hq (by decide) rfl (da_cons (de_int) (da_cons (de_int) (da_cons (de_int) (da_cons (de_int) (da_nil)))))) (da_cons (de_h h_keeps_remainders hr hq (by decide) rfl (da_cons (de_int) (da_cons (de_int) (da_cons (de_int) (da_cons (de_int) (da_nil)))))) (da_nil)))))))) (ds_cons (ds_setO 0 nd (do_catP (pv 0) (dk_of (de_lst (da_cons (de_h h_keeps_remainders hr hq (by decide) rfl (da_cons (de_int) (da_cons (de_int) (da_cons (de_int) (da_cons (de_int) (da_nil)))))) (da_cons (de_h h_keeps_remainders hr hq (by decide) rfl (da_cons (de_int) (da_cons (de_int) (da_cons (de_int) (da_cons (de_int) (da_nil)))))) (da_nil))))))) (ds_cons (ds_app 0 (pv 0) (de_h h_keeps_remainders hr hq (by decide) rfl (da_cons (de_int) (da_cons (de_int) (da_cons (de_int) (da_cons (de_int) (da_nil))))))) (ds_one (ds_ret (de_cmp (opr_eq (u64 hr)) (opd_eq _) (nomark _) (de_reprW ndk (u64 hr) hq rfl n_repr (dk_var 0)) (dk_of (de_reprW ndk (u64 hr) hq rfl n_repr (dk_of (de_lst (da_cons (de_bl) (da_cons (de_bl) (da_cons (de_bl) (da_cons (de_bl) (da_cons (de_bl) (da_cons (de_bl) (da_cons (de_bl) (da_cons (de_bl) (da_cons (de_bl) (da_cons (de_bl) (da_cons (de_bl) (da_cons (de_bl) (da_nil)))))))))))))))))))))))))))))))
/-! ### _law_draw -/
abbrev st__law_draw : Stmt := top 24
def b__law_draw : Rho → SR := seqS (ifS (tstF (bin gtD (binP ixD 0 (cst (.str "left"))) (cst (.int (0 : Nat))))) (seqS (setS 5 (bin modD (un intD (binP ixD 0 (cst (.str "left")))) (pkF 1))) (seqS (dputS 0 (cst (.str "left")) (bin fdivD (binP ixD 0 (cst (.str "left"))) (pkF 1))) (retS (var 5)))) (skipS)) (seqS (setS 2 (binP ixD 0 (cst (.str "spot")))) (seqS (dputS 0 (cst (.str "spot")) (bin addD (var 2) (cst (.int (1 : Nat))))) (seqS (parP [6, 7] [frO (binP ixD 0 (cst (.str "cells"))), frO (bin addD (binP ixD 0 (cst (.str "seed"))) (bin mulD (bin mulD (cst (.int (40503 : Nat))) (pkF 2)) (pkF 2)))]) (seqS (setS 3 (bin ixD (var 6) (bin modD (un intD (pkF 2)) (un lenD (pkF 6))))) (seqS (setS 4 (bin modD (un intD (bin addD (bin mulD (var 3) (bin addD (bin mulD (cst (.int (2 : Nat))) (pkF 2)) (cst (.int (3 : Nat))))) (pkF 7))) (cst (.int (2147483647 : Nat))))) (seqS (setS 4 (bin modD (un intD (bin addD (bin addD (bin mulD (var 4) (pkF 4)) (bin mulD (cst (.int (69621 : Nat))) (pkF 2))) (binP ixD 0 (cst (.str "seed"))))) (cst (.int (2147483629 : Nat))))) (retS (bin modD (bin fdivD (bin modD (un intD (bin addD (bin mulD (var 4) (cst (.int (48271 : Nat)))) (pkF 2))) (cst (.int (2147483647 : Nat)))) (cst (.int (11 : Nat)))) (pkF 1)))))))))
def m__law_draw : FnM := runM 2 8 b__law_draw
theorem sc__law_draw : FnScope ["m", "limit", "spot", "cell", "blend", "found", "cells", "added"] ["m", "limit"] (defScope st__law_draw) := ⟨rfl, rfl, rfl, by decide +kernel, rfl, by decide +kernel, by decide +kernel⟩
theorem p__law_draw (D : IsDef K mg "_law_draw" st__law_draw) (n_int : mg "int" = none) (n_len : mg "len" = none) : HasM P w K mg base "_law_draw" ["m", "limit"] m__law_draw 1 := by
  have nd := sc__law_draw.nd
  refine hasM (N := ["m", "limit", "spot", "cell", "blend", "found", "cells", "added"]) (ps := ["m", "limit"]) (k := 0) (body := b__law_draw) D sc__law_draw (by decide) (fun _ _ _ _ _ _ us hl => match us, hl with | [_, _], _ => rfl) ?_
  intro f cdv A outer s H E hr hq hc
  exact ds_cons (ds_if (dt_cmp (op_gt) (opd_cmp _ _) (nomark _) (de_ixP (u1 hr) (pv 0) (dk_of (de_str)) (fun _ _ => rfl)) (dk_of (de_int))) (ds_cons (ds_set 5 nd (de_mod (de_toint rfl n_int (dk_of (de_ixP (u1 hr) (pv 0) (dk_of (de_str)) (fun _ _ => rfl)))) (dk_var 1))) (ds_cons (ds_dput 0 (u1 hr) (pv 0) (de_str) (de_fdiv (de_ixP (u1 hr) (pv 0) (dk_of (de_str)) (fun _ _ => rfl)) (dk_var 1))) (ds_one (ds_ret (de_var 5))))) (ds_nil)) (ds_cons (ds_set 2 nd (de_ixP (u1 hr) (pv 0) (dk_of (de_str)) (fun _ _ => rfl))) (ds_cons (ds_dput 0 (u1 hr) (pv 0) (de_str) (de_add (de_var 2) (dk_of (de_int)))) (ds_cons (ds_par2 (i := 6) (j := 7) rfl nd (by decide) (dps_cons (do_fr (de_ixP (u1 hr) (pv 0) (dk_of (de_str)) (fun _ _ => rfl))) (dps_cons (do_fr (de_add (de_ixP (u1 hr) (pv 0) (dk_of (de_str)) (fun _ _ => rfl)) (dk_of (de_mul (de_mul (de_int) (dk_var 2)) (dk_var 2))))) (dps_nil))) (by rfl)) (ds_cons (ds_set 3 nd (de_ix (u1 hr) (de_var 6) (dk_of (de_mod (de_toint rfl n_int (dk_var 2)) (dk_of (de_len rfl n_len (dk_var 6))))) (fun _ _ => rfl))) (ds_cons (ds_set 4 nd (de_mod (de_toint rfl n_int (dk_of (de_add (de_mul (de_var 3) (dk_of (de_add (de_mul (de_int) (dk_var 2)) (dk_of (de_int))))) (dk_var 7)))) (dk_of (de_int)))) (ds_cons (ds_set 4 nd (de_mod (de_toint rfl n_int (dk_of (de_add (de_add (de_mul (de_var 4) (dk_var 4)) (dk_of (de_mul (de_int) (dk_var 2)))) (dk_of (de_ixP (u1 hr) (pv 0) (dk_of (de_str)) (fun _ _ => rfl)))))) (dk_of (de_int)))) (ds_one (ds_ret (de_mod (de_fdiv (de_mod (de_toint rfl n_int (dk_of (de_add (de_mul (de_var 4) (dk_of (de_int))) (dk_var 2)))) (dk_of (de_int))) (dk_of (de_int))) (dk_var 1))))))))))
/-! ### _law_of -/
abbrev st__law_of : Stmt := top 25
def b__law_of : Rho → SR := retS (bin ixD (var 1) (callM m__law_draw 0 (consA (un lenD (pkF 1)) (nilA))))
def m__law_of : FnM := runM 2 2 b__law_of
theorem sc__law_of : FnScope ["m", "some"] ["m", "some"] (defScope st__law_of) := ⟨rfl, rfl, rfl, by decide +kernel, rfl, by decide +kernel, by decide +kernel⟩
theorem p__law_of (D : IsDef K mg "_law_of" st__law_of) (h__law_draw : HasM P w K mg base "_law_draw" ["m", "limit"] m__law_draw 1) (n_len : mg "len" = none) : HasM P w K mg base "_law_of" ["m", "some"] m__law_of 2 := by
  have nd := sc__law_of.nd
  refine hasM (N := ["m", "some"]) (ps := ["m", "some"]) (k := 1) (body := b__law_of) D sc__law_of (by decide) (fun _ _ _ _ _ _ us hl => match us, hl with | [_, _], _ => rfl) ?_
  intro f cdv A outer s H E hr hq hc
  exact ds_one (ds_ret (de_ix (u1 hr) (de_var 1) (dk_of (de_hM h__law_draw hr hq (by decide) rfl (pv 0) (da_cons (de_len rfl n_len (dk_var 1)) (da_nil)))) (fun _ _ => rfl)))
/-! ### _law_raised -/
abbrev st__law_raised : Stmt := top 26
def b__law_raised : Rho → SR := seqS (parP [3, 4, 5] [frO (bin modD (cst (.int (1 : Nat))) (pkF 2)), frO (bin modD (un intD (pkF 0)) (pkF 2)), frO (var 1)]) (seqS (whS (tstF (bin gtD (var 5) (cst (.int (0 : Nat))))) (seqS (ifS (tstF (bin eqD (bin modD (un intD (pkF 5)) (cst (.int (2 : Nat)))) (cst (.int (1 : Nat))))) (setS 3 (bin modD (un intD (bin mulD (var 3) (pkF 4))) (pkF 2))) (skipS)) (seqS (setS 4 (bin modD (un intD (bin mulD (var 4) (pkF 4))) (pkF 2))) (setS 5 (bin fdivD (var 5) (cst (.int (2 : Nat))))))) 1000000) (retS (var 3)))
def m__law_raised : Fn := runF 3 6 b__law_raised
theorem sc__law_raised : FnScope ["b", "times", "n", "found", "square", "left"] ["b", "times", "n"] (defScope st__law_raised) := ⟨rfl, rfl, rfl, by decide +kernel, rfl, by decide +kernel, by decide +kernel⟩
theorem p__law_raised (D : IsDef K mg "_law_raised" st__law_raised) (n_int : mg "int" = none) : Has P w K mg base "_law_raised" ["b", "times", "n"] m__law_raised 1 := by
  have nd := sc__law_raised.nd
  refine has0 (N := ["b", "times", "n", "found", "square", "left"]) (ps := ["b", "times", "n"]) (k := 0) (body := b__law_raised) D sc__law_raised (by decide) (fun _ _ _ _ _ _ us hl => match us, hl with | [_, _, _], _ => rfl) ?_
  intro f cdv A outer s H E hr hq hc
  exact ds_cons (ds_par3 (i := 3) (j := 4) (l := 5) rfl nd (by decide) (by decide) (by decide) (dps_cons (do_fr (de_mod (de_int) (dk_var 2))) (dps_cons (do_fr (de_mod (de_toint rfl n_int (dk_var 0)) (dk_var 2))) (dps_cons (do_fr (de_var 1)) (dps_nil)))) (by rfl)) (ds_cons (ds_while 1000000 PassesOwn.never (dt_cmp (op_gt) (opd_cmp _ _) (nomark _) (de_var 5) (dk_of (de_int))) (ds_cons (ds_if (dt_cmp (opr_eq (u64 hr)) (opd_eq _) (nomark _) (de_mod (de_toint rfl n_int (dk_var 5)) (dk_of (de_int))) (dk_of (de_int))) (ds_one (ds_set 3 nd (de_mod (de_toint rfl n_int (dk_of (de_mul (de_var 3) (dk_var 4)))) (dk_var 2)))) (ds_nil)) (ds_cons (ds_set 4 nd (de_mod (de_toint rfl n_int (dk_of (de_mul (de_var 4) (dk_var 4)))) (dk_var 2))) (ds_one (ds_set 5 nd (de_fdiv (de_var 5) (dk_of (de_int)))))))) (ds_one (ds_ret (de_var 3))))
/-! ### _law_sum -/
abbrev st__law_sum : Stmt := top 27
def b__law_sum : Rho → SR := seqS (parP [5, 6] [lstO (nilA), frO (var 3)]) (seqS (whS (tstF (bin gtD (var 6) (cst (.int (0 : Nat))))) (seqS (appS 5 (bin modD (un intD (pkF 6)) (pkF 0))) (setS 6 (bin fdivD (var 6) (pkF 0)))) 1000000) (seqS (asgS (tgT [7, 8]) (tupD (consA (cst (.int (0 : Nat))) (consA (cst (.int (1 : Nat))) (nilA))))) (seqS (forS (rngF rngD3 (consA (cst (.int (0 : Nat))) (consA (un lenD (pkF 5)) (consA (var 1) (nilA))))) (tgN 4) (seqS (setS 9 (cst (.int (0 : Nat)))) (seqS (forS (itF (un revA (sl3 (var 5) (someP (var 4)) (someP (bin addD (var 4) (pkF 1)))))) (tgN 10) (setS 9 (bin addD (bin mulD (var 9) (pkF 0)) (pkF 10)))) (parP [7, 8] [frO (bin addD (var 7) (bin mulD (var 8) (pkF 9))), frO (bin mulD (var 8) (pkF 2))])))) (retS (var 7)))))
def m__law_sum : Fn := runF 4 11 b__law_sum
theorem sc__law_sum : FnScope ["b", "width", "weight_so", "whole", "begin", "digits_so", "left", "found", "factor", "block", "digit"] ["b", "width", "weight_so", "whole"] (defScope st__law_sum) := ⟨rfl, rfl, rfl, by decide +kernel, rfl, by decide +kernel, by decide +kernel⟩
theorem p__law_sum (D : IsDef K mg "_law_sum" st__law_sum) (n_len : mg "len" = none) (n_range : mg "range" = none) (n_int : mg "int" = none) : Has P w K mg base "_law_sum" ["b", "width", "weight_so", "whole"] m__law_sum 1 := by
  have nd := sc__law_sum.nd
  refine has0 (N := ["b", "width", "weight_so", "whole", "begin", "digits_so", "left", "found", "factor", "block", "digit"]) (ps := ["b", "width", "weight_so", "whole"]) (k := 0) (body := b__law_sum) D sc__law_sum (by decide) (fun _ _ _ _ _ _ us hl => match us, hl with | [_, _, _, _], _ => rfl) ?_
  intro f cdv A outer s H E hr hq hc
  exact ds_cons (ds_par2 (i := 5) (j := 6) rfl nd (by decide) (dps_cons (do_lst (da_nil)) (dps_cons (do_fr (de_var 3)) (dps_nil))) (by rfl)) (ds_cons (ds_while 1000000 PassesOwn.never (dt_cmp (op_gt) (opd_cmp _ _) (nomark _) (de_var 6) (dk_of (de_int))) (ds_cons (ds_app 5 (pv 5) (de_mod (de_toint rfl n_int (dk_var 6)) (dk_var 0))) (ds_one (ds_set 6 nd (de_fdiv (de_var 6) (dk_var 0)))))) (ds_cons (ds_asg (de_tup (da_cons (de_int) (da_cons (de_int) (da_nil)))) (dg_tup rfl (dgs_cons 7 nd (dgs_cons 8 nd (dgs_nil))))) (ds_cons (ds_for PassesOwn.never rfl (di_range3 rfl n_range (da_cons (de_int) (da_cons (de_len rfl n_len (dk_var 5)) (da_cons (de_var 1) (da_nil))))) (dg_name 4 nd) (ds_cons (ds_set 9 nd (de_int)) (ds_cons (ds_for PassesOwn.never rfl (di_all (de_revA (de_sl (de_var 5) (dp_some (de_var 4)) (dp_some (de_add (de_var 4) (dk_var 1)))))) (dg_name 10 nd) (ds_one (ds_set 9 nd (de_add (de_mul (de_var 9) (dk_var 0)) (dk_var 10))))) (ds_one (ds_par2 (i := 7) (j := 8) rfl nd (by decide) (dps_cons (do_fr (de_add (de_var 7) (dk_of (de_mul (de_var 8) (dk_var 9))))) (dps_cons (do_fr (de_mul (de_var 8) (dk_var 2))) (dps_nil))) (by rfl)))))) (ds_one (ds_ret (de_var 7))))))
/-! ### _law_right -/
abbrev st__law_right : Stmt := top 28
def b__law_right : Rho → SR := seqS (asgS (tgT [6, 7, 8]) (tupD (consA (callM m__law_of 0 (consA (lstD (consA (cst (.int (2 : Nat))) (consA (cst (.int (3 : Nat))) (consA (cst (.int (10 : Nat))) (consA (cst (.int (12 : Nat))) (consA (bin addD (cst (.int (2 : Nat))) (callM m__law_draw 0 (consA (cst (.int (999 : Nat))) (nilA)))) (nilA))))))) (nilA))) (consA (bin addD (cst (.int (1 : Nat))) (callM m__law_draw 0 (consA (cst (.int (6 : Nat))) (nilA)))) (consA (bin addD (cst (.int (1 : Nat))) (callM m__law_draw 0 (consA (cst (.int (300 : Nat))) (nilA)))) (nilA)))))) (seqS (setS 1 (callM m__law_of 0 (consA (lstD (consA (cst (.int (1 : Nat))) (consA (un negD (cst (.int (1 : Nat)))) (consA (cst (.int (0 : Nat))) (consA (cst (.int (2 : Nat))) (consA (un negD (cst (.int (3 : Nat)))) (consA (bin subD (callM m__law_draw 0 (consA (cst (.int (2001 : Nat))) (nilA))) (cst (.int (1000 : Nat)))) (nilA)))))))) (nilA)))) (seqS (setS 2 (callF m__law_raised (consA (var 6) (consA (var 7) (consA (var 8) (nilA)))))) (seqS (ifS (tstF (bin eqD (callM m__law_draw 0 (consA (cst (.int (2 : Nat))) (nilA))) (cst (.int (0 : Nat))))) (setS 1 (bin subD (var 2) (bin mulD (var 8) (callM m__law_draw 0 (consA (cst (.int (3 : Nat))) (nilA)))))) (skipS)) (seqS (setS 3 (bin eqD (bin modD (un intD (bin subD (var 2) (pkF 1))) (pkF 8)) (cst (.int (0 : Nat))))) (seqS (ifS (tstF (bin neD (un reprW (frzR (lcO (rngF rngD1 (consA (cst (.int (2 : Nat))) (nilA))) (tgN 12) (yesT) (callF m_keeps_remainders (consA (var 6) (consA (var 8) (consA (var 7) (consA (var 1) (nilA)))))) [12]))) (un reprW (lstD (consA (var 3) (consA (var 3) (nilA))))))) (retS (cst (.bl false))) (skipS)) (seqS (forS (rngF rngD1 (consA (cst (.int (5 : Nat))) (nilA))) (tgN 4) (seqS (setS 9 (callM m__law_draw 0 (consA (callM m__law_of 0 (consA (lstD (consA (cst (.int (20 : Nat))) (consA (bin powD (cst (.int (10 : Nat))) (cst (.int (6 : Nat)))) (consA (bin powD (cst (.int (10 : Nat))) (cst (.int (12 : Nat)))) (consA (bin powD (cst (.int (10 : Nat))) (cst (.int (30 : Nat)))) (consA (bin powD (cst (.int (10 : Nat))) (cst (.int (60 : Nat)))) (nilA))))))) (nilA))) (nilA)))) (seqS (setS 9 (callM m__law_of 0 (consA (lstD (consA (var 9) (consA (var 9) (consA (bin subD (bin powD (cst (.int (10 : Nat))) (cst (.int (60 : Nat)))) (pkF 9)) (nilA))))) (nilA)))) (seqS (setS 10 (callF m__law_sum (consA (var 6) (consA (var 7) (consA (var 1) (consA (var 9) (nilA))))))) (seqS (ifS (tstF (bin neD (un reprW (lstD (consA (callF m_block_sum (consA (var 6) (consA (var 7) (consA (var 1) (consA (var 9) (nilA)))))) (consA (callF m_block_sum (consA (var 6) (consA (var 7) (consA (var 1) (consA (var 9) (nilA)))))) (nilA))))) (un reprW (lstD (consA (var 10) (consA (var 10) (nilA))))))) (retS (cst (.bl false))) (skipS)) (ifS (andT (truF (pkF 3)) (tstF (bin neD (bin modD (un intD (bin subD (var 10) (pkF 9))) (pkF 8)) (cst (.int (0 : Nat)))))) (retS (cst (.bl false))) (skipS))))))) (seqS (setS 5 (cst (.int (1 : Nat)))) (seqS (forS (rngF rngD1 (consA (var 7) (nilA))) (tgN 4) (setS 5 (bin mulD (var 5) (pkF 6)))) (seqS (ifS (tstF (bin neD (bin eqD (bin modD (un intD (bin subD (callF m_block_sum (consA (var 6) (consA (var 7) (consA (var 1) (consA (var 5) (nilA)))))) (pkF 5))) (pkF 8)) (cst (.int (0 : Nat)))) (pkF 3))) (retS (cst (.bl false))) (skipS)) (retS (bin eqD (frzR (lcO (rngF rngD1 (consA (cb min2D (consA (var 5) (consA (cst (.int (12 : Nat))) (nilA)))) (nilA))) (tgN 11) (tstF (bin neD (callF m_block_sum (consA (var 6) (consA (var 7) (consA (var 1) (consA (var 11) (nilA)))))) (pkF 11))) (var 11) [11])) (lstD (nilA)))))))))))))
def m__law_right : FnM := runM 1 13 b__law_right
theorem sc__law_right : FnScope ["m", "weight_so", "rest", "is_so", "turn", "step", "b", "width", "n", "whole", "due", "k", "again"] ["m"] (defScope st__law_right) := ⟨rfl, rfl, rfl, by decide +kernel, rfl, by decide +kernel, by decide +kernel⟩
theorem p__law_right (D : IsDef K mg "_law_right" st__law_right) (h_block_sum : Has P w K mg base "block_sum" ["base", "size", "weight", "number"] m_block_sum 5) (h__law_sum : Has P w K mg base "_law_sum" ["b", "width", "weight_so", "whole"] m__law_sum 1) (h__law_of : HasM P w K mg base "_law_of" ["m", "some"] m__law_of 2) (h__law_draw : HasM P w K mg base "_law_draw" ["m", "limit"] m__law_draw 1) (h_keeps_remainders : Has P w K mg base "keeps_remainders" ["base", "denominator", "size", "weight"] m_keeps_remainders 5) (h__law_raised : Has P w K mg base "_law_raised" ["b", "times", "n"] m__law_raised 1) (ndk : NdK K) (n_min : mg "min" = none) (n_range : mg "range" = none) (n_int : mg "int" = none) (n_repr : mg "repr" = none) : HasM P w K mg base "_law_right" ["m"] m__law_right 6 := by
  have nd := sc__law_right.nd
  refine hasM (N := ["m", "weight_so", "rest", "is_so", "turn", "step", "b", "width", "n", "whole", "due", "k", "again"]) (ps := ["m"]) (k := 5) (body := b__law_right) D sc__law_right (by decide) (fun _ _ _ _ _ _ us hl => match us, hl with | [_], _ => rfl) ?_
  intro f cdv A outer s H E hr hq hc
  exact ds_cons (ds_asg (de_tup (da_cons (de_hM h__law_of hr hq (by decide) rfl (pv 0) (da_cons (de_lst (da_cons (de_int) (da_cons (de_int) (da_cons (de_int) (da_cons (de_int) (da_cons (de_add (de_int) (dk_of (de_hM h__law_draw hr hq (by decide) rfl (pv 0) (da_cons (de_int) (da_nil))))) (da_nil))))))) (da_nil))) (da_cons (de_add (de_int) (dk_of (de_hM h__law_draw hr hq (by decide) rfl (pv 0) (da_cons (de_int) (da_nil))))) (da_cons (de_add (de_int) (dk_of (de_hM h__law_draw hr hq (by decide) rfl (pv 0) (da_cons (de_int) (da_nil))))) (da_nil))))) (dg_tup rfl (dgs_cons 6 nd (dgs_cons 7 nd (dgs_cons 8 nd (dgs_nil)))))) (ds_cons (ds_set 1 nd (de_hM h__law_of hr hq (by decide) rfl (pv 0) (da_cons (de_lst (da_cons (de_int) (da_cons (de_neg (de_int)) (da_cons (de_int) (da_cons (de_int) (da_cons (de_neg (de_int)) (da_cons (de_sub (de_hM h__law_draw hr hq (by decide) rfl (pv 0) (da_cons (de_int) (da_nil))) (dk_of (de_int))) (da_nil)))))))) (da_nil)))) (ds_cons (ds_set 2 nd (de_h h__law_raised hr hq (by decide) rfl (da_cons (de_var 6) (da_cons (de_var 7) (da_cons (de_var 8) (da_nil)))))) (ds_cons (ds_if (dt_cmp (opr_eq (u64 hr)) (opd_eq _) (nomark _) (de_hM h__law_draw hr hq (by decide) rfl (pv 0) (da_cons (de_int) (da_nil))) (dk_of (de_int))) (ds_one (ds_set 1 nd (de_sub (de_var 2) (dk_of (de_mul (de_var 8) (dk_of (de_hM h__law_draw hr hq (by decide) rfl (pv 0) (da_cons (de_int) (da_nil))))))))) (ds_nil)) (ds_cons (ds_set 3 nd (de_cmp (opr_eq (u64 hr)) (opd_eq _) (nomark _) (de_mod (de_toint rfl n_int (dk_of (de_sub (de_var 2) (dk_var 1)))) (dk_var 8)) (dk_of (de_int)))) (ds_cons (ds_if (dt_cmp (opr_ne (u64 hr)) (opd_ne _) (nomark _) (de_reprW ndk (u64 hr) hq rfl n_repr (dk_of (de_do (do_lc rfl nd (own := [("again", 12)]) (di_range1 rfl n_range (da_cons (de_int) (da_nil))) (blkOk_by (by kernel_rfl)) (fun _ _ _ _ _ => dg_name 12 nd) (fun _ _ _ _ _ => dts_nil) (fun _ _ _ _ _ => de_h h_keeps_remainders hr hq (by decide) rfl (da_cons (de_var 6) (da_cons (de_var 8) (da_cons (de_var 7) (da_cons (de_var 1) (da_nil)))))) (by decide))))) (dk_of (de_reprW ndk (u64 hr) hq rfl n_repr (dk_of (de_lst (da_cons (de_var 3) (da_cons (de_var 3) (da_nil)))))))) (ds_one (ds_ret (de_bl))) (ds_nil)) (ds_cons (ds_for PassesOwn.never rfl (di_range1 rfl n_range (da_cons (de_int) (da_nil))) (dg_name 4 nd) (ds_cons (ds_set 9 nd (de_hM h__law_draw hr hq (by decide) rfl (pv 0) (da_cons (de_hM h__law_of hr hq (by decide) rfl (pv 0) (da_cons (de_lst (da_cons (de_int) (da_cons (de_pow (de_int) (dk_of (de_int))) (da_cons (de_pow (de_int) (dk_of (de_int))) (da_cons (de_pow (de_int) (dk_of (de_int))) (da_cons (de_pow (de_int) (dk_of (de_int))) (da_nil))))))) (da_nil))) (da_nil)))) (ds_cons (ds_set 9 nd (de_hM h__law_of hr hq (by decide) rfl (pv 0) (da_cons (de_lst (da_cons (de_var 9) (da_cons (de_var 9) (da_cons (de_sub (de_pow (de_int) (dk_of (de_int))) (dk_var 9)) (da_nil))))) (da_nil)))) (ds_cons (ds_set 10 nd (de_h h__law_sum hr hq (by decide) rfl (da_cons (de_var 6) (da_cons (de_var 7) (da_cons (de_var 1) (da_cons (de_var 9) (da_nil))))))) (ds_cons (ds_if (dt_cmp (opr_ne (u64 hr)) (opd_ne _) (nomark _) (de_reprW ndk (u64 hr) hq rfl n_repr (dk_of (de_lst (da_cons (de_h h_block_sum hr hq (by decide) rfl (da_cons (de_var 6) (da_cons (de_var 7) (da_cons (de_var 1) (da_cons (de_var 9) (da_nil)))))) (da_cons (de_h h_block_sum hr hq (by decide) rfl (da_cons (de_var 6) (da_cons (de_var 7) (da_cons (de_var 1) (da_cons (de_var 9) (da_nil)))))) (da_nil)))))) (dk_of (de_reprW ndk (u64 hr) hq rfl n_repr (dk_of (de_lst (da_cons (de_var 10) (da_cons (de_var 10) (da_nil)))))))) (ds_one (ds_ret (de_bl))) (ds_nil)) (ds_one (ds_if (dt_w (dw_and (dt_tru (dk_var 3)) (dw_and1 (dt_cmp (opr_ne (u64 hr)) (opd_ne _) (nomark _) (de_mod (de_toint rfl n_int (dk_of (de_sub (de_var 10) (dk_var 9)))) (dk_var 8)) (dk_of (de_int)))))) (ds_one (ds_ret (de_bl))) (ds_nil)))))))) (ds_cons (ds_set 5 nd (de_int)) (ds_cons (ds_for PassesOwn.never rfl (di_range1 rfl n_range (da_cons (de_var 7) (da_nil))) (dg_name 4 nd) (ds_one (ds_set 5 nd (de_mul (de_var 5) (dk_var 6))))) (ds_cons (ds_if (dt_cmp (opr_ne (u64 hr)) (opd_ne _) (nomark _) (de_cmp (opr_eq (u64 hr)) (opd_eq _) (nomark _) (de_mod (de_toint rfl n_int (dk_of (de_sub (de_h h_block_sum hr hq (by decide) rfl (da_cons (de_var 6) (da_cons (de_var 7) (da_cons (de_var 1) (da_cons (de_var 5) (da_nil)))))) (dk_var 5)))) (dk_var 8)) (dk_of (de_int))) (dk_var 3)) (ds_one (ds_ret (de_bl))) (ds_nil)) (ds_one (ds_ret (de_cmp (opr_eq (u64 hr)) (opd_eq _) (nomark _) (de_do (do_lc rfl nd (own := [("k", 11)]) (di_range1 rfl n_range (da_cons (de_min2 rfl rfl n_min (da_cons (de_var 5) (da_cons (de_int) (da_nil)))) (da_nil))) (blkOk_by (by kernel_rfl)) (fun _ _ _ _ _ => dg_name 11 nd) (fun _ _ _ _ _ => dts_one (dt_cmp (opr_ne (u64 hr)) (opd_ne _) (nomark _) (de_h h_block_sum hr hq (by decide) rfl (da_cons (de_var 6) (da_cons (de_var 7) (da_cons (de_var 1) (da_cons (de_var 11) (da_nil)))))) (dk_var 11))) (fun _ _ _ _ _ => de_var 11) (by decide))) (dk_of (de_lst (da_nil)))))))))))))))
/-! ### _law_begun -/
abbrev st__law_begun : Stmt := top 23
def b__law_begun : Rho → SR := seqS (setS 2 (bin addD (sl3 (var 0) (someP (var 1)) (noP)) (sl3 (var 0) (noP) (someP (var 1))))) (seqS (setS 3 (frzR (lcO (itF (var 2)) (tgN 5) (tstF (bin geD (var 5) (bin powD (cst (.int (10 : Nat))) (cst (.int (18 : Nat)))))) (var 5) [5]))) (seqS (setS 4 (bin addD (cst (.int (131 : Nat))) (pkF 1))) (seqS (forS (itF (var 2)) (tgN 5) (setS 4 (bin modD (un intD (bin addD (bin mulD (var 4) (cst (.int (48271 : Nat)))) (pkF 5))) (cst (.int (2147483647 : Nat)))))) (retOS (dispO ((cst (.str "left"), ifE (tstF (bin neD (var 3) (lstD (nilA)))) (bin ixD (var 3) (cst (.int (0 : Nat)))) (cst (.int (0 : Nat)))) :: ((cst (.str "seed"), var 4) :: ((cst (.str "cells"), bin addD (var 2) (lstD (consA (bin addD (bin mulD (cst (.int (43 : Nat))) (pkF 1)) (cst (.int (7 : Nat)))) (nilA)))) :: ((cst (.str "spot"), cst (.int (0 : Nat))) :: ([]))))))))))
def m__law_begun : Fn := runF 2 6 b__law_begun
theorem sc__law_begun : FnScope ["script", "k", "cells", "great", "seed", "cell"] ["script", "k"] (defScope st__law_begun) := ⟨rfl, rfl, rfl, by decide +kernel, rfl, by decide +kernel, by decide +kernel⟩
theorem p__law_begun (D : IsDef K mg "_law_begun" st__law_begun) (n_int : mg "int" = none) : Has P w K mg base "_law_begun" ["script", "k"] m__law_begun 1 := by
  have nd := sc__law_begun.nd
  refine has0 (N := ["script", "k", "cells", "great", "seed", "cell"]) (ps := ["script", "k"]) (k := 0) (body := b__law_begun) D sc__law_begun (by decide) (fun _ _ _ _ _ _ us hl => match us, hl with | [_, _], _ => rfl) ?_
  intro f cdv A outer s H E hr hq hc
  exact ds_cons (ds_set 2 nd (de_add (de_sl (de_var 0) (dp_some (de_var 1)) (dp_none)) (dk_of (de_sl (de_var 0) (dp_none) (dp_some (de_var 1)))))) (ds_cons (ds_setLc 3 rfl nd (sw_true rfl rfl rfl (by decide +kernel)) (own := [("cell", 5)]) (di_all (de_var 2)) (blkOk_by (by kernel_rfl)) (fun _ _ _ _ _ => dg_name 5 nd) (fun _ _ _ _ _ => dts_one (dt_cmp (op_ge) (opd_cmp _ _) (nomark _) (de_var 5) (dk_of (de_pow (de_int) (dk_of (de_int)))))) (fun _ _ _ _ _ => de_var 5) (by decide)) (ds_cons (ds_set 4 nd (de_add (de_int) (dk_var 1))) (ds_cons (ds_for PassesOwn.never rfl (di_all (de_var 2)) (dg_name 5 nd) (ds_one (ds_set 4 nd (de_mod (de_toint rfl n_int (dk_of (de_add (de_mul (de_var 4) (dk_of (de_int))) (dk_var 5)))) (dk_of (de_int)))))) (ds_one (ds_retO (do_disp (dpr_cons (de_str) (de_if (dt_cmp (opr_ne (u64 hr)) (opd_ne _) (nomark _) (de_var 3) (dk_of (de_lst (da_nil)))) (de_ix (u1 hr) (de_var 3) (dk_of (de_int)) (fun _ _ => rfl)) (de_int)) (dpr_cons (de_str) (de_var 4) (dpr_cons (de_str) (de_add (de_var 2) (dk_of (de_lst (da_cons (de_add (de_mul (de_int) (dk_var 1)) (dk_of (de_int))) (da_nil))))) (dpr_cons (de_str) (de_int) (dpr_nil))))) rfl rfl (fun z => nomatch z) (by decide)))))))
/-! ### law -/
abbrev st_law : Stmt := top 30
def b_law : Rho → SR := seqS (forS (rngF rngD1 (consA (bin addD (cst (.int (3 : Nat))) (cb min2D (consA (un lenD (pkF 0)) (consA (cst (.int (6 : Nat))) (nilA))))) (nilA))) (tgN 1) (ifS (notT (truF (callMO m__law_right (callO m__law_begun (consA (var 0) (consA (var 1) (nilA)))) (nilA)))) (retS (cst (.bl false))) (skipS))) (retS (callF m__law_hand_right nilA))
def m_law : Fn := runF 1 2 b_law
theorem sc_law : FnScope ["script", "k"] ["script"] (defScope st_law) := ⟨rfl, rfl, rfl, by decide +kernel, rfl, by decide +kernel, by decide +kernel⟩
theorem p_law {f : Addr} {fd : FuncData} (F : FunD K "law" "law" (defArgs st_law) (defBody st_law) (defScope st_law) [] [] f fd) (h__law_hand_right : Has P w K mg base "_law_hand_right" [] m__law_hand_right 6) (h__law_begun : Has P w K mg base "_law_begun" ["script", "k"] m__law_begun 1) (h__law_right : HasM P w K mg base "_law_right" ["m"] m__law_right 6) (n_len : mg "len" = none) (n_min : mg "min" = none) (n_range : mg "range" = none) : FnG P w K mg base CX0 7 f fd ["script"] (spF ⟨K, mg⟩ m_law) := by
  have nd := sc_law.nd
  refine fnD0 (N := ["script", "k"]) (ps := ["script"]) (k := 6) (body := b_law) F sc_law (by decide) ?_
  intro cdv A outer s H E hr hq hc
  exact ds_cons (ds_for PassesOwn.never rfl (di_range1 rfl n_range (da_cons (de_add (de_int) (dk_of (de_min2 rfl rfl n_min (da_cons (de_len rfl n_len (dk_var 0)) (da_cons (de_int) (da_nil)))))) (da_nil))) (dg_name 1 nd) (ds_one (ds_if (dt_not (dt_tru (dk_of (de_hMO h__law_right hr hq (by decide) rfl (do_h h__law_begun hr hq (by decide) rfl (da_cons (de_var 0) (da_cons (de_var 1) (da_nil)))) (da_nil))))) (ds_one (ds_ret (de_bl))) (ds_nil)))) (ds_one (ds_ret (de_h0 h__law_hand_right hr hq (by decide) rfl)))
end
end LAW

set_option Elab.async false
set_option linter.all false
set_option autoImplicit false
set_option maxRecDepth 100000
set_option maxHeartbeats 4000000
namespace LAW
open PySem DW PL
open L2 (Key)
abbrev I (n : Int) : Option Sl := some (.fr (.int n))
abbrev V (d : Dt) : Option Sl := some (.fr d)
/-! numbers -/
theorem is_integer_ok (v : Int) : m_is_integer [.int v] = .ok (.fr (.bl true)) := rfl
theorem is_whole_ok {v lo hi : Nat} (h : lo ≤ v ∧ v ≤ hi) : m_is_whole [.int v, .int lo, .int hi] = .ok (.fr (.bl true)) := by
  simp -implicitDefEqProofs (disch := (first | omega | assumption)) only [PL.x_Rof, PL.x_cst, PL.x_var, PL.x_var1f, PL.x_var1l, PL.x_var1d, PL.x_pk, PL.x_pk1f, PL.x_pk1l, PL.x_pk1d, PL.x_pk1i, PL.x_pkF, PL.x_un1, PL.x_un, PL.x_truF, PL.x_bOf, PL.x_tstF, PL.x_notT, PL.x_bin1, PL.x_bin, PL.x_bp3, PL.x_bp2, PL.x_bp1, PL.x_binP, PL.x_andT, PL.x_orT, PL.x_and1t, PL.x_and1f, PL.x_or1t, PL.x_or1f, PL.x_andV, PL.x_orV, PL.x_andV1t, PL.x_andV1f, PL.x_orV1t, PL.x_orV1f, PL.x_ifE, PL.x_ifE1t, PL.x_ifE1f, PL.x_chainD, PL.x_ch1, PL.x_ch2, PL.x_ch3t, PL.x_ch3f, PL.x_nilA, PL.x_consA, PL.x_cons1, PL.x_cons2, PL.x_few, PL.x_mk1, PL.x_tupD, PL.x_lstD, PL.x_lstO, PL.x_dctO0, PL.x_frO, PL.x_cb, PL.x_noP, PL.x_iOf, PL.x_someP, PL.x_sl31, PL.x_sl32, PL.x_sl3, PL.x_slK1, PL.x_slK, PL.x_frF, PL.x_frS, PL.x_cal1, PL.x_callF, PL.x_callO, PL.x_FMof, PL.x_cm1, PL.x_cm2, PL.x_cm3, PL.x_callM, PL.x_FMO, PL.x_cmo1, PL.x_cmo2, PL.x_callMO, PL.x_frzR, PL.x_itF, PL.x_rngF, PL.x_OLof, PL.x_lc2, PL.x_lc1, PL.x_lcO, PL.x_cat1, PL.x_catO, PL.x_cp1, PL.x_cp2, PL.x_cp3, PL.x_catPO, PL.x_SBn, PL.x_SBr, PL.x_skipS, PL.x_badS, PL.x_seqS, PL.x_nxO, PL.x_set1, PL.x_setS, PL.x_setO1f, PL.x_setO1l, PL.x_setO1d, PL.x_setOS, PL.x_ret1, PL.x_retO1, PL.x_exp1, PL.x_retS, PL.x_retOS, PL.x_exprS, PL.x_ifS, PL.x_if1t, PL.x_if1f, PL.x_asg1, PL.x_asgS, PL.x_argsP0, PL.x_ap1f, PL.x_ap1l, PL.x_ap1d, PL.x_ap2, PL.x_argsP, PL.x_par1, PL.x_parP, PL.x_putP0, PL.x_pp1, PL.x_putP, PL.x_app1, PL.x_app2, PL.x_nxB, PL.x_app3, PL.x_appS, PL.x_dp1, PL.x_dp2, PL.x_dp3, PL.x_dp4, PL.x_dputS, PL.x_keyI, PL.x_keyS, PL.x_up1, PL.x_up2, PL.x_up3, PL.x_updS, PL.x_for1, PL.x_forS, PL.x_RTr, PL.x_RTn, PL.x_rf1, PL.x_runF, PL.x_RMr, PL.x_RMn, PL.x_MIo, PL.x_ioOf, PL.x_rm1, PL.x_runM, PL.x_putR, PL.x_putR0f, PL.x_putR0l, PL.x_putR0d, PL.x_putR0n, PL.x_noIof, PL.x_noIol, PL.x_noIod, PL.x_noIon, PL.x_tgN, PL.x_tgT, PL.x_putAll0, PL.x_pa1, PL.x_putAll, PL.x_dAt, PL.x_dSlo, PL.x_dSli, PL.x_dPut, PL.x_dPuo, PL.x_dPui, PL.x_lAt, PL.x_lSl, PL.x_envOf, PL.x_envM, PL.x_toDl, PL.x_toDd, PL.x_toDf, PL.x_nof, PL.x_nol, PL.x_nod, PL.x_okW, PL.x_wipe0, PL.x_wipe, PL.x_yesT, PL.n_add, PL.n_mul, PL.n_mod, PL.n_div, PL.n_sub, PL.n_lt, PL.n_le, PL.n_eq, PL.d_t, PL.d_f, PL.y_add, PL.y_sub, PL.y_mod, PL.y_div, PL.y_mulL, PL.y_mulR, PL.y_lt, PL.y_le, PL.y_gt, PL.y_ge, PL.y_cmp, PL.y_eq, PL.y_ne, PL.y_int, PL.y_notD, PL.y_truB, PL.y_neg, PL.y_isi_n, PL.y_isi_b, PL.y_isi_i, PL.y_isi_s, PL.y_isi_l, PL.y_isi_t, PL.y_isi_d, PL.y_isi_c, PL.l_len, PL.l_lenT, PL.l_it, PL.l_itT, PL.l_tuple, PL.l_list, PL.l_listL, PL.l_ix, PL.l_ixT, PL.l_sum, PL.l_eq, PL.l_ne, PL.l_eq0, PL.l_ne0, PL.l_eqT, PL.l_in, PL.l_nin, PL.l_cat, PL.l_catT, PL.l_stp, PL.l_rng1, PL.l_rng2, PL.x_fb, PL.x_fb1, PL.l_eq00, PL.l_ne00, PL.l_eq01, PL.l_ne01, PL.l_lenS, PL.x_ODof, PL.x_dc2, PL.x_dc1, PL.x_dcO, PL.l_nin_tk, PL.l_in_tk, PL.l_min, PL.l_slT, PL.l_slL, PL.l_rng3, PL.x_rgl2, PL.x_rgl1, PL.x_rgList, PL.x_rgTup, PL.x_gp3, PL.x_gp2, PL.x_gp1, PL.x_getP, PL.x_mt2, PL.x_mt1, PL.x_meth1, PL.l_isL, PL.x_XRo, PL.x_XRe, PL.x_calX, PL.x_calXe, PL.x_callX, PL.x_rai1, PL.x_rai, PL.x_try3, PL.x_try2, PL.x_try2f, PL.x_try1, PL.x_try1r, PL.x_try1n, PL.x_tryR, PL.x_exu1, PL.x_exb1, PL.x_exc1, PL.x_exc2, PL.x_exm1, PL.x_exSB, PL.x_exr1, PL.x_exe1, PL.x_exi1, PL.x_exRT, List.getElem?_cons_zero, List.getElem?_cons_succ, List.set_cons_zero, List.set_cons_succ, List.length_cons, List.length_nil, List.map_cons, List.map_nil, List.replicate_succ, List.replicate_zero, List.cons_append, List.nil_append, Nat.zero_add, Nat.add_zero, Nat.reduceAdd, Nat.reduceSub, Nat.reduceMul, Nat.reduceLT, Nat.reduceEqDiff, Bool.not_true, Bool.not_false, Bool.true_and, Bool.false_and, Bool.and_true, Bool.and_false, Bool.true_or, Bool.false_or, Bool.or_true, Bool.or_false, List.all_cons, List.all_nil, PL.nl_len, List.length_map, List.length_range, isiT, tyD, Option.map_some, Option.map_none, ne_eq, not_false_eq_true, not_true_eq_false, decide_true, decide_false, eq_self, implies_true, gt_iff_lt, ge_iff_le, m_is_whole, b_is_whole, is_integer_ok]
theorem need_base_ok {b : Nat} (h : 2 ≤ b ∧ b ≤ 1000) : m_need_base [.int b] = .ok (.fr (.int b)) := by
  simp -implicitDefEqProofs (disch := (first | omega | assumption)) only [PL.x_Rof, PL.x_cst, PL.x_var, PL.x_var1f, PL.x_var1l, PL.x_var1d, PL.x_pk, PL.x_pk1f, PL.x_pk1l, PL.x_pk1d, PL.x_pk1i, PL.x_pkF, PL.x_un1, PL.x_un, PL.x_truF, PL.x_bOf, PL.x_tstF, PL.x_notT, PL.x_bin1, PL.x_bin, PL.x_bp3, PL.x_bp2, PL.x_bp1, PL.x_binP, PL.x_andT, PL.x_orT, PL.x_and1t, PL.x_and1f, PL.x_or1t, PL.x_or1f, PL.x_andV, PL.x_orV, PL.x_andV1t, PL.x_andV1f, PL.x_orV1t, PL.x_orV1f, PL.x_ifE, PL.x_ifE1t, PL.x_ifE1f, PL.x_chainD, PL.x_ch1, PL.x_ch2, PL.x_ch3t, PL.x_ch3f, PL.x_nilA, PL.x_consA, PL.x_cons1, PL.x_cons2, PL.x_few, PL.x_mk1, PL.x_tupD, PL.x_lstD, PL.x_lstO, PL.x_dctO0, PL.x_frO, PL.x_cb, PL.x_noP, PL.x_iOf, PL.x_someP, PL.x_sl31, PL.x_sl32, PL.x_sl3, PL.x_slK1, PL.x_slK, PL.x_frF, PL.x_frS, PL.x_cal1, PL.x_callF, PL.x_callO, PL.x_FMof, PL.x_cm1, PL.x_cm2, PL.x_cm3, PL.x_callM, PL.x_FMO, PL.x_cmo1, PL.x_cmo2, PL.x_callMO, PL.x_frzR, PL.x_itF, PL.x_rngF, PL.x_OLof, PL.x_lc2, PL.x_lc1, PL.x_lcO, PL.x_cat1, PL.x_catO, PL.x_cp1, PL.x_cp2, PL.x_cp3, PL.x_catPO, PL.x_SBn, PL.x_SBr, PL.x_skipS, PL.x_badS, PL.x_seqS, PL.x_nxO, PL.x_set1, PL.x_setS, PL.x_setO1f, PL.x_setO1l, PL.x_setO1d, PL.x_setOS, PL.x_ret1, PL.x_retO1, PL.x_exp1, PL.x_retS, PL.x_retOS, PL.x_exprS, PL.x_ifS, PL.x_if1t, PL.x_if1f, PL.x_asg1, PL.x_asgS, PL.x_argsP0, PL.x_ap1f, PL.x_ap1l, PL.x_ap1d, PL.x_ap2, PL.x_argsP, PL.x_par1, PL.x_parP, PL.x_putP0, PL.x_pp1, PL.x_putP, PL.x_app1, PL.x_app2, PL.x_nxB, PL.x_app3, PL.x_appS, PL.x_dp1, PL.x_dp2, PL.x_dp3, PL.x_dp4, PL.x_dputS, PL.x_keyI, PL.x_keyS, PL.x_up1, PL.x_up2, PL.x_up3, PL.x_updS, PL.x_for1, PL.x_forS, PL.x_RTr, PL.x_RTn, PL.x_rf1, PL.x_runF, PL.x_RMr, PL.x_RMn, PL.x_MIo, PL.x_ioOf, PL.x_rm1, PL.x_runM, PL.x_putR, PL.x_putR0f, PL.x_putR0l, PL.x_putR0d, PL.x_putR0n, PL.x_noIof, PL.x_noIol, PL.x_noIod, PL.x_noIon, PL.x_tgN, PL.x_tgT, PL.x_putAll0, PL.x_pa1, PL.x_putAll, PL.x_dAt, PL.x_dSlo, PL.x_dSli, PL.x_dPut, PL.x_dPuo, PL.x_dPui, PL.x_lAt, PL.x_lSl, PL.x_envOf, PL.x_envM, PL.x_toDl, PL.x_toDd, PL.x_toDf, PL.x_nof, PL.x_nol, PL.x_nod, PL.x_okW, PL.x_wipe0, PL.x_wipe, PL.x_yesT, PL.n_add, PL.n_mul, PL.n_mod, PL.n_div, PL.n_sub, PL.n_lt, PL.n_le, PL.n_eq, PL.d_t, PL.d_f, PL.y_add, PL.y_sub, PL.y_mod, PL.y_div, PL.y_mulL, PL.y_mulR, PL.y_lt, PL.y_le, PL.y_gt, PL.y_ge, PL.y_cmp, PL.y_eq, PL.y_ne, PL.y_int, PL.y_notD, PL.y_truB, PL.y_neg, PL.y_isi_n, PL.y_isi_b, PL.y_isi_i, PL.y_isi_s, PL.y_isi_l, PL.y_isi_t, PL.y_isi_d, PL.y_isi_c, PL.l_len, PL.l_lenT, PL.l_it, PL.l_itT, PL.l_tuple, PL.l_list, PL.l_listL, PL.l_ix, PL.l_ixT, PL.l_sum, PL.l_eq, PL.l_ne, PL.l_eq0, PL.l_ne0, PL.l_eqT, PL.l_in, PL.l_nin, PL.l_cat, PL.l_catT, PL.l_stp, PL.l_rng1, PL.l_rng2, PL.x_fb, PL.x_fb1, PL.l_eq00, PL.l_ne00, PL.l_eq01, PL.l_ne01, PL.l_lenS, PL.x_ODof, PL.x_dc2, PL.x_dc1, PL.x_dcO, PL.l_nin_tk, PL.l_in_tk, PL.l_min, PL.l_slT, PL.l_slL, PL.l_rng3, PL.x_rgl2, PL.x_rgl1, PL.x_rgList, PL.x_rgTup, PL.x_gp3, PL.x_gp2, PL.x_gp1, PL.x_getP, PL.x_mt2, PL.x_mt1, PL.x_meth1, PL.l_isL, PL.x_XRo, PL.x_XRe, PL.x_calX, PL.x_calXe, PL.x_callX, PL.x_rai1, PL.x_rai, PL.x_try3, PL.x_try2, PL.x_try2f, PL.x_try1, PL.x_try1r, PL.x_try1n, PL.x_tryR, PL.x_exu1, PL.x_exb1, PL.x_exc1, PL.x_exc2, PL.x_exm1, PL.x_exSB, PL.x_exr1, PL.x_exe1, PL.x_exi1, PL.x_exRT, List.getElem?_cons_zero, List.getElem?_cons_succ, List.set_cons_zero, List.set_cons_succ, List.length_cons, List.length_nil, List.map_cons, List.map_nil, List.replicate_succ, List.replicate_zero, List.cons_append, List.nil_append, Nat.zero_add, Nat.add_zero, Nat.reduceAdd, Nat.reduceSub, Nat.reduceMul, Nat.reduceLT, Nat.reduceEqDiff, Bool.not_true, Bool.not_false, Bool.true_and, Bool.false_and, Bool.and_true, Bool.and_false, Bool.true_or, Bool.false_or, Bool.or_true, Bool.or_false, List.all_cons, List.all_nil, PL.nl_len, List.length_map, List.length_range, isiT, tyD, Option.map_some, Option.map_none, ne_eq, not_false_eq_true, not_true_eq_false, decide_true, decide_false, eq_self, implies_true, gt_iff_lt, ge_iff_le, m_need_base, b_need_base, is_whole_ok]
theorem need_denominator_ok {n : Nat} (h : 1 ≤ n ∧ n ≤ 5000) : m_need_denominator [.int n] = .ok (.fr (.int n)) := by
  simp -implicitDefEqProofs (disch := (first | omega | assumption)) only [PL.x_Rof, PL.x_cst, PL.x_var, PL.x_var1f, PL.x_var1l, PL.x_var1d, PL.x_pk, PL.x_pk1f, PL.x_pk1l, PL.x_pk1d, PL.x_pk1i, PL.x_pkF, PL.x_un1, PL.x_un, PL.x_truF, PL.x_bOf, PL.x_tstF, PL.x_notT, PL.x_bin1, PL.x_bin, PL.x_bp3, PL.x_bp2, PL.x_bp1, PL.x_binP, PL.x_andT, PL.x_orT, PL.x_and1t, PL.x_and1f, PL.x_or1t, PL.x_or1f, PL.x_andV, PL.x_orV, PL.x_andV1t, PL.x_andV1f, PL.x_orV1t, PL.x_orV1f, PL.x_ifE, PL.x_ifE1t, PL.x_ifE1f, PL.x_chainD, PL.x_ch1, PL.x_ch2, PL.x_ch3t, PL.x_ch3f, PL.x_nilA, PL.x_consA, PL.x_cons1, PL.x_cons2, PL.x_few, PL.x_mk1, PL.x_tupD, PL.x_lstD, PL.x_lstO, PL.x_dctO0, PL.x_frO, PL.x_cb, PL.x_noP, PL.x_iOf, PL.x_someP, PL.x_sl31, PL.x_sl32, PL.x_sl3, PL.x_slK1, PL.x_slK, PL.x_frF, PL.x_frS, PL.x_cal1, PL.x_callF, PL.x_callO, PL.x_FMof, PL.x_cm1, PL.x_cm2, PL.x_cm3, PL.x_callM, PL.x_FMO, PL.x_cmo1, PL.x_cmo2, PL.x_callMO, PL.x_frzR, PL.x_itF, PL.x_rngF, PL.x_OLof, PL.x_lc2, PL.x_lc1, PL.x_lcO, PL.x_cat1, PL.x_catO, PL.x_cp1, PL.x_cp2, PL.x_cp3, PL.x_catPO, PL.x_SBn, PL.x_SBr, PL.x_skipS, PL.x_badS, PL.x_seqS, PL.x_nxO, PL.x_set1, PL.x_setS, PL.x_setO1f, PL.x_setO1l, PL.x_setO1d, PL.x_setOS, PL.x_ret1, PL.x_retO1, PL.x_exp1, PL.x_retS, PL.x_retOS, PL.x_exprS, PL.x_ifS, PL.x_if1t, PL.x_if1f, PL.x_asg1, PL.x_asgS, PL.x_argsP0, PL.x_ap1f, PL.x_ap1l, PL.x_ap1d, PL.x_ap2, PL.x_argsP, PL.x_par1, PL.x_parP, PL.x_putP0, PL.x_pp1, PL.x_putP, PL.x_app1, PL.x_app2, PL.x_nxB, PL.x_app3, PL.x_appS, PL.x_dp1, PL.x_dp2, PL.x_dp3, PL.x_dp4, PL.x_dputS, PL.x_keyI, PL.x_keyS, PL.x_up1, PL.x_up2, PL.x_up3, PL.x_updS, PL.x_for1, PL.x_forS, PL.x_RTr, PL.x_RTn, PL.x_rf1, PL.x_runF, PL.x_RMr, PL.x_RMn, PL.x_MIo, PL.x_ioOf, PL.x_rm1, PL.x_runM, PL.x_putR, PL.x_putR0f, PL.x_putR0l, PL.x_putR0d, PL.x_putR0n, PL.x_noIof, PL.x_noIol, PL.x_noIod, PL.x_noIon, PL.x_tgN, PL.x_tgT, PL.x_putAll0, PL.x_pa1, PL.x_putAll, PL.x_dAt, PL.x_dSlo, PL.x_dSli, PL.x_dPut, PL.x_dPuo, PL.x_dPui, PL.x_lAt, PL.x_lSl, PL.x_envOf, PL.x_envM, PL.x_toDl, PL.x_toDd, PL.x_toDf, PL.x_nof, PL.x_nol, PL.x_nod, PL.x_okW, PL.x_wipe0, PL.x_wipe, PL.x_yesT, PL.n_add, PL.n_mul, PL.n_mod, PL.n_div, PL.n_sub, PL.n_lt, PL.n_le, PL.n_eq, PL.d_t, PL.d_f, PL.y_add, PL.y_sub, PL.y_mod, PL.y_div, PL.y_mulL, PL.y_mulR, PL.y_lt, PL.y_le, PL.y_gt, PL.y_ge, PL.y_cmp, PL.y_eq, PL.y_ne, PL.y_int, PL.y_notD, PL.y_truB, PL.y_neg, PL.y_isi_n, PL.y_isi_b, PL.y_isi_i, PL.y_isi_s, PL.y_isi_l, PL.y_isi_t, PL.y_isi_d, PL.y_isi_c, PL.l_len, PL.l_lenT, PL.l_it, PL.l_itT, PL.l_tuple, PL.l_list, PL.l_listL, PL.l_ix, PL.l_ixT, PL.l_sum, PL.l_eq, PL.l_ne, PL.l_eq0, PL.l_ne0, PL.l_eqT, PL.l_in, PL.l_nin, PL.l_cat, PL.l_catT, PL.l_stp, PL.l_rng1, PL.l_rng2, PL.x_fb, PL.x_fb1, PL.l_eq00, PL.l_ne00, PL.l_eq01, PL.l_ne01, PL.l_lenS, PL.x_ODof, PL.x_dc2, PL.x_dc1, PL.x_dcO, PL.l_nin_tk, PL.l_in_tk, PL.l_min, PL.l_slT, PL.l_slL, PL.l_rng3, PL.x_rgl2, PL.x_rgl1, PL.x_rgList, PL.x_rgTup, PL.x_gp3, PL.x_gp2, PL.x_gp1, PL.x_getP, PL.x_mt2, PL.x_mt1, PL.x_meth1, PL.l_isL, PL.x_XRo, PL.x_XRe, PL.x_calX, PL.x_calXe, PL.x_callX, PL.x_rai1, PL.x_rai, PL.x_try3, PL.x_try2, PL.x_try2f, PL.x_try1, PL.x_try1r, PL.x_try1n, PL.x_tryR, PL.x_exu1, PL.x_exb1, PL.x_exc1, PL.x_exc2, PL.x_exm1, PL.x_exSB, PL.x_exr1, PL.x_exe1, PL.x_exi1, PL.x_exRT, List.getElem?_cons_zero, List.getElem?_cons_succ, List.set_cons_zero, List.set_cons_succ, List.length_cons, List.length_nil, List.map_cons, List.map_nil, List.replicate_succ, List.replicate_zero, List.cons_append, List.nil_append, Nat.zero_add, Nat.add_zero, Nat.reduceAdd, Nat.reduceSub, Nat.reduceMul, Nat.reduceLT, Nat.reduceEqDiff, Bool.not_true, Bool.not_false, Bool.true_and, Bool.false_and, Bool.and_true, Bool.and_false, Bool.true_or, Bool.false_or, Bool.or_true, Bool.or_false, List.all_cons, List.all_nil, PL.nl_len, List.length_map, List.length_range, isiT, tyD, Option.map_some, Option.map_none, ne_eq, not_false_eq_true, not_true_eq_false, decide_true, decide_false, eq_self, implies_true, gt_iff_lt, ge_iff_le, m_need_denominator, b_need_denominator, is_whole_ok]
/-! powers -/
theorem mul_mod_cong {a a' b b' n : Nat} (h1 : a % n = a' % n) (h2 : b % n = b' % n) : a * b % n = a' * b' % n := by rw [Nat.mul_mod, h1, h2, ← Nat.mul_mod]
theorem pow_mod_cong {a a' n : Nat} (k : Nat) (h : a % n = a' % n) : a ^ k % n = a' ^ k % n := by rw [Nat.pow_mod, h, ← Nat.pow_mod]
theorem pr_odd (f s n l : Nat) (h : l % 2 = 1) : (f * s % n * (s * s % n) ^ (l / 2)) % n = (f * s ^ l) % n := by
  have e : f * s ^ l = f * s * (s * s) ^ (l / 2) := by
    rw [← Nat.pow_two, ← Nat.pow_mul, Nat.mul_assoc, ← Nat.pow_succ']
    congr 2
    omega
  rw [e]
  exact mul_mod_cong (Nat.mod_mod _ _) (pow_mod_cong _ (Nat.mod_mod _ _))
theorem pr_even (f s n l : Nat) (h : ¬ l % 2 = 1) : (f * (s * s % n) ^ (l / 2)) % n = (f * s ^ l) % n := by
  have e : f * s ^ l = f * (s * s) ^ (l / 2) := by
    rw [← Nat.pow_two, ← Nat.pow_mul]
    congr 2
    omega
  rw [e]
  exact mul_mod_cong rfl (pow_mod_cong _ (Nat.mod_mod _ _))
theorem half_lt {l k : Nat} (hz : l ≠ 0) (hl : l < 2 ^ k) : 0 < k ∧ l / 2 < 2 ^ (k - 1) := by
  cases k with
  | zero => omega
  | succ k =>
    rw [Nat.pow_succ] at hl
    simp only [Nat.add_sub_cancel]
    omega
theorem power_rest_ok {b t n : Nat} (hn : 0 < n ∧ n < 2 ^ 31) (ht : t < 2 ^ 10000) : m_power_rest [.int b, .int t, .int n] = .ok (.fr (.int (b ^ t % n : Nat))) := by
  have loop : ∀ (k f s l g : Nat), l < 2 ^ k → k < g → f < n → s < n → ∃ s', whS (tstF (bin gtD (var 5) (cst (.int (0 : Nat))))) (seqS (ifS (tstF (bin eqD (bin modD (var 5) (cst (.int (2 : Nat)))) (cst (.int (1 : Nat))))) (setS 3 (bin modD (bin mulD (var 3) (pkF 4)) (pkF 2))) (skipS)) (seqS (setS 4 (bin modD (bin mulD (var 4) (pkF 4)) (pkF 2))) (setS 5 (bin fdivD (var 5) (cst (.int (2 : Nat))))))) g [I b, I t, I n, I f, I s, I l] = .nx [I b, I t, I n, I (f * s ^ l % n : Nat), s', I (0 : Nat)] := by
    intro k
    induction k with
    | zero =>
      intro f s l g hl hg hf hs
      obtain ⟨g, rfl⟩ : ∃ g', g = g' + 1 := ⟨g - 1, by omega⟩
      have : l = 0 := by simp at hl; exact hl
      subst this
      refine ⟨I s, ?_⟩
      simp -implicitDefEqProofs (disch := (first | omega | assumption)) only [PL.x_Rof, PL.x_cst, PL.x_var, PL.x_var1f, PL.x_var1l, PL.x_var1d, PL.x_pk, PL.x_pk1f, PL.x_pk1l, PL.x_pk1d, PL.x_pk1i, PL.x_pkF, PL.x_un1, PL.x_un, PL.x_truF, PL.x_bOf, PL.x_tstF, PL.x_notT, PL.x_bin1, PL.x_bin, PL.x_bp3, PL.x_bp2, PL.x_bp1, PL.x_binP, PL.x_andT, PL.x_orT, PL.x_and1t, PL.x_and1f, PL.x_or1t, PL.x_or1f, PL.x_andV, PL.x_orV, PL.x_andV1t, PL.x_andV1f, PL.x_orV1t, PL.x_orV1f, PL.x_ifE, PL.x_ifE1t, PL.x_ifE1f, PL.x_chainD, PL.x_ch1, PL.x_ch2, PL.x_ch3t, PL.x_ch3f, PL.x_nilA, PL.x_consA, PL.x_cons1, PL.x_cons2, PL.x_few, PL.x_mk1, PL.x_tupD, PL.x_lstD, PL.x_lstO, PL.x_dctO0, PL.x_frO, PL.x_cb, PL.x_noP, PL.x_iOf, PL.x_someP, PL.x_sl31, PL.x_sl32, PL.x_sl3, PL.x_slK1, PL.x_slK, PL.x_frF, PL.x_frS, PL.x_cal1, PL.x_callF, PL.x_callO, PL.x_FMof, PL.x_cm1, PL.x_cm2, PL.x_cm3, PL.x_callM, PL.x_FMO, PL.x_cmo1, PL.x_cmo2, PL.x_callMO, PL.x_frzR, PL.x_itF, PL.x_rngF, PL.x_OLof, PL.x_lc2, PL.x_lc1, PL.x_lcO, PL.x_cat1, PL.x_catO, PL.x_cp1, PL.x_cp2, PL.x_cp3, PL.x_catPO, PL.x_SBn, PL.x_SBr, PL.x_skipS, PL.x_badS, PL.x_seqS, PL.x_nxO, PL.x_set1, PL.x_setS, PL.x_setO1f, PL.x_setO1l, PL.x_setO1d, PL.x_setOS, PL.x_ret1, PL.x_retO1, PL.x_exp1, PL.x_retS, PL.x_retOS, PL.x_exprS, PL.x_ifS, PL.x_if1t, PL.x_if1f, PL.x_asg1, PL.x_asgS, PL.x_argsP0, PL.x_ap1f, PL.x_ap1l, PL.x_ap1d, PL.x_ap2, PL.x_argsP, PL.x_par1, PL.x_parP, PL.x_putP0, PL.x_pp1, PL.x_putP, PL.x_app1, PL.x_app2, PL.x_nxB, PL.x_app3, PL.x_appS, PL.x_dp1, PL.x_dp2, PL.x_dp3, PL.x_dp4, PL.x_dputS, PL.x_keyI, PL.x_keyS, PL.x_up1, PL.x_up2, PL.x_up3, PL.x_updS, PL.x_for1, PL.x_forS, PL.x_RTr, PL.x_RTn, PL.x_rf1, PL.x_runF, PL.x_RMr, PL.x_RMn, PL.x_MIo, PL.x_ioOf, PL.x_rm1, PL.x_runM, PL.x_putR, PL.x_putR0f, PL.x_putR0l, PL.x_putR0d, PL.x_putR0n, PL.x_noIof, PL.x_noIol, PL.x_noIod, PL.x_noIon, PL.x_tgN, PL.x_tgT, PL.x_putAll0, PL.x_pa1, PL.x_putAll, PL.x_dAt, PL.x_dSlo, PL.x_dSli, PL.x_dPut, PL.x_dPuo, PL.x_dPui, PL.x_lAt, PL.x_lSl, PL.x_envOf, PL.x_envM, PL.x_toDl, PL.x_toDd, PL.x_toDf, PL.x_nof, PL.x_nol, PL.x_nod, PL.x_okW, PL.x_wipe0, PL.x_wipe, PL.x_yesT, PL.n_add, PL.n_mul, PL.n_mod, PL.n_div, PL.n_sub, PL.n_lt, PL.n_le, PL.n_eq, PL.d_t, PL.d_f, PL.y_add, PL.y_sub, PL.y_mod, PL.y_div, PL.y_mulL, PL.y_mulR, PL.y_lt, PL.y_le, PL.y_gt, PL.y_ge, PL.y_cmp, PL.y_eq, PL.y_ne, PL.y_int, PL.y_notD, PL.y_truB, PL.y_neg, PL.y_isi_n, PL.y_isi_b, PL.y_isi_i, PL.y_isi_s, PL.y_isi_l, PL.y_isi_t, PL.y_isi_d, PL.y_isi_c, PL.l_len, PL.l_lenT, PL.l_it, PL.l_itT, PL.l_tuple, PL.l_list, PL.l_listL, PL.l_ix, PL.l_ixT, PL.l_sum, PL.l_eq, PL.l_ne, PL.l_eq0, PL.l_ne0, PL.l_eqT, PL.l_in, PL.l_nin, PL.l_cat, PL.l_catT, PL.l_stp, PL.l_rng1, PL.l_rng2, PL.x_fb, PL.x_fb1, PL.l_eq00, PL.l_ne00, PL.l_eq01, PL.l_ne01, PL.l_lenS, PL.x_ODof, PL.x_dc2, PL.x_dc1, PL.x_dcO, PL.l_nin_tk, PL.l_in_tk, PL.l_min, PL.l_slT, PL.l_slL, PL.l_rng3, PL.x_rgl2, PL.x_rgl1, PL.x_rgList, PL.x_rgTup, PL.x_gp3, PL.x_gp2, PL.x_gp1, PL.x_getP, PL.x_mt2, PL.x_mt1, PL.x_meth1, PL.l_isL, PL.x_XRo, PL.x_XRe, PL.x_calX, PL.x_calXe, PL.x_callX, PL.x_rai1, PL.x_rai, PL.x_try3, PL.x_try2, PL.x_try2f, PL.x_try1, PL.x_try1r, PL.x_try1n, PL.x_tryR, PL.x_exu1, PL.x_exb1, PL.x_exc1, PL.x_exc2, PL.x_exm1, PL.x_exSB, PL.x_exr1, PL.x_exe1, PL.x_exi1, PL.x_exRT, List.getElem?_cons_zero, List.getElem?_cons_succ, List.set_cons_zero, List.set_cons_succ, List.length_cons, List.length_nil, List.map_cons, List.map_nil, List.replicate_succ, List.replicate_zero, List.cons_append, List.nil_append, Nat.zero_add, Nat.add_zero, Nat.reduceAdd, Nat.reduceSub, Nat.reduceMul, Nat.reduceLT, Nat.reduceEqDiff, Bool.not_true, Bool.not_false, Bool.true_and, Bool.false_and, Bool.and_true, Bool.and_false, Bool.true_or, Bool.false_or, Bool.or_true, Bool.or_false, List.all_cons, List.all_nil, PL.nl_len, List.length_map, List.length_range, isiT, tyD, Option.map_some, Option.map_none, ne_eq, not_false_eq_true, not_true_eq_false, decide_true, decide_false, eq_self, implies_true, gt_iff_lt, ge_iff_le, x_wh, x_wh1f, Nat.pow_zero, Nat.mul_one, Nat.mod_eq_of_lt hf]
    | succ k ih =>
      intro f s l g hl hg hf hs
      obtain ⟨g, rfl⟩ : ∃ g', g = g' + 1 := ⟨g - 1, by omega⟩
      by_cases hz : l = 0
      · subst hz
        refine ⟨I s, ?_⟩
        simp -implicitDefEqProofs (disch := (first | omega | assumption)) only [PL.x_Rof, PL.x_cst, PL.x_var, PL.x_var1f, PL.x_var1l, PL.x_var1d, PL.x_pk, PL.x_pk1f, PL.x_pk1l, PL.x_pk1d, PL.x_pk1i, PL.x_pkF, PL.x_un1, PL.x_un, PL.x_truF, PL.x_bOf, PL.x_tstF, PL.x_notT, PL.x_bin1, PL.x_bin, PL.x_bp3, PL.x_bp2, PL.x_bp1, PL.x_binP, PL.x_andT, PL.x_orT, PL.x_and1t, PL.x_and1f, PL.x_or1t, PL.x_or1f, PL.x_andV, PL.x_orV, PL.x_andV1t, PL.x_andV1f, PL.x_orV1t, PL.x_orV1f, PL.x_ifE, PL.x_ifE1t, PL.x_ifE1f, PL.x_chainD, PL.x_ch1, PL.x_ch2, PL.x_ch3t, PL.x_ch3f, PL.x_nilA, PL.x_consA, PL.x_cons1, PL.x_cons2, PL.x_few, PL.x_mk1, PL.x_tupD, PL.x_lstD, PL.x_lstO, PL.x_dctO0, PL.x_frO, PL.x_cb, PL.x_noP, PL.x_iOf, PL.x_someP, PL.x_sl31, PL.x_sl32, PL.x_sl3, PL.x_slK1, PL.x_slK, PL.x_frF, PL.x_frS, PL.x_cal1, PL.x_callF, PL.x_callO, PL.x_FMof, PL.x_cm1, PL.x_cm2, PL.x_cm3, PL.x_callM, PL.x_FMO, PL.x_cmo1, PL.x_cmo2, PL.x_callMO, PL.x_frzR, PL.x_itF, PL.x_rngF, PL.x_OLof, PL.x_lc2, PL.x_lc1, PL.x_lcO, PL.x_cat1, PL.x_catO, PL.x_cp1, PL.x_cp2, PL.x_cp3, PL.x_catPO, PL.x_SBn, PL.x_SBr, PL.x_skipS, PL.x_badS, PL.x_seqS, PL.x_nxO, PL.x_set1, PL.x_setS, PL.x_setO1f, PL.x_setO1l, PL.x_setO1d, PL.x_setOS, PL.x_ret1, PL.x_retO1, PL.x_exp1, PL.x_retS, PL.x_retOS, PL.x_exprS, PL.x_ifS, PL.x_if1t, PL.x_if1f, PL.x_asg1, PL.x_asgS, PL.x_argsP0, PL.x_ap1f, PL.x_ap1l, PL.x_ap1d, PL.x_ap2, PL.x_argsP, PL.x_par1, PL.x_parP, PL.x_putP0, PL.x_pp1, PL.x_putP, PL.x_app1, PL.x_app2, PL.x_nxB, PL.x_app3, PL.x_appS, PL.x_dp1, PL.x_dp2, PL.x_dp3, PL.x_dp4, PL.x_dputS, PL.x_keyI, PL.x_keyS, PL.x_up1, PL.x_up2, PL.x_up3, PL.x_updS, PL.x_for1, PL.x_forS, PL.x_RTr, PL.x_RTn, PL.x_rf1, PL.x_runF, PL.x_RMr, PL.x_RMn, PL.x_MIo, PL.x_ioOf, PL.x_rm1, PL.x_runM, PL.x_putR, PL.x_putR0f, PL.x_putR0l, PL.x_putR0d, PL.x_putR0n, PL.x_noIof, PL.x_noIol, PL.x_noIod, PL.x_noIon, PL.x_tgN, PL.x_tgT, PL.x_putAll0, PL.x_pa1, PL.x_putAll, PL.x_dAt, PL.x_dSlo, PL.x_dSli, PL.x_dPut, PL.x_dPuo, PL.x_dPui, PL.x_lAt, PL.x_lSl, PL.x_envOf, PL.x_envM, PL.x_toDl, PL.x_toDd, PL.x_toDf, PL.x_nof, PL.x_nol, PL.x_nod, PL.x_okW, PL.x_wipe0, PL.x_wipe, PL.x_yesT, PL.n_add, PL.n_mul, PL.n_mod, PL.n_div, PL.n_sub, PL.n_lt, PL.n_le, PL.n_eq, PL.d_t, PL.d_f, PL.y_add, PL.y_sub, PL.y_mod, PL.y_div, PL.y_mulL, PL.y_mulR, PL.y_lt, PL.y_le, PL.y_gt, PL.y_ge, PL.y_cmp, PL.y_eq, PL.y_ne, PL.y_int, PL.y_notD, PL.y_truB, PL.y_neg, PL.y_isi_n, PL.y_isi_b, PL.y_isi_i, PL.y_isi_s, PL.y_isi_l, PL.y_isi_t, PL.y_isi_d, PL.y_isi_c, PL.l_len, PL.l_lenT, PL.l_it, PL.l_itT, PL.l_tuple, PL.l_list, PL.l_listL, PL.l_ix, PL.l_ixT, PL.l_sum, PL.l_eq, PL.l_ne, PL.l_eq0, PL.l_ne0, PL.l_eqT, PL.l_in, PL.l_nin, PL.l_cat, PL.l_catT, PL.l_stp, PL.l_rng1, PL.l_rng2, PL.x_fb, PL.x_fb1, PL.l_eq00, PL.l_ne00, PL.l_eq01, PL.l_ne01, PL.l_lenS, PL.x_ODof, PL.x_dc2, PL.x_dc1, PL.x_dcO, PL.l_nin_tk, PL.l_in_tk, PL.l_min, PL.l_slT, PL.l_slL, PL.l_rng3, PL.x_rgl2, PL.x_rgl1, PL.x_rgList, PL.x_rgTup, PL.x_gp3, PL.x_gp2, PL.x_gp1, PL.x_getP, PL.x_mt2, PL.x_mt1, PL.x_meth1, PL.l_isL, PL.x_XRo, PL.x_XRe, PL.x_calX, PL.x_calXe, PL.x_callX, PL.x_rai1, PL.x_rai, PL.x_try3, PL.x_try2, PL.x_try2f, PL.x_try1, PL.x_try1r, PL.x_try1n, PL.x_tryR, PL.x_exu1, PL.x_exb1, PL.x_exc1, PL.x_exc2, PL.x_exm1, PL.x_exSB, PL.x_exr1, PL.x_exe1, PL.x_exi1, PL.x_exRT, List.getElem?_cons_zero, List.getElem?_cons_succ, List.set_cons_zero, List.set_cons_succ, List.length_cons, List.length_nil, List.map_cons, List.map_nil, List.replicate_succ, List.replicate_zero, List.cons_append, List.nil_append, Nat.zero_add, Nat.add_zero, Nat.reduceAdd, Nat.reduceSub, Nat.reduceMul, Nat.reduceLT, Nat.reduceEqDiff, Bool.not_true, Bool.not_false, Bool.true_and, Bool.false_and, Bool.and_true, Bool.and_false, Bool.true_or, Bool.false_or, Bool.or_true, Bool.or_false, List.all_cons, List.all_nil, PL.nl_len, List.length_map, List.length_range, isiT, tyD, Option.map_some, Option.map_none, ne_eq, not_false_eq_true, not_true_eq_false, decide_true, decide_false, eq_self, implies_true, gt_iff_lt, ge_iff_le, x_wh, x_wh1f, Nat.pow_zero, Nat.mul_one, Nat.mod_eq_of_lt hf]
      · have h2 := (half_lt hz hl).2
        rw [Nat.add_sub_cancel] at h2
        have hm := fun x => Nat.mod_lt x hn.1
        by_cases ho : l % 2 = 1
        · obtain ⟨s', h⟩ := ih (f * s % n) (s * s % n) (l / 2) g h2 (by omega) (hm _) (hm _)
          refine ⟨s', ?_⟩
          rw [pr_odd f s n l ho] at h
          simp -implicitDefEqProofs (disch := (first | omega | assumption)) only [PL.x_Rof, PL.x_cst, PL.x_var, PL.x_var1f, PL.x_var1l, PL.x_var1d, PL.x_pk, PL.x_pk1f, PL.x_pk1l, PL.x_pk1d, PL.x_pk1i, PL.x_pkF, PL.x_un1, PL.x_un, PL.x_truF, PL.x_bOf, PL.x_tstF, PL.x_notT, PL.x_bin1, PL.x_bin, PL.x_bp3, PL.x_bp2, PL.x_bp1, PL.x_binP, PL.x_andT, PL.x_orT, PL.x_and1t, PL.x_and1f, PL.x_or1t, PL.x_or1f, PL.x_andV, PL.x_orV, PL.x_andV1t, PL.x_andV1f, PL.x_orV1t, PL.x_orV1f, PL.x_ifE, PL.x_ifE1t, PL.x_ifE1f, PL.x_chainD, PL.x_ch1, PL.x_ch2, PL.x_ch3t, PL.x_ch3f, PL.x_nilA, PL.x_consA, PL.x_cons1, PL.x_cons2, PL.x_few, PL.x_mk1, PL.x_tupD, PL.x_lstD, PL.x_lstO, PL.x_dctO0, PL.x_frO, PL.x_cb, PL.x_noP, PL.x_iOf, PL.x_someP, PL.x_sl31, PL.x_sl32, PL.x_sl3, PL.x_slK1, PL.x_slK, PL.x_frF, PL.x_frS, PL.x_cal1, PL.x_callF, PL.x_callO, PL.x_FMof, PL.x_cm1, PL.x_cm2, PL.x_cm3, PL.x_callM, PL.x_FMO, PL.x_cmo1, PL.x_cmo2, PL.x_callMO, PL.x_frzR, PL.x_itF, PL.x_rngF, PL.x_OLof, PL.x_lc2, PL.x_lc1, PL.x_lcO, PL.x_cat1, PL.x_catO, PL.x_cp1, PL.x_cp2, PL.x_cp3, PL.x_catPO, PL.x_SBn, PL.x_SBr, PL.x_skipS, PL.x_badS, PL.x_seqS, PL.x_nxO, PL.x_set1, PL.x_setS, PL.x_setO1f, PL.x_setO1l, PL.x_setO1d, PL.x_setOS, PL.x_ret1, PL.x_retO1, PL.x_exp1, PL.x_retS, PL.x_retOS, PL.x_exprS, PL.x_ifS, PL.x_if1t, PL.x_if1f, PL.x_asg1, PL.x_asgS, PL.x_argsP0, PL.x_ap1f, PL.x_ap1l, PL.x_ap1d, PL.x_ap2, PL.x_argsP, PL.x_par1, PL.x_parP, PL.x_putP0, PL.x_pp1, PL.x_putP, PL.x_app1, PL.x_app2, PL.x_nxB, PL.x_app3, PL.x_appS, PL.x_dp1, PL.x_dp2, PL.x_dp3, PL.x_dp4, PL.x_dputS, PL.x_keyI, PL.x_keyS, PL.x_up1, PL.x_up2, PL.x_up3, PL.x_updS, PL.x_for1, PL.x_forS, PL.x_RTr, PL.x_RTn, PL.x_rf1, PL.x_runF, PL.x_RMr, PL.x_RMn, PL.x_MIo, PL.x_ioOf, PL.x_rm1, PL.x_runM, PL.x_putR, PL.x_putR0f, PL.x_putR0l, PL.x_putR0d, PL.x_putR0n, PL.x_noIof, PL.x_noIol, PL.x_noIod, PL.x_noIon, PL.x_tgN, PL.x_tgT, PL.x_putAll0, PL.x_pa1, PL.x_putAll, PL.x_dAt, PL.x_dSlo, PL.x_dSli, PL.x_dPut, PL.x_dPuo, PL.x_dPui, PL.x_lAt, PL.x_lSl, PL.x_envOf, PL.x_envM, PL.x_toDl, PL.x_toDd, PL.x_toDf, PL.x_nof, PL.x_nol, PL.x_nod, PL.x_okW, PL.x_wipe0, PL.x_wipe, PL.x_yesT, PL.n_add, PL.n_mul, PL.n_mod, PL.n_div, PL.n_sub, PL.n_lt, PL.n_le, PL.n_eq, PL.d_t, PL.d_f, PL.y_add, PL.y_sub, PL.y_mod, PL.y_div, PL.y_mulL, PL.y_mulR, PL.y_lt, PL.y_le, PL.y_gt, PL.y_ge, PL.y_cmp, PL.y_eq, PL.y_ne, PL.y_int, PL.y_notD, PL.y_truB, PL.y_neg, PL.y_isi_n, PL.y_isi_b, PL.y_isi_i, PL.y_isi_s, PL.y_isi_l, PL.y_isi_t, PL.y_isi_d, PL.y_isi_c, PL.l_len, PL.l_lenT, PL.l_it, PL.l_itT, PL.l_tuple, PL.l_list, PL.l_listL, PL.l_ix, PL.l_ixT, PL.l_sum, PL.l_eq, PL.l_ne, PL.l_eq0, PL.l_ne0, PL.l_eqT, PL.l_in, PL.l_nin, PL.l_cat, PL.l_catT, PL.l_stp, PL.l_rng1, PL.l_rng2, PL.x_fb, PL.x_fb1, PL.l_eq00, PL.l_ne00, PL.l_eq01, PL.l_ne01, PL.l_lenS, PL.x_ODof, PL.x_dc2, PL.x_dc1, PL.x_dcO, PL.l_nin_tk, PL.l_in_tk, PL.l_min, PL.l_slT, PL.l_slL, PL.l_rng3, PL.x_rgl2, PL.x_rgl1, PL.x_rgList, PL.x_rgTup, PL.x_gp3, PL.x_gp2, PL.x_gp1, PL.x_getP, PL.x_mt2, PL.x_mt1, PL.x_meth1, PL.l_isL, PL.x_XRo, PL.x_XRe, PL.x_calX, PL.x_calXe, PL.x_callX, PL.x_rai1, PL.x_rai, PL.x_try3, PL.x_try2, PL.x_try2f, PL.x_try1, PL.x_try1r, PL.x_try1n, PL.x_tryR, PL.x_exu1, PL.x_exb1, PL.x_exc1, PL.x_exc2, PL.x_exm1, PL.x_exSB, PL.x_exr1, PL.x_exe1, PL.x_exi1, PL.x_exRT, List.getElem?_cons_zero, List.getElem?_cons_succ, List.set_cons_zero, List.set_cons_succ, List.length_cons, List.length_nil, List.map_cons, List.map_nil, List.replicate_succ, List.replicate_zero, List.cons_append, List.nil_append, Nat.zero_add, Nat.add_zero, Nat.reduceAdd, Nat.reduceSub, Nat.reduceMul, Nat.reduceLT, Nat.reduceEqDiff, Bool.not_true, Bool.not_false, Bool.true_and, Bool.false_and, Bool.and_true, Bool.and_false, Bool.true_or, Bool.false_or, Bool.or_true, Bool.or_false, List.all_cons, List.all_nil, PL.nl_len, List.length_map, List.length_range, isiT, tyD, Option.map_some, Option.map_none, ne_eq, not_false_eq_true, not_true_eq_false, decide_true, decide_false, eq_self, implies_true, gt_iff_lt, ge_iff_le, x_wh, x_wh1t, x_wh2n, h]
        · obtain ⟨s', h⟩ := ih f (s * s % n) (l / 2) g h2 (by omega) hf (hm _)
          refine ⟨s', ?_⟩
          rw [pr_even f s n l ho] at h
          simp -implicitDefEqProofs (disch := (first | omega | assumption)) only [PL.x_Rof, PL.x_cst, PL.x_var, PL.x_var1f, PL.x_var1l, PL.x_var1d, PL.x_pk, PL.x_pk1f, PL.x_pk1l, PL.x_pk1d, PL.x_pk1i, PL.x_pkF, PL.x_un1, PL.x_un, PL.x_truF, PL.x_bOf, PL.x_tstF, PL.x_notT, PL.x_bin1, PL.x_bin, PL.x_bp3, PL.x_bp2, PL.x_bp1, PL.x_binP, PL.x_andT, PL.x_orT, PL.x_and1t, PL.x_and1f, PL.x_or1t, PL.x_or1f, PL.x_andV, PL.x_orV, PL.x_andV1t, PL.x_andV1f, PL.x_orV1t, PL.x_orV1f, PL.x_ifE, PL.x_ifE1t, PL.x_ifE1f, PL.x_chainD, PL.x_ch1, PL.x_ch2, PL.x_ch3t, PL.x_ch3f, PL.x_nilA, PL.x_consA, PL.x_cons1, PL.x_cons2, PL.x_few, PL.x_mk1, PL.x_tupD, PL.x_lstD, PL.x_lstO, PL.x_dctO0, PL.x_frO, PL.x_cb, PL.x_noP, PL.x_iOf, PL.x_someP, PL.x_sl31, PL.x_sl32, PL.x_sl3, PL.x_slK1, PL.x_slK, PL.x_frF, PL.x_frS, PL.x_cal1, PL.x_callF, PL.x_callO, PL.x_FMof, PL.x_cm1, PL.x_cm2, PL.x_cm3, PL.x_callM, PL.x_FMO, PL.x_cmo1, PL.x_cmo2, PL.x_callMO, PL.x_frzR, PL.x_itF, PL.x_rngF, PL.x_OLof, PL.x_lc2, PL.x_lc1, PL.x_lcO, PL.x_cat1, PL.x_catO, PL.x_cp1, PL.x_cp2, PL.x_cp3, PL.x_catPO, PL.x_SBn, PL.x_SBr, PL.x_skipS, PL.x_badS, PL.x_seqS, PL.x_nxO, PL.x_set1, PL.x_setS, PL.x_setO1f, PL.x_setO1l, PL.x_setO1d, PL.x_setOS, PL.x_ret1, PL.x_retO1, PL.x_exp1, PL.x_retS, PL.x_retOS, PL.x_exprS, PL.x_ifS, PL.x_if1t, PL.x_if1f, PL.x_asg1, PL.x_asgS, PL.x_argsP0, PL.x_ap1f, PL.x_ap1l, PL.x_ap1d, PL.x_ap2, PL.x_argsP, PL.x_par1, PL.x_parP, PL.x_putP0, PL.x_pp1, PL.x_putP, PL.x_app1, PL.x_app2, PL.x_nxB, PL.x_app3, PL.x_appS, PL.x_dp1, PL.x_dp2, PL.x_dp3, PL.x_dp4, PL.x_dputS, PL.x_keyI, PL.x_keyS, PL.x_up1, PL.x_up2, PL.x_up3, PL.x_updS, PL.x_for1, PL.x_forS, PL.x_RTr, PL.x_RTn, PL.x_rf1, PL.x_runF, PL.x_RMr, PL.x_RMn, PL.x_MIo, PL.x_ioOf, PL.x_rm1, PL.x_runM, PL.x_putR, PL.x_putR0f, PL.x_putR0l, PL.x_putR0d, PL.x_putR0n, PL.x_noIof, PL.x_noIol, PL.x_noIod, PL.x_noIon, PL.x_tgN, PL.x_tgT, PL.x_putAll0, PL.x_pa1, PL.x_putAll, PL.x_dAt, PL.x_dSlo, PL.x_dSli, PL.x_dPut, PL.x_dPuo, PL.x_dPui, PL.x_lAt, PL.x_lSl, PL.x_envOf, PL.x_envM, PL.x_toDl, PL.x_toDd, PL.x_toDf, PL.x_nof, PL.x_nol, PL.x_nod, PL.x_okW, PL.x_wipe0, PL.x_wipe, PL.x_yesT, PL.n_add, PL.n_mul, PL.n_mod, PL.n_div, PL.n_sub, PL.n_lt, PL.n_le, PL.n_eq, PL.d_t, PL.d_f, PL.y_add, PL.y_sub, PL.y_mod, PL.y_div, PL.y_mulL, PL.y_mulR, PL.y_lt, PL.y_le, PL.y_gt, PL.y_ge, PL.y_cmp, PL.y_eq, PL.y_ne, PL.y_int, PL.y_notD, PL.y_truB, PL.y_neg, PL.y_isi_n, PL.y_isi_b, PL.y_isi_i, PL.y_isi_s, PL.y_isi_l, PL.y_isi_t, PL.y_isi_d, PL.y_isi_c, PL.l_len, PL.l_lenT, PL.l_it, PL.l_itT, PL.l_tuple, PL.l_list, PL.l_listL, PL.l_ix, PL.l_ixT, PL.l_sum, PL.l_eq, PL.l_ne, PL.l_eq0, PL.l_ne0, PL.l_eqT, PL.l_in, PL.l_nin, PL.l_cat, PL.l_catT, PL.l_stp, PL.l_rng1, PL.l_rng2, PL.x_fb, PL.x_fb1, PL.l_eq00, PL.l_ne00, PL.l_eq01, PL.l_ne01, PL.l_lenS, PL.x_ODof, PL.x_dc2, PL.x_dc1, PL.x_dcO, PL.l_nin_tk, PL.l_in_tk, PL.l_min, PL.l_slT, PL.l_slL, PL.l_rng3, PL.x_rgl2, PL.x_rgl1, PL.x_rgList, PL.x_rgTup, PL.x_gp3, PL.x_gp2, PL.x_gp1, PL.x_getP, PL.x_mt2, PL.x_mt1, PL.x_meth1, PL.l_isL, PL.x_XRo, PL.x_XRe, PL.x_calX, PL.x_calXe, PL.x_callX, PL.x_rai1, PL.x_rai, PL.x_try3, PL.x_try2, PL.x_try2f, PL.x_try1, PL.x_try1r, PL.x_try1n, PL.x_tryR, PL.x_exu1, PL.x_exb1, PL.x_exc1, PL.x_exc2, PL.x_exm1, PL.x_exSB, PL.x_exr1, PL.x_exe1, PL.x_exi1, PL.x_exRT, List.getElem?_cons_zero, List.getElem?_cons_succ, List.set_cons_zero, List.set_cons_succ, List.length_cons, List.length_nil, List.map_cons, List.map_nil, List.replicate_succ, List.replicate_zero, List.cons_append, List.nil_append, Nat.zero_add, Nat.add_zero, Nat.reduceAdd, Nat.reduceSub, Nat.reduceMul, Nat.reduceLT, Nat.reduceEqDiff, Bool.not_true, Bool.not_false, Bool.true_and, Bool.false_and, Bool.and_true, Bool.and_false, Bool.true_or, Bool.false_or, Bool.or_true, Bool.or_false, List.all_cons, List.all_nil, PL.nl_len, List.length_map, List.length_range, isiT, tyD, Option.map_some, Option.map_none, ne_eq, not_false_eq_true, not_true_eq_false, decide_true, decide_false, eq_self, implies_true, gt_iff_lt, ge_iff_le, x_wh, x_wh1t, x_wh2n, h]
  obtain ⟨s', h⟩ := loop 10000 (1 % n) (b % n) t 1000000 ht (by omega) (Nat.mod_lt _ hn.1) (Nat.mod_lt _ hn.1)
  have e : 1 % n * (b % n) ^ t % n = b ^ t % n := (mul_mod_cong (Nat.mod_mod _ _) (pow_mod_cong _ (Nat.mod_mod _ _))).trans (by rw [Nat.one_mul])
  rw [e] at h
  simp -implicitDefEqProofs (disch := (first | omega | assumption)) only [PL.x_Rof, PL.x_cst, PL.x_var, PL.x_var1f, PL.x_var1l, PL.x_var1d, PL.x_pk, PL.x_pk1f, PL.x_pk1l, PL.x_pk1d, PL.x_pk1i, PL.x_pkF, PL.x_un1, PL.x_un, PL.x_truF, PL.x_bOf, PL.x_tstF, PL.x_notT, PL.x_bin1, PL.x_bin, PL.x_bp3, PL.x_bp2, PL.x_bp1, PL.x_binP, PL.x_andT, PL.x_orT, PL.x_and1t, PL.x_and1f, PL.x_or1t, PL.x_or1f, PL.x_andV, PL.x_orV, PL.x_andV1t, PL.x_andV1f, PL.x_orV1t, PL.x_orV1f, PL.x_ifE, PL.x_ifE1t, PL.x_ifE1f, PL.x_chainD, PL.x_ch1, PL.x_ch2, PL.x_ch3t, PL.x_ch3f, PL.x_nilA, PL.x_consA, PL.x_cons1, PL.x_cons2, PL.x_few, PL.x_mk1, PL.x_tupD, PL.x_lstD, PL.x_lstO, PL.x_dctO0, PL.x_frO, PL.x_cb, PL.x_noP, PL.x_iOf, PL.x_someP, PL.x_sl31, PL.x_sl32, PL.x_sl3, PL.x_slK1, PL.x_slK, PL.x_frF, PL.x_frS, PL.x_cal1, PL.x_callF, PL.x_callO, PL.x_FMof, PL.x_cm1, PL.x_cm2, PL.x_cm3, PL.x_callM, PL.x_FMO, PL.x_cmo1, PL.x_cmo2, PL.x_callMO, PL.x_frzR, PL.x_itF, PL.x_rngF, PL.x_OLof, PL.x_lc2, PL.x_lc1, PL.x_lcO, PL.x_cat1, PL.x_catO, PL.x_cp1, PL.x_cp2, PL.x_cp3, PL.x_catPO, PL.x_SBn, PL.x_SBr, PL.x_skipS, PL.x_badS, PL.x_seqS, PL.x_nxO, PL.x_set1, PL.x_setS, PL.x_setO1f, PL.x_setO1l, PL.x_setO1d, PL.x_setOS, PL.x_ret1, PL.x_retO1, PL.x_exp1, PL.x_retS, PL.x_retOS, PL.x_exprS, PL.x_ifS, PL.x_if1t, PL.x_if1f, PL.x_asg1, PL.x_asgS, PL.x_argsP0, PL.x_ap1f, PL.x_ap1l, PL.x_ap1d, PL.x_ap2, PL.x_argsP, PL.x_par1, PL.x_parP, PL.x_putP0, PL.x_pp1, PL.x_putP, PL.x_app1, PL.x_app2, PL.x_nxB, PL.x_app3, PL.x_appS, PL.x_dp1, PL.x_dp2, PL.x_dp3, PL.x_dp4, PL.x_dputS, PL.x_keyI, PL.x_keyS, PL.x_up1, PL.x_up2, PL.x_up3, PL.x_updS, PL.x_for1, PL.x_forS, PL.x_RTr, PL.x_RTn, PL.x_rf1, PL.x_runF, PL.x_RMr, PL.x_RMn, PL.x_MIo, PL.x_ioOf, PL.x_rm1, PL.x_runM, PL.x_putR, PL.x_putR0f, PL.x_putR0l, PL.x_putR0d, PL.x_putR0n, PL.x_noIof, PL.x_noIol, PL.x_noIod, PL.x_noIon, PL.x_tgN, PL.x_tgT, PL.x_putAll0, PL.x_pa1, PL.x_putAll, PL.x_dAt, PL.x_dSlo, PL.x_dSli, PL.x_dPut, PL.x_dPuo, PL.x_dPui, PL.x_lAt, PL.x_lSl, PL.x_envOf, PL.x_envM, PL.x_toDl, PL.x_toDd, PL.x_toDf, PL.x_nof, PL.x_nol, PL.x_nod, PL.x_okW, PL.x_wipe0, PL.x_wipe, PL.x_yesT, PL.n_add, PL.n_mul, PL.n_mod, PL.n_div, PL.n_sub, PL.n_lt, PL.n_le, PL.n_eq, PL.d_t, PL.d_f, PL.y_add, PL.y_sub, PL.y_mod, PL.y_div, PL.y_mulL, PL.y_mulR, PL.y_lt, PL.y_le, PL.y_gt, PL.y_ge, PL.y_cmp, PL.y_eq, PL.y_ne, PL.y_int, PL.y_notD, PL.y_truB, PL.y_neg, PL.y_isi_n, PL.y_isi_b, PL.y_isi_i, PL.y_isi_s, PL.y_isi_l, PL.y_isi_t, PL.y_isi_d, PL.y_isi_c, PL.l_len, PL.l_lenT, PL.l_it, PL.l_itT, PL.l_tuple, PL.l_list, PL.l_listL, PL.l_ix, PL.l_ixT, PL.l_sum, PL.l_eq, PL.l_ne, PL.l_eq0, PL.l_ne0, PL.l_eqT, PL.l_in, PL.l_nin, PL.l_cat, PL.l_catT, PL.l_stp, PL.l_rng1, PL.l_rng2, PL.x_fb, PL.x_fb1, PL.l_eq00, PL.l_ne00, PL.l_eq01, PL.l_ne01, PL.l_lenS, PL.x_ODof, PL.x_dc2, PL.x_dc1, PL.x_dcO, PL.l_nin_tk, PL.l_in_tk, PL.l_min, PL.l_slT, PL.l_slL, PL.l_rng3, PL.x_rgl2, PL.x_rgl1, PL.x_rgList, PL.x_rgTup, PL.x_gp3, PL.x_gp2, PL.x_gp1, PL.x_getP, PL.x_mt2, PL.x_mt1, PL.x_meth1, PL.l_isL, PL.x_XRo, PL.x_XRe, PL.x_calX, PL.x_calXe, PL.x_callX, PL.x_rai1, PL.x_rai, PL.x_try3, PL.x_try2, PL.x_try2f, PL.x_try1, PL.x_try1r, PL.x_try1n, PL.x_tryR, PL.x_exu1, PL.x_exb1, PL.x_exc1, PL.x_exc2, PL.x_exm1, PL.x_exSB, PL.x_exr1, PL.x_exe1, PL.x_exi1, PL.x_exRT, List.getElem?_cons_zero, List.getElem?_cons_succ, List.set_cons_zero, List.set_cons_succ, List.length_cons, List.length_nil, List.map_cons, List.map_nil, List.replicate_succ, List.replicate_zero, List.cons_append, List.nil_append, Nat.zero_add, Nat.add_zero, Nat.reduceAdd, Nat.reduceSub, Nat.reduceMul, Nat.reduceLT, Nat.reduceEqDiff, Bool.not_true, Bool.not_false, Bool.true_and, Bool.false_and, Bool.and_true, Bool.and_false, Bool.true_or, Bool.false_or, Bool.or_true, Bool.or_false, List.all_cons, List.all_nil, PL.nl_len, List.length_map, List.length_range, isiT, tyD, Option.map_some, Option.map_none, ne_eq, not_false_eq_true, not_true_eq_false, decide_true, decide_false, eq_self, implies_true, gt_iff_lt, ge_iff_le, m_power_rest, b_power_rest, h]
/-! the law's own power by halves -/
theorem lraised_ok {b t n : Nat} (hn : 0 < n ∧ n < 2 ^ 31) (ht : t < 2 ^ 10000) : m__law_raised [.int b, .int t, .int n] = .ok (.fr (.int (b ^ t % n : Nat))) := by
  have loop : ∀ (k f s l g : Nat), l < 2 ^ k → k < g → f < n → s < n → ∃ s', whS (tstF (bin gtD (var 5) (cst (.int (0 : Nat))))) (seqS (ifS (tstF (bin eqD (bin modD (un intD (pkF 5)) (cst (.int (2 : Nat)))) (cst (.int (1 : Nat))))) (setS 3 (bin modD (un intD (bin mulD (var 3) (pkF 4))) (pkF 2))) (skipS)) (seqS (setS 4 (bin modD (un intD (bin mulD (var 4) (pkF 4))) (pkF 2))) (setS 5 (bin fdivD (var 5) (cst (.int (2 : Nat))))))) g [I b, I t, I n, I f, I s, I l] = .nx [I b, I t, I n, I (f * s ^ l % n : Nat), s', I (0 : Nat)] := by
    intro k
    induction k with
    | zero =>
      intro f s l g hl hg hf hs
      obtain ⟨g, rfl⟩ : ∃ g', g = g' + 1 := ⟨g - 1, by omega⟩
      have : l = 0 := by simp at hl; exact hl
      subst this
      refine ⟨I s, ?_⟩
      simp -implicitDefEqProofs (disch := (first | omega | assumption)) only [PL.x_Rof, PL.x_cst, PL.x_var, PL.x_var1f, PL.x_var1l, PL.x_var1d, PL.x_pk, PL.x_pk1f, PL.x_pk1l, PL.x_pk1d, PL.x_pk1i, PL.x_pkF, PL.x_un1, PL.x_un, PL.x_truF, PL.x_bOf, PL.x_tstF, PL.x_notT, PL.x_bin1, PL.x_bin, PL.x_bp3, PL.x_bp2, PL.x_bp1, PL.x_binP, PL.x_andT, PL.x_orT, PL.x_and1t, PL.x_and1f, PL.x_or1t, PL.x_or1f, PL.x_andV, PL.x_orV, PL.x_andV1t, PL.x_andV1f, PL.x_orV1t, PL.x_orV1f, PL.x_ifE, PL.x_ifE1t, PL.x_ifE1f, PL.x_chainD, PL.x_ch1, PL.x_ch2, PL.x_ch3t, PL.x_ch3f, PL.x_nilA, PL.x_consA, PL.x_cons1, PL.x_cons2, PL.x_few, PL.x_mk1, PL.x_tupD, PL.x_lstD, PL.x_lstO, PL.x_dctO0, PL.x_frO, PL.x_cb, PL.x_noP, PL.x_iOf, PL.x_someP, PL.x_sl31, PL.x_sl32, PL.x_sl3, PL.x_slK1, PL.x_slK, PL.x_frF, PL.x_frS, PL.x_cal1, PL.x_callF, PL.x_callO, PL.x_FMof, PL.x_cm1, PL.x_cm2, PL.x_cm3, PL.x_callM, PL.x_FMO, PL.x_cmo1, PL.x_cmo2, PL.x_callMO, PL.x_frzR, PL.x_itF, PL.x_rngF, PL.x_OLof, PL.x_lc2, PL.x_lc1, PL.x_lcO, PL.x_cat1, PL.x_catO, PL.x_cp1, PL.x_cp2, PL.x_cp3, PL.x_catPO, PL.x_SBn, PL.x_SBr, PL.x_skipS, PL.x_badS, PL.x_seqS, PL.x_nxO, PL.x_set1, PL.x_setS, PL.x_setO1f, PL.x_setO1l, PL.x_setO1d, PL.x_setOS, PL.x_ret1, PL.x_retO1, PL.x_exp1, PL.x_retS, PL.x_retOS, PL.x_exprS, PL.x_ifS, PL.x_if1t, PL.x_if1f, PL.x_asg1, PL.x_asgS, PL.x_argsP0, PL.x_ap1f, PL.x_ap1l, PL.x_ap1d, PL.x_ap2, PL.x_argsP, PL.x_par1, PL.x_parP, PL.x_putP0, PL.x_pp1, PL.x_putP, PL.x_app1, PL.x_app2, PL.x_nxB, PL.x_app3, PL.x_appS, PL.x_dp1, PL.x_dp2, PL.x_dp3, PL.x_dp4, PL.x_dputS, PL.x_keyI, PL.x_keyS, PL.x_up1, PL.x_up2, PL.x_up3, PL.x_updS, PL.x_for1, PL.x_forS, PL.x_RTr, PL.x_RTn, PL.x_rf1, PL.x_runF, PL.x_RMr, PL.x_RMn, PL.x_MIo, PL.x_ioOf, PL.x_rm1, PL.x_runM, PL.x_putR, PL.x_putR0f, PL.x_putR0l, PL.x_putR0d, PL.x_putR0n, PL.x_noIof, PL.x_noIol, PL.x_noIod, PL.x_noIon, PL.x_tgN, PL.x_tgT, PL.x_putAll0, PL.x_pa1, PL.x_putAll, PL.x_dAt, PL.x_dSlo, PL.x_dSli, PL.x_dPut, PL.x_dPuo, PL.x_dPui, PL.x_lAt, PL.x_lSl, PL.x_envOf, PL.x_envM, PL.x_toDl, PL.x_toDd, PL.x_toDf, PL.x_nof, PL.x_nol, PL.x_nod, PL.x_okW, PL.x_wipe0, PL.x_wipe, PL.x_yesT, PL.n_add, PL.n_mul, PL.n_mod, PL.n_div, PL.n_sub, PL.n_lt, PL.n_le, PL.n_eq, PL.d_t, PL.d_f, PL.y_add, PL.y_sub, PL.y_mod, PL.y_div, PL.y_mulL, PL.y_mulR, PL.y_lt, PL.y_le, PL.y_gt, PL.y_ge, PL.y_cmp, PL.y_eq, PL.y_ne, PL.y_int, PL.y_notD, PL.y_truB, PL.y_neg, PL.y_isi_n, PL.y_isi_b, PL.y_isi_i, PL.y_isi_s, PL.y_isi_l, PL.y_isi_t, PL.y_isi_d, PL.y_isi_c, PL.l_len, PL.l_lenT, PL.l_it, PL.l_itT, PL.l_tuple, PL.l_list, PL.l_listL, PL.l_ix, PL.l_ixT, PL.l_sum, PL.l_eq, PL.l_ne, PL.l_eq0, PL.l_ne0, PL.l_eqT, PL.l_in, PL.l_nin, PL.l_cat, PL.l_catT, PL.l_stp, PL.l_rng1, PL.l_rng2, PL.x_fb, PL.x_fb1, PL.l_eq00, PL.l_ne00, PL.l_eq01, PL.l_ne01, PL.l_lenS, PL.x_ODof, PL.x_dc2, PL.x_dc1, PL.x_dcO, PL.l_nin_tk, PL.l_in_tk, PL.l_min, PL.l_slT, PL.l_slL, PL.l_rng3, PL.x_rgl2, PL.x_rgl1, PL.x_rgList, PL.x_rgTup, PL.x_gp3, PL.x_gp2, PL.x_gp1, PL.x_getP, PL.x_mt2, PL.x_mt1, PL.x_meth1, PL.l_isL, PL.x_XRo, PL.x_XRe, PL.x_calX, PL.x_calXe, PL.x_callX, PL.x_rai1, PL.x_rai, PL.x_try3, PL.x_try2, PL.x_try2f, PL.x_try1, PL.x_try1r, PL.x_try1n, PL.x_tryR, PL.x_exu1, PL.x_exb1, PL.x_exc1, PL.x_exc2, PL.x_exm1, PL.x_exSB, PL.x_exr1, PL.x_exe1, PL.x_exi1, PL.x_exRT, List.getElem?_cons_zero, List.getElem?_cons_succ, List.set_cons_zero, List.set_cons_succ, List.length_cons, List.length_nil, List.map_cons, List.map_nil, List.replicate_succ, List.replicate_zero, List.cons_append, List.nil_append, Nat.zero_add, Nat.add_zero, Nat.reduceAdd, Nat.reduceSub, Nat.reduceMul, Nat.reduceLT, Nat.reduceEqDiff, Bool.not_true, Bool.not_false, Bool.true_and, Bool.false_and, Bool.and_true, Bool.and_false, Bool.true_or, Bool.false_or, Bool.or_true, Bool.or_false, List.all_cons, List.all_nil, PL.nl_len, List.length_map, List.length_range, isiT, tyD, Option.map_some, Option.map_none, ne_eq, not_false_eq_true, not_true_eq_false, decide_true, decide_false, eq_self, implies_true, gt_iff_lt, ge_iff_le, x_wh, x_wh1f, Nat.pow_zero, Nat.mul_one, Nat.mod_eq_of_lt hf]
    | succ k ih =>
      intro f s l g hl hg hf hs
      obtain ⟨g, rfl⟩ : ∃ g', g = g' + 1 := ⟨g - 1, by omega⟩
      by_cases hz : l = 0
      · subst hz
        refine ⟨I s, ?_⟩
        simp -implicitDefEqProofs (disch := (first | omega | assumption)) only [PL.x_Rof, PL.x_cst, PL.x_var, PL.x_var1f, PL.x_var1l, PL.x_var1d, PL.x_pk, PL.x_pk1f, PL.x_pk1l, PL.x_pk1d, PL.x_pk1i, PL.x_pkF, PL.x_un1, PL.x_un, PL.x_truF, PL.x_bOf, PL.x_tstF, PL.x_notT, PL.x_bin1, PL.x_bin, PL.x_bp3, PL.x_bp2, PL.x_bp1, PL.x_binP, PL.x_andT, PL.x_orT, PL.x_and1t, PL.x_and1f, PL.x_or1t, PL.x_or1f, PL.x_andV, PL.x_orV, PL.x_andV1t, PL.x_andV1f, PL.x_orV1t, PL.x_orV1f, PL.x_ifE, PL.x_ifE1t, PL.x_ifE1f, PL.x_chainD, PL.x_ch1, PL.x_ch2, PL.x_ch3t, PL.x_ch3f, PL.x_nilA, PL.x_consA, PL.x_cons1, PL.x_cons2, PL.x_few, PL.x_mk1, PL.x_tupD, PL.x_lstD, PL.x_lstO, PL.x_dctO0, PL.x_frO, PL.x_cb, PL.x_noP, PL.x_iOf, PL.x_someP, PL.x_sl31, PL.x_sl32, PL.x_sl3, PL.x_slK1, PL.x_slK, PL.x_frF, PL.x_frS, PL.x_cal1, PL.x_callF, PL.x_callO, PL.x_FMof, PL.x_cm1, PL.x_cm2, PL.x_cm3, PL.x_callM, PL.x_FMO, PL.x_cmo1, PL.x_cmo2, PL.x_callMO, PL.x_frzR, PL.x_itF, PL.x_rngF, PL.x_OLof, PL.x_lc2, PL.x_lc1, PL.x_lcO, PL.x_cat1, PL.x_catO, PL.x_cp1, PL.x_cp2, PL.x_cp3, PL.x_catPO, PL.x_SBn, PL.x_SBr, PL.x_skipS, PL.x_badS, PL.x_seqS, PL.x_nxO, PL.x_set1, PL.x_setS, PL.x_setO1f, PL.x_setO1l, PL.x_setO1d, PL.x_setOS, PL.x_ret1, PL.x_retO1, PL.x_exp1, PL.x_retS, PL.x_retOS, PL.x_exprS, PL.x_ifS, PL.x_if1t, PL.x_if1f, PL.x_asg1, PL.x_asgS, PL.x_argsP0, PL.x_ap1f, PL.x_ap1l, PL.x_ap1d, PL.x_ap2, PL.x_argsP, PL.x_par1, PL.x_parP, PL.x_putP0, PL.x_pp1, PL.x_putP, PL.x_app1, PL.x_app2, PL.x_nxB, PL.x_app3, PL.x_appS, PL.x_dp1, PL.x_dp2, PL.x_dp3, PL.x_dp4, PL.x_dputS, PL.x_keyI, PL.x_keyS, PL.x_up1, PL.x_up2, PL.x_up3, PL.x_updS, PL.x_for1, PL.x_forS, PL.x_RTr, PL.x_RTn, PL.x_rf1, PL.x_runF, PL.x_RMr, PL.x_RMn, PL.x_MIo, PL.x_ioOf, PL.x_rm1, PL.x_runM, PL.x_putR, PL.x_putR0f, PL.x_putR0l, PL.x_putR0d, PL.x_putR0n, PL.x_noIof, PL.x_noIol, PL.x_noIod, PL.x_noIon, PL.x_tgN, PL.x_tgT, PL.x_putAll0, PL.x_pa1, PL.x_putAll, PL.x_dAt, PL.x_dSlo, PL.x_dSli, PL.x_dPut, PL.x_dPuo, PL.x_dPui, PL.x_lAt, PL.x_lSl, PL.x_envOf, PL.x_envM, PL.x_toDl, PL.x_toDd, PL.x_toDf, PL.x_nof, PL.x_nol, PL.x_nod, PL.x_okW, PL.x_wipe0, PL.x_wipe, PL.x_yesT, PL.n_add, PL.n_mul, PL.n_mod, PL.n_div, PL.n_sub, PL.n_lt, PL.n_le, PL.n_eq, PL.d_t, PL.d_f, PL.y_add, PL.y_sub, PL.y_mod, PL.y_div, PL.y_mulL, PL.y_mulR, PL.y_lt, PL.y_le, PL.y_gt, PL.y_ge, PL.y_cmp, PL.y_eq, PL.y_ne, PL.y_int, PL.y_notD, PL.y_truB, PL.y_neg, PL.y_isi_n, PL.y_isi_b, PL.y_isi_i, PL.y_isi_s, PL.y_isi_l, PL.y_isi_t, PL.y_isi_d, PL.y_isi_c, PL.l_len, PL.l_lenT, PL.l_it, PL.l_itT, PL.l_tuple, PL.l_list, PL.l_listL, PL.l_ix, PL.l_ixT, PL.l_sum, PL.l_eq, PL.l_ne, PL.l_eq0, PL.l_ne0, PL.l_eqT, PL.l_in, PL.l_nin, PL.l_cat, PL.l_catT, PL.l_stp, PL.l_rng1, PL.l_rng2, PL.x_fb, PL.x_fb1, PL.l_eq00, PL.l_ne00, PL.l_eq01, PL.l_ne01, PL.l_lenS, PL.x_ODof, PL.x_dc2, PL.x_dc1, PL.x_dcO, PL.l_nin_tk, PL.l_in_tk, PL.l_min, PL.l_slT, PL.l_slL, PL.l_rng3, PL.x_rgl2, PL.x_rgl1, PL.x_rgList, PL.x_rgTup, PL.x_gp3, PL.x_gp2, PL.x_gp1, PL.x_getP, PL.x_mt2, PL.x_mt1, PL.x_meth1, PL.l_isL, PL.x_XRo, PL.x_XRe, PL.x_calX, PL.x_calXe, PL.x_callX, PL.x_rai1, PL.x_rai, PL.x_try3, PL.x_try2, PL.x_try2f, PL.x_try1, PL.x_try1r, PL.x_try1n, PL.x_tryR, PL.x_exu1, PL.x_exb1, PL.x_exc1, PL.x_exc2, PL.x_exm1, PL.x_exSB, PL.x_exr1, PL.x_exe1, PL.x_exi1, PL.x_exRT, List.getElem?_cons_zero, List.getElem?_cons_succ, List.set_cons_zero, List.set_cons_succ, List.length_cons, List.length_nil, List.map_cons, List.map_nil, List.replicate_succ, List.replicate_zero, List.cons_append, List.nil_append, Nat.zero_add, Nat.add_zero, Nat.reduceAdd, Nat.reduceSub, Nat.reduceMul, Nat.reduceLT, Nat.reduceEqDiff, Bool.not_true, Bool.not_false, Bool.true_and, Bool.false_and, Bool.and_true, Bool.and_false, Bool.true_or, Bool.false_or, Bool.or_true, Bool.or_false, List.all_cons, List.all_nil, PL.nl_len, List.length_map, List.length_range, isiT, tyD, Option.map_some, Option.map_none, ne_eq, not_false_eq_true, not_true_eq_false, decide_true, decide_false, eq_self, implies_true, gt_iff_lt, ge_iff_le, x_wh, x_wh1f, Nat.pow_zero, Nat.mul_one, Nat.mod_eq_of_lt hf]
      · have h2 := (half_lt hz hl).2
        rw [Nat.add_sub_cancel] at h2
        have hm := fun x => Nat.mod_lt x hn.1
        by_cases ho : l % 2 = 1
        · obtain ⟨s', h⟩ := ih (f * s % n) (s * s % n) (l / 2) g h2 (by omega) (hm _) (hm _)
          refine ⟨s', ?_⟩
          rw [pr_odd f s n l ho] at h
          simp -implicitDefEqProofs (disch := (first | omega | assumption)) only [PL.x_Rof, PL.x_cst, PL.x_var, PL.x_var1f, PL.x_var1l, PL.x_var1d, PL.x_pk, PL.x_pk1f, PL.x_pk1l, PL.x_pk1d, PL.x_pk1i, PL.x_pkF, PL.x_un1, PL.x_un, PL.x_truF, PL.x_bOf, PL.x_tstF, PL.x_notT, PL.x_bin1, PL.x_bin, PL.x_bp3, PL.x_bp2, PL.x_bp1, PL.x_binP, PL.x_andT, PL.x_orT, PL.x_and1t, PL.x_and1f, PL.x_or1t, PL.x_or1f, PL.x_andV, PL.x_orV, PL.x_andV1t, PL.x_andV1f, PL.x_orV1t, PL.x_orV1f, PL.x_ifE, PL.x_ifE1t, PL.x_ifE1f, PL.x_chainD, PL.x_ch1, PL.x_ch2, PL.x_ch3t, PL.x_ch3f, PL.x_nilA, PL.x_consA, PL.x_cons1, PL.x_cons2, PL.x_few, PL.x_mk1, PL.x_tupD, PL.x_lstD, PL.x_lstO, PL.x_dctO0, PL.x_frO, PL.x_cb, PL.x_noP, PL.x_iOf, PL.x_someP, PL.x_sl31, PL.x_sl32, PL.x_sl3, PL.x_slK1, PL.x_slK, PL.x_frF, PL.x_frS, PL.x_cal1, PL.x_callF, PL.x_callO, PL.x_FMof, PL.x_cm1, PL.x_cm2, PL.x_cm3, PL.x_callM, PL.x_FMO, PL.x_cmo1, PL.x_cmo2, PL.x_callMO, PL.x_frzR, PL.x_itF, PL.x_rngF, PL.x_OLof, PL.x_lc2, PL.x_lc1, PL.x_lcO, PL.x_cat1, PL.x_catO, PL.x_cp1, PL.x_cp2, PL.x_cp3, PL.x_catPO, PL.x_SBn, PL.x_SBr, PL.x_skipS, PL.x_badS, PL.x_seqS, PL.x_nxO, PL.x_set1, PL.x_setS, PL.x_setO1f, PL.x_setO1l, PL.x_setO1d, PL.x_setOS, PL.x_ret1, PL.x_retO1, PL.x_exp1, PL.x_retS, PL.x_retOS, PL.x_exprS, PL.x_ifS, PL.x_if1t, PL.x_if1f, PL.x_asg1, PL.x_asgS, PL.x_argsP0, PL.x_ap1f, PL.x_ap1l, PL.x_ap1d, PL.x_ap2, PL.x_argsP, PL.x_par1, PL.x_parP, PL.x_putP0, PL.x_pp1, PL.x_putP, PL.x_app1, PL.x_app2, PL.x_nxB, PL.x_app3, PL.x_appS, PL.x_dp1, PL.x_dp2, PL.x_dp3, PL.x_dp4, PL.x_dputS, PL.x_keyI, PL.x_keyS, PL.x_up1, PL.x_up2, PL.x_up3, PL.x_updS, PL.x_for1, PL.x_forS, PL.x_RTr, PL.x_RTn, PL.x_rf1, PL.x_runF, PL.x_RMr, PL.x_RMn, PL.x_MIo, PL.x_ioOf, PL.x_rm1, PL.x_runM, PL.x_putR, PL.x_putR0f, PL.x_putR0l, PL.x_putR0d, PL.x_putR0n, PL.x_noIof, PL.x_noIol, PL.x_noIod, PL.x_noIon, PL.x_tgN, PL.x_tgT, PL.x_putAll0, PL.x_pa1, PL.x_putAll, PL.x_dAt, PL.x_dSlo, PL.x_dSli, PL.x_dPut, PL.x_dPuo, PL.x_dPui, PL.x_lAt, PL.x_lSl, PL.x_envOf, PL.x_envM, PL.x_toDl, PL.x_toDd, PL.x_toDf, PL.x_nof, PL.x_nol, PL.x_nod, PL.x_okW, PL.x_wipe0, PL.x_wipe, PL.x_yesT, PL.n_add, PL.n_mul, PL.n_mod, PL.n_div, PL.n_sub, PL.n_lt, PL.n_le, PL.n_eq, PL.d_t, PL.d_f, PL.y_add, PL.y_sub, PL.y_mod, PL.y_div, PL.y_mulL, PL.y_mulR, PL.y_lt, PL.y_le, PL.y_gt, PL.y_ge, PL.y_cmp, PL.y_eq, PL.y_ne, PL.y_int, PL.y_notD, PL.y_truB, PL.y_neg, PL.y_isi_n, PL.y_isi_b, PL.y_isi_i, PL.y_isi_s, PL.y_isi_l, PL.y_isi_t, PL.y_isi_d, PL.y_isi_c, PL.l_len, PL.l_lenT, PL.l_it, PL.l_itT, PL.l_tuple, PL.l_list, PL.l_listL, PL.l_ix, PL.l_ixT, PL.l_sum, PL.l_eq, PL.l_ne, PL.l_eq0, PL.l_ne0, PL.l_eqT, PL.l_in, PL.l_nin, PL.l_cat, PL.l_catT, PL.l_stp, PL.l_rng1, PL.l_rng2, PL.x_fb, PL.x_fb1, PL.l_eq00, PL.l_ne00, PL.l_eq01, PL.l_ne01, PL.l_lenS, PL.x_ODof, PL.x_dc2, PL.x_dc1, PL.x_dcO, PL.l_nin_tk, PL.l_in_tk, PL.l_min, PL.l_slT, PL.l_slL, PL.l_rng3, PL.x_rgl2, PL.x_rgl1, PL.x_rgList, PL.x_rgTup, PL.x_gp3, PL.x_gp2, PL.x_gp1, PL.x_getP, PL.x_mt2, PL.x_mt1, PL.x_meth1, PL.l_isL, PL.x_XRo, PL.x_XRe, PL.x_calX, PL.x_calXe, PL.x_callX, PL.x_rai1, PL.x_rai, PL.x_try3, PL.x_try2, PL.x_try2f, PL.x_try1, PL.x_try1r, PL.x_try1n, PL.x_tryR, PL.x_exu1, PL.x_exb1, PL.x_exc1, PL.x_exc2, PL.x_exm1, PL.x_exSB, PL.x_exr1, PL.x_exe1, PL.x_exi1, PL.x_exRT, List.getElem?_cons_zero, List.getElem?_cons_succ, List.set_cons_zero, List.set_cons_succ, List.length_cons, List.length_nil, List.map_cons, List.map_nil, List.replicate_succ, List.replicate_zero, List.cons_append, List.nil_append, Nat.zero_add, Nat.add_zero, Nat.reduceAdd, Nat.reduceSub, Nat.reduceMul, Nat.reduceLT, Nat.reduceEqDiff, Bool.not_true, Bool.not_false, Bool.true_and, Bool.false_and, Bool.and_true, Bool.and_false, Bool.true_or, Bool.false_or, Bool.or_true, Bool.or_false, List.all_cons, List.all_nil, PL.nl_len, List.length_map, List.length_range, isiT, tyD, Option.map_some, Option.map_none, ne_eq, not_false_eq_true, not_true_eq_false, decide_true, decide_false, eq_self, implies_true, gt_iff_lt, ge_iff_le, x_wh, x_wh1t, x_wh2n, h]
        · obtain ⟨s', h⟩ := ih f (s * s % n) (l / 2) g h2 (by omega) hf (hm _)
          refine ⟨s', ?_⟩
          rw [pr_even f s n l ho] at h
          simp -implicitDefEqProofs (disch := (first | omega | assumption)) only [PL.x_Rof, PL.x_cst, PL.x_var, PL.x_var1f, PL.x_var1l, PL.x_var1d, PL.x_pk, PL.x_pk1f, PL.x_pk1l, PL.x_pk1d, PL.x_pk1i, PL.x_pkF, PL.x_un1, PL.x_un, PL.x_truF, PL.x_bOf, PL.x_tstF, PL.x_notT, PL.x_bin1, PL.x_bin, PL.x_bp3, PL.x_bp2, PL.x_bp1, PL.x_binP, PL.x_andT, PL.x_orT, PL.x_and1t, PL.x_and1f, PL.x_or1t, PL.x_or1f, PL.x_andV, PL.x_orV, PL.x_andV1t, PL.x_andV1f, PL.x_orV1t, PL.x_orV1f, PL.x_ifE, PL.x_ifE1t, PL.x_ifE1f, PL.x_chainD, PL.x_ch1, PL.x_ch2, PL.x_ch3t, PL.x_ch3f, PL.x_nilA, PL.x_consA, PL.x_cons1, PL.x_cons2, PL.x_few, PL.x_mk1, PL.x_tupD, PL.x_lstD, PL.x_lstO, PL.x_dctO0, PL.x_frO, PL.x_cb, PL.x_noP, PL.x_iOf, PL.x_someP, PL.x_sl31, PL.x_sl32, PL.x_sl3, PL.x_slK1, PL.x_slK, PL.x_frF, PL.x_frS, PL.x_cal1, PL.x_callF, PL.x_callO, PL.x_FMof, PL.x_cm1, PL.x_cm2, PL.x_cm3, PL.x_callM, PL.x_FMO, PL.x_cmo1, PL.x_cmo2, PL.x_callMO, PL.x_frzR, PL.x_itF, PL.x_rngF, PL.x_OLof, PL.x_lc2, PL.x_lc1, PL.x_lcO, PL.x_cat1, PL.x_catO, PL.x_cp1, PL.x_cp2, PL.x_cp3, PL.x_catPO, PL.x_SBn, PL.x_SBr, PL.x_skipS, PL.x_badS, PL.x_seqS, PL.x_nxO, PL.x_set1, PL.x_setS, PL.x_setO1f, PL.x_setO1l, PL.x_setO1d, PL.x_setOS, PL.x_ret1, PL.x_retO1, PL.x_exp1, PL.x_retS, PL.x_retOS, PL.x_exprS, PL.x_ifS, PL.x_if1t, PL.x_if1f, PL.x_asg1, PL.x_asgS, PL.x_argsP0, PL.x_ap1f, PL.x_ap1l, PL.x_ap1d, PL.x_ap2, PL.x_argsP, PL.x_par1, PL.x_parP, PL.x_putP0, PL.x_pp1, PL.x_putP, PL.x_app1, PL.x_app2, PL.x_nxB, PL.x_app3, PL.x_appS, PL.x_dp1, PL.x_dp2, PL.x_dp3, PL.x_dp4, PL.x_dputS, PL.x_keyI, PL.x_keyS, PL.x_up1, PL.x_up2, PL.x_up3, PL.x_updS, PL.x_for1, PL.x_forS, PL.x_RTr, PL.x_RTn, PL.x_rf1, PL.x_runF, PL.x_RMr, PL.x_RMn, PL.x_MIo, PL.x_ioOf, PL.x_rm1, PL.x_runM, PL.x_putR, PL.x_putR0f, PL.x_putR0l, PL.x_putR0d, PL.x_putR0n, PL.x_noIof, PL.x_noIol, PL.x_noIod, PL.x_noIon, PL.x_tgN, PL.x_tgT, PL.x_putAll0, PL.x_pa1, PL.x_putAll, PL.x_dAt, PL.x_dSlo, PL.x_dSli, PL.x_dPut, PL.x_dPuo, PL.x_dPui, PL.x_lAt, PL.x_lSl, PL.x_envOf, PL.x_envM, PL.x_toDl, PL.x_toDd, PL.x_toDf, PL.x_nof, PL.x_nol, PL.x_nod, PL.x_okW, PL.x_wipe0, PL.x_wipe, PL.x_yesT, PL.n_add, PL.n_mul, PL.n_mod, PL.n_div, PL.n_sub, PL.n_lt, PL.n_le, PL.n_eq, PL.d_t, PL.d_f, PL.y_add, PL.y_sub, PL.y_mod, PL.y_div, PL.y_mulL, PL.y_mulR, PL.y_lt, PL.y_le, PL.y_gt, PL.y_ge, PL.y_cmp, PL.y_eq, PL.y_ne, PL.y_int, PL.y_notD, PL.y_truB, PL.y_neg, PL.y_isi_n, PL.y_isi_b, PL.y_isi_i, PL.y_isi_s, PL.y_isi_l, PL.y_isi_t, PL.y_isi_d, PL.y_isi_c, PL.l_len, PL.l_lenT, PL.l_it, PL.l_itT, PL.l_tuple, PL.l_list, PL.l_listL, PL.l_ix, PL.l_ixT, PL.l_sum, PL.l_eq, PL.l_ne, PL.l_eq0, PL.l_ne0, PL.l_eqT, PL.l_in, PL.l_nin, PL.l_cat, PL.l_catT, PL.l_stp, PL.l_rng1, PL.l_rng2, PL.x_fb, PL.x_fb1, PL.l_eq00, PL.l_ne00, PL.l_eq01, PL.l_ne01, PL.l_lenS, PL.x_ODof, PL.x_dc2, PL.x_dc1, PL.x_dcO, PL.l_nin_tk, PL.l_in_tk, PL.l_min, PL.l_slT, PL.l_slL, PL.l_rng3, PL.x_rgl2, PL.x_rgl1, PL.x_rgList, PL.x_rgTup, PL.x_gp3, PL.x_gp2, PL.x_gp1, PL.x_getP, PL.x_mt2, PL.x_mt1, PL.x_meth1, PL.l_isL, PL.x_XRo, PL.x_XRe, PL.x_calX, PL.x_calXe, PL.x_callX, PL.x_rai1, PL.x_rai, PL.x_try3, PL.x_try2, PL.x_try2f, PL.x_try1, PL.x_try1r, PL.x_try1n, PL.x_tryR, PL.x_exu1, PL.x_exb1, PL.x_exc1, PL.x_exc2, PL.x_exm1, PL.x_exSB, PL.x_exr1, PL.x_exe1, PL.x_exi1, PL.x_exRT, List.getElem?_cons_zero, List.getElem?_cons_succ, List.set_cons_zero, List.set_cons_succ, List.length_cons, List.length_nil, List.map_cons, List.map_nil, List.replicate_succ, List.replicate_zero, List.cons_append, List.nil_append, Nat.zero_add, Nat.add_zero, Nat.reduceAdd, Nat.reduceSub, Nat.reduceMul, Nat.reduceLT, Nat.reduceEqDiff, Bool.not_true, Bool.not_false, Bool.true_and, Bool.false_and, Bool.and_true, Bool.and_false, Bool.true_or, Bool.false_or, Bool.or_true, Bool.or_false, List.all_cons, List.all_nil, PL.nl_len, List.length_map, List.length_range, isiT, tyD, Option.map_some, Option.map_none, ne_eq, not_false_eq_true, not_true_eq_false, decide_true, decide_false, eq_self, implies_true, gt_iff_lt, ge_iff_le, x_wh, x_wh1t, x_wh2n, h]
  obtain ⟨s', h⟩ := loop 10000 (1 % n) (b % n) t 1000000 ht (by omega) (Nat.mod_lt _ hn.1) (Nat.mod_lt _ hn.1)
  have e : 1 % n * (b % n) ^ t % n = b ^ t % n := (mul_mod_cong (Nat.mod_mod _ _) (pow_mod_cong _ (Nat.mod_mod _ _))).trans (by rw [Nat.one_mul])
  rw [e] at h
  simp -implicitDefEqProofs (disch := (first | omega | assumption)) only [PL.x_Rof, PL.x_cst, PL.x_var, PL.x_var1f, PL.x_var1l, PL.x_var1d, PL.x_pk, PL.x_pk1f, PL.x_pk1l, PL.x_pk1d, PL.x_pk1i, PL.x_pkF, PL.x_un1, PL.x_un, PL.x_truF, PL.x_bOf, PL.x_tstF, PL.x_notT, PL.x_bin1, PL.x_bin, PL.x_bp3, PL.x_bp2, PL.x_bp1, PL.x_binP, PL.x_andT, PL.x_orT, PL.x_and1t, PL.x_and1f, PL.x_or1t, PL.x_or1f, PL.x_andV, PL.x_orV, PL.x_andV1t, PL.x_andV1f, PL.x_orV1t, PL.x_orV1f, PL.x_ifE, PL.x_ifE1t, PL.x_ifE1f, PL.x_chainD, PL.x_ch1, PL.x_ch2, PL.x_ch3t, PL.x_ch3f, PL.x_nilA, PL.x_consA, PL.x_cons1, PL.x_cons2, PL.x_few, PL.x_mk1, PL.x_tupD, PL.x_lstD, PL.x_lstO, PL.x_dctO0, PL.x_frO, PL.x_cb, PL.x_noP, PL.x_iOf, PL.x_someP, PL.x_sl31, PL.x_sl32, PL.x_sl3, PL.x_slK1, PL.x_slK, PL.x_frF, PL.x_frS, PL.x_cal1, PL.x_callF, PL.x_callO, PL.x_FMof, PL.x_cm1, PL.x_cm2, PL.x_cm3, PL.x_callM, PL.x_FMO, PL.x_cmo1, PL.x_cmo2, PL.x_callMO, PL.x_frzR, PL.x_itF, PL.x_rngF, PL.x_OLof, PL.x_lc2, PL.x_lc1, PL.x_lcO, PL.x_cat1, PL.x_catO, PL.x_cp1, PL.x_cp2, PL.x_cp3, PL.x_catPO, PL.x_SBn, PL.x_SBr, PL.x_skipS, PL.x_badS, PL.x_seqS, PL.x_nxO, PL.x_set1, PL.x_setS, PL.x_setO1f, PL.x_setO1l, PL.x_setO1d, PL.x_setOS, PL.x_ret1, PL.x_retO1, PL.x_exp1, PL.x_retS, PL.x_retOS, PL.x_exprS, PL.x_ifS, PL.x_if1t, PL.x_if1f, PL.x_asg1, PL.x_asgS, PL.x_argsP0, PL.x_ap1f, PL.x_ap1l, PL.x_ap1d, PL.x_ap2, PL.x_argsP, PL.x_par1, PL.x_parP, PL.x_putP0, PL.x_pp1, PL.x_putP, PL.x_app1, PL.x_app2, PL.x_nxB, PL.x_app3, PL.x_appS, PL.x_dp1, PL.x_dp2, PL.x_dp3, PL.x_dp4, PL.x_dputS, PL.x_keyI, PL.x_keyS, PL.x_up1, PL.x_up2, PL.x_up3, PL.x_updS, PL.x_for1, PL.x_forS, PL.x_RTr, PL.x_RTn, PL.x_rf1, PL.x_runF, PL.x_RMr, PL.x_RMn, PL.x_MIo, PL.x_ioOf, PL.x_rm1, PL.x_runM, PL.x_putR, PL.x_putR0f, PL.x_putR0l, PL.x_putR0d, PL.x_putR0n, PL.x_noIof, PL.x_noIol, PL.x_noIod, PL.x_noIon, PL.x_tgN, PL.x_tgT, PL.x_putAll0, PL.x_pa1, PL.x_putAll, PL.x_dAt, PL.x_dSlo, PL.x_dSli, PL.x_dPut, PL.x_dPuo, PL.x_dPui, PL.x_lAt, PL.x_lSl, PL.x_envOf, PL.x_envM, PL.x_toDl, PL.x_toDd, PL.x_toDf, PL.x_nof, PL.x_nol, PL.x_nod, PL.x_okW, PL.x_wipe0, PL.x_wipe, PL.x_yesT, PL.n_add, PL.n_mul, PL.n_mod, PL.n_div, PL.n_sub, PL.n_lt, PL.n_le, PL.n_eq, PL.d_t, PL.d_f, PL.y_add, PL.y_sub, PL.y_mod, PL.y_div, PL.y_mulL, PL.y_mulR, PL.y_lt, PL.y_le, PL.y_gt, PL.y_ge, PL.y_cmp, PL.y_eq, PL.y_ne, PL.y_int, PL.y_notD, PL.y_truB, PL.y_neg, PL.y_isi_n, PL.y_isi_b, PL.y_isi_i, PL.y_isi_s, PL.y_isi_l, PL.y_isi_t, PL.y_isi_d, PL.y_isi_c, PL.l_len, PL.l_lenT, PL.l_it, PL.l_itT, PL.l_tuple, PL.l_list, PL.l_listL, PL.l_ix, PL.l_ixT, PL.l_sum, PL.l_eq, PL.l_ne, PL.l_eq0, PL.l_ne0, PL.l_eqT, PL.l_in, PL.l_nin, PL.l_cat, PL.l_catT, PL.l_stp, PL.l_rng1, PL.l_rng2, PL.x_fb, PL.x_fb1, PL.l_eq00, PL.l_ne00, PL.l_eq01, PL.l_ne01, PL.l_lenS, PL.x_ODof, PL.x_dc2, PL.x_dc1, PL.x_dcO, PL.l_nin_tk, PL.l_in_tk, PL.l_min, PL.l_slT, PL.l_slL, PL.l_rng3, PL.x_rgl2, PL.x_rgl1, PL.x_rgList, PL.x_rgTup, PL.x_gp3, PL.x_gp2, PL.x_gp1, PL.x_getP, PL.x_mt2, PL.x_mt1, PL.x_meth1, PL.l_isL, PL.x_XRo, PL.x_XRe, PL.x_calX, PL.x_calXe, PL.x_callX, PL.x_rai1, PL.x_rai, PL.x_try3, PL.x_try2, PL.x_try2f, PL.x_try1, PL.x_try1r, PL.x_try1n, PL.x_tryR, PL.x_exu1, PL.x_exb1, PL.x_exc1, PL.x_exc2, PL.x_exm1, PL.x_exSB, PL.x_exr1, PL.x_exe1, PL.x_exi1, PL.x_exRT, List.getElem?_cons_zero, List.getElem?_cons_succ, List.set_cons_zero, List.set_cons_succ, List.length_cons, List.length_nil, List.map_cons, List.map_nil, List.replicate_succ, List.replicate_zero, List.cons_append, List.nil_append, Nat.zero_add, Nat.add_zero, Nat.reduceAdd, Nat.reduceSub, Nat.reduceMul, Nat.reduceLT, Nat.reduceEqDiff, Bool.not_true, Bool.not_false, Bool.true_and, Bool.false_and, Bool.and_true, Bool.and_false, Bool.true_or, Bool.false_or, Bool.or_true, Bool.or_false, List.all_cons, List.all_nil, PL.nl_len, List.length_map, List.length_range, isiT, tyD, Option.map_some, Option.map_none, ne_eq, not_false_eq_true, not_true_eq_false, decide_true, decide_false, eq_self, implies_true, gt_iff_lt, ge_iff_le, m__law_raised, b__law_raised, h]
/-! what can be told by repr -/
theorem small_ok {i : Int} (h1 : -(2 ^ 63) < i) (h2 : i < 2 ^ 63) : i.natAbs.log2 < 1920 := by
  by_cases hn : i.natAbs = 0
  · rw [hn]; decide
  · exact Nat.lt_of_lt_of_le ((Nat.log2_lt (k := 63) hn).mpr (by omega)) (by decide)
structure ROk (d : Dt) (k w : Nat) : Prop where
  p : plainD d = true
  s : (toPy d).showable = true
  dp : (toPy d).depth ≤ k
  wt : wtD d ≤ w
structure ROkA (ds : List Dt) (k w : Nat) : Prop where
  p : plainAll ds = true
  s : PyData.showableAll (toPyAll ds) = true
  dp : PyData.depthAll (toPyAll ds) ≤ k
  wt : wtAll ds ≤ w
theorem ROk.repr {d : Dt} {k w : Nat} (h : ROk d k w) (hk : k ≤ 50) (hw : w ≤ 16000000) : reprD d = some (.str (toPy d).shown) := if_pos (by
  unfold reprOk
  rw [h.p, h.s, decide_eq_true (Nat.le_trans h.dp hk), decide_eq_true (Nat.le_trans h.wt hw)]
  rfl)
theorem rok_nil (k : Nat) : ROkA [] k 0 := ⟨rfl, rfl, Nat.zero_le _, Nat.le_refl _⟩
theorem rok_cons {d : Dt} {ds : List Dt} {k w v : Nat} (h1 : ROk d k w) (h2 : ROkA ds k v) : ROkA (d :: ds) k (w + 2 + v) := by
  refine ⟨?_, ?_, ?_, ?_⟩
  · simp only [plainAll, h1.p, h2.p, Bool.and_self]
  · simp only [toPyAll, PyData.showableAll, h1.s, h2.s, Bool.and_self]
  · simp only [toPyAll, PyData.depthAll]
    have := h1.dp
    have := h2.dp
    omega
  · simp only [wtAll]
    have := h1.wt
    have := h2.wt
    omega
theorem rok_lst {ds : List Dt} {k w : Nat} (h : ROkA ds k w) : ROk (.lst ds) (k + 1) (w + 2) := by
  refine ⟨?_, ?_, ?_, ?_⟩
  · simp only [plainD, h.p]
  · simp only [toPy, PyData.showable, h.s]
  · simp only [toPy, PyData.depth]
    have := h.dp
    omega
  · simp only [wtD]
    have := h.wt
    omega
theorem rok_tup {ds : List Dt} {k w : Nat} (h : ROkA ds k w) : ROk (.tup ds) (k + 1) (w + 3) := by
  refine ⟨?_, ?_, ?_, ?_⟩
  · simp only [plainD, h.p]
  · simp only [toPy, PyData.showable, h.s]
  · simp only [toPy, PyData.depth]
    have := h.dp
    omega
  · simp only [wtD]
    have := h.wt
    omega
theorem rok_intB {i : Int} (k : Nat) (h1 : i.natAbs.log2 < 1920) : ROk (.int i) k 600 := ⟨rfl, by simp only [toPy, PyData.showable, decide_eq_true h1], by simp only [toPy, PyData.depth]; exact Nat.zero_le _, Nat.le_refl _⟩
theorem rok_int {i : Int} (k : Nat) (h1 : -(2 ^ 63) < i) (h2 : i < 2 ^ 63) : ROk (.int i) k 600 := rok_intB k (small_ok h1 h2)
theorem rok_nat {m : Nat} (k : Nat) (h : m < 2 ^ 63) : ROk (.int (m : Nat)) k 600 := rok_int k (by omega) (by omega)
theorem rok_bl (b : Bool) (k : Nat) : ROk (.bl b) k 5 := ⟨rfl, rfl, by simp only [toPy, PyData.depth]; exact Nat.zero_le _, Nat.le_refl _⟩
theorem rok_all {α : Type} (f : α → Dt) (k w : Nat) : ∀ (xs : List α), (∀ x ∈ xs, ROk (f x) k w) → ROkA (xs.map f) k ((w + 2) * xs.length)
  | [], _ => rok_nil k
  | x :: xs, h => by
    have := rok_cons (h x (List.mem_cons_self ..)) (rok_all f k w xs fun y hy => h y (List.mem_cons_of_mem _ hy))
    rw [List.length_cons, Nat.mul_succ, Nat.add_comm ((w + 2) * xs.length)]
    exact this
theorem rok_nl {ns : List Nat} {L : Nat} (k : Nat) (h : ∀ n ∈ ns, n < 2 ^ 63) (hl : ns.length ≤ L) : ROkA (nl ns) k (602 * L) := by
  have := rok_all (fun n : Nat => Dt.int (n : Nat)) k 600 ns fun n hn => rok_nat k (h n hn)
  exact ⟨this.p, this.s, this.dp, Nat.le_trans this.wt (Nat.mul_le_mul_left _ hl)⟩
/-! what can be compared -/
theorem ints_shape : ∀ ns : List Int, plainAll (ns.map .int) = true ∧ PyData.canLayAll0 (toPyAll (ns.map .int)) = true ∧ PyData.depthAll (toPyAll (ns.map .int)) = 0
  | [] => ⟨rfl, rfl, rfl⟩
  | n :: ns => by
    obtain ⟨h1, h2, h3⟩ := ints_shape ns
    refine ⟨?_, ?_, ?_⟩
    · simp only [List.map_cons, plainAll, plainD, h1, Bool.and_self]
    · simp only [List.map_cons, toPyAll, toPy, PyData.canLayAll0, PyData.canLay0, h2, Bool.and_self]
    · simp only [List.map_cons, toPyAll, toPy, PyData.depthAll, PyData.depth, h3, Nat.max_self]
theorem lst_shape (ns : List Int) : shp (.lst (ns.map .int)) = true := by
  obtain ⟨h1, h2, h3⟩ := ints_shape ns
  simp only [shp, plainD, h1, SeqAt.shaped, toPy, PyData.canLay0, h2, PyData.depth, h3, Bool.true_and]
  rfl
theorem ne_nil (n : Int) (ns : List Int) : neD (.lst ((n :: ns).map .int)) (.lst []) = some (.bl true) := by
  have h1 := lst_shape (n :: ns)
  have h2 := lst_shape []
  unfold neD
  dsimp only
  rw [if_pos ⟨h1, h2⟩]
  rfl
theorem eqv_ints : ∀ ns : List Int, PyData.eqvAll (toPyAll (ns.map .int)) (toPyAll (ns.map .int)) = true
  | [] => rfl
  | n :: ns => by simp only [List.map_cons, toPyAll, toPy, PyData.eqvAll, PyData.eqv, eqv_ints ns, BEq.rfl, Bool.and_self]
theorem eq_lst (ns : List Int) : eqD (.lst (ns.map .int)) (.lst (ns.map .int)) = some (.bl true) := by
  have h1 := lst_shape ns
  unfold eqD
  dsimp only
  rw [if_pos ⟨h1, h1⟩]
  simp only [eqt, toPy, PyData.eqv, eqv_ints]
/-! the law's own draws (left, seed, cells, spot) -/
def ms2 (l sd : Int) (cs : List Int) (p : Int) : List (Key × Dt) := [(.inr "left", .int l), (.inr "seed", .int sd), (.inr "cells", .lst (cs.map .int)), (.inr "spot", .int p)]
theorem ms2_l (l sd : Int) (cs : List Int) (p : Int) : ixD (.dct (ms2 l sd cs p)) (.str "left") = some (.int l) := by kernel_rfl
theorem ms2_d (l sd : Int) (cs : List Int) (p : Int) : ixD (.dct (ms2 l sd cs p)) (.str "seed") = some (.int sd) := by kernel_rfl
theorem ms2_c (l sd : Int) (cs : List Int) (p : Int) : ixD (.dct (ms2 l sd cs p)) (.str "cells") = some (.lst (cs.map .int)) := by kernel_rfl
theorem ms2_s (l sd : Int) (cs : List Int) (p : Int) : ixD (.dct (ms2 l sd cs p)) (.str "spot") = some (.int p) := by kernel_rfl
theorem ms2_pl (l sd : Int) (cs : List Int) (p x : Int) : putKD (ms2 l sd cs p) (.inr "left") (.int x) = ms2 x sd cs p := by kernel_rfl
theorem ms2_ps (l sd : Int) (cs : List Int) (p x : Int) : putKD (ms2 l sd cs p) (.inr "spot") (.int x) = ms2 l sd cs x := by kernel_rfl
theorem ms2_len (l sd : Int) (cs : List Int) (p : Int) : (ms2 l sd cs p).length = 4 := rfl
theorem emod_nat {lim : Nat} (h0 : 0 < lim) (e : Int) : ∃ x : Nat, e % (lim : Int) = (x : Nat) ∧ x < lim :=
  ⟨(e % (lim : Int)).toNat, by rw [Int.toNat_of_nonneg (Int.emod_nonneg _ (by omega))], (Int.toNat_lt (Int.emod_nonneg _ (by omega))).mpr (Int.emod_lt_of_pos _ (by omega))⟩
theorem draw2_ok {cs : List Int} {l sd p lim : Nat} (hc : cs ≠ []) (hs : sd < 2 ^ 31) (hp : p < 2 ^ 20) (h0 : 0 < lim) (hd : ∀ a : Int, fdivD (.int a) (.int (lim : Nat)) = some (.int (a / (lim : Nat)))) :
    ∃ x l' p' : Nat, m__law_draw (ms2 l sd cs p) [.int lim] = .ok (.fr (.int x)) (ms2 l' sd cs p') ∧ x < lim ∧ p' ≤ p + 1 := by
  by_cases hl : 0 < l
  · refine ⟨l % lim, l / lim, p, ?_, Nat.mod_lt _ h0, by omega⟩
    simp -implicitDefEqProofs (disch := (first | omega | assumption)) only [PL.x_Rof, PL.x_cst, PL.x_var, PL.x_var1f, PL.x_var1l, PL.x_var1d, PL.x_pk, PL.x_pk1f, PL.x_pk1l, PL.x_pk1d, PL.x_pk1i, PL.x_pkF, PL.x_un1, PL.x_un, PL.x_truF, PL.x_bOf, PL.x_tstF, PL.x_notT, PL.x_bin1, PL.x_bin, PL.x_bp3, PL.x_bp2, PL.x_bp1, PL.x_binP, PL.x_andT, PL.x_orT, PL.x_and1t, PL.x_and1f, PL.x_or1t, PL.x_or1f, PL.x_andV, PL.x_orV, PL.x_andV1t, PL.x_andV1f, PL.x_orV1t, PL.x_orV1f, PL.x_ifE, PL.x_ifE1t, PL.x_ifE1f, PL.x_chainD, PL.x_ch1, PL.x_ch2, PL.x_ch3t, PL.x_ch3f, PL.x_nilA, PL.x_consA, PL.x_cons1, PL.x_cons2, PL.x_few, PL.x_mk1, PL.x_tupD, PL.x_lstD, PL.x_lstO, PL.x_dctO0, PL.x_frO, PL.x_cb, PL.x_noP, PL.x_iOf, PL.x_someP, PL.x_sl31, PL.x_sl32, PL.x_sl3, PL.x_slK1, PL.x_slK, PL.x_frF, PL.x_frS, PL.x_cal1, PL.x_callF, PL.x_callO, PL.x_FMof, PL.x_cm1, PL.x_cm2, PL.x_cm3, PL.x_callM, PL.x_FMO, PL.x_cmo1, PL.x_cmo2, PL.x_callMO, PL.x_frzR, PL.x_itF, PL.x_rngF, PL.x_OLof, PL.x_lc2, PL.x_lc1, PL.x_lcO, PL.x_cat1, PL.x_catO, PL.x_cp1, PL.x_cp2, PL.x_cp3, PL.x_catPO, PL.x_SBn, PL.x_SBr, PL.x_skipS, PL.x_badS, PL.x_seqS, PL.x_nxO, PL.x_set1, PL.x_setS, PL.x_setO1f, PL.x_setO1l, PL.x_setO1d, PL.x_setOS, PL.x_ret1, PL.x_retO1, PL.x_exp1, PL.x_retS, PL.x_retOS, PL.x_exprS, PL.x_ifS, PL.x_if1t, PL.x_if1f, PL.x_asg1, PL.x_asgS, PL.x_argsP0, PL.x_ap1f, PL.x_ap1l, PL.x_ap1d, PL.x_ap2, PL.x_argsP, PL.x_par1, PL.x_parP, PL.x_putP0, PL.x_pp1, PL.x_putP, PL.x_app1, PL.x_app2, PL.x_nxB, PL.x_app3, PL.x_appS, PL.x_dp1, PL.x_dp2, PL.x_dp3, PL.x_dp4, PL.x_dputS, PL.x_keyI, PL.x_keyS, PL.x_up1, PL.x_up2, PL.x_up3, PL.x_updS, PL.x_for1, PL.x_forS, PL.x_RTr, PL.x_RTn, PL.x_rf1, PL.x_runF, PL.x_RMr, PL.x_RMn, PL.x_MIo, PL.x_ioOf, PL.x_rm1, PL.x_runM, PL.x_putR, PL.x_putR0f, PL.x_putR0l, PL.x_putR0d, PL.x_putR0n, PL.x_noIof, PL.x_noIol, PL.x_noIod, PL.x_noIon, PL.x_tgN, PL.x_tgT, PL.x_putAll0, PL.x_pa1, PL.x_putAll, PL.x_dAt, PL.x_dSlo, PL.x_dSli, PL.x_dPut, PL.x_dPuo, PL.x_dPui, PL.x_lAt, PL.x_lSl, PL.x_envOf, PL.x_envM, PL.x_toDl, PL.x_toDd, PL.x_toDf, PL.x_nof, PL.x_nol, PL.x_nod, PL.x_okW, PL.x_wipe0, PL.x_wipe, PL.x_yesT, PL.n_add, PL.n_mul, PL.n_mod, PL.n_div, PL.n_sub, PL.n_lt, PL.n_le, PL.n_eq, PL.d_t, PL.d_f, PL.y_add, PL.y_sub, PL.y_mod, PL.y_div, PL.y_mulL, PL.y_mulR, PL.y_lt, PL.y_le, PL.y_gt, PL.y_ge, PL.y_cmp, PL.y_eq, PL.y_ne, PL.y_int, PL.y_notD, PL.y_truB, PL.y_neg, PL.y_isi_n, PL.y_isi_b, PL.y_isi_i, PL.y_isi_s, PL.y_isi_l, PL.y_isi_t, PL.y_isi_d, PL.y_isi_c, PL.l_len, PL.l_lenT, PL.l_it, PL.l_itT, PL.l_tuple, PL.l_list, PL.l_listL, PL.l_ix, PL.l_ixT, PL.l_sum, PL.l_eq, PL.l_ne, PL.l_eq0, PL.l_ne0, PL.l_eqT, PL.l_in, PL.l_nin, PL.l_cat, PL.l_catT, PL.l_stp, PL.l_rng1, PL.l_rng2, PL.x_fb, PL.x_fb1, PL.l_eq00, PL.l_ne00, PL.l_eq01, PL.l_ne01, PL.l_lenS, PL.x_ODof, PL.x_dc2, PL.x_dc1, PL.x_dcO, PL.l_nin_tk, PL.l_in_tk, PL.l_min, PL.l_slT, PL.l_slL, PL.l_rng3, PL.x_rgl2, PL.x_rgl1, PL.x_rgList, PL.x_rgTup, PL.x_gp3, PL.x_gp2, PL.x_gp1, PL.x_getP, PL.x_mt2, PL.x_mt1, PL.x_meth1, PL.l_isL, PL.x_XRo, PL.x_XRe, PL.x_calX, PL.x_calXe, PL.x_callX, PL.x_rai1, PL.x_rai, PL.x_try3, PL.x_try2, PL.x_try2f, PL.x_try1, PL.x_try1r, PL.x_try1n, PL.x_tryR, PL.x_exu1, PL.x_exb1, PL.x_exc1, PL.x_exc2, PL.x_exm1, PL.x_exSB, PL.x_exr1, PL.x_exe1, PL.x_exi1, PL.x_exRT, List.getElem?_cons_zero, List.getElem?_cons_succ, List.set_cons_zero, List.set_cons_succ, List.length_cons, List.length_nil, List.map_cons, List.map_nil, List.replicate_succ, List.replicate_zero, List.cons_append, List.nil_append, Nat.zero_add, Nat.add_zero, Nat.reduceAdd, Nat.reduceSub, Nat.reduceMul, Nat.reduceLT, Nat.reduceEqDiff, Bool.not_true, Bool.not_false, Bool.true_and, Bool.false_and, Bool.and_true, Bool.and_false, Bool.true_or, Bool.false_or, Bool.or_true, Bool.or_false, List.all_cons, List.all_nil, PL.nl_len, List.length_map, List.length_range, isiT, tyD, Option.map_some, Option.map_none, ne_eq, not_false_eq_true, not_true_eq_false, decide_true, decide_false, eq_self, implies_true, gt_iff_lt, ge_iff_le, m__law_draw, b__law_draw, ms2_l, hd, ms2_pl, ms2_len]
  · have hz : l = 0 := by omega
    subst hz
    have hlen : 0 < cs.length := List.length_pos_iff.mpr hc
    have hi : p % cs.length < cs.length := Nat.mod_lt _ hlen
    have hg : (cs.map Dt.int)[p % cs.length]? = some (.int cs[p % cs.length]) := by rw [List.getElem?_map, List.getElem?_eq_getElem hi]; rfl
    generalize cs[p % cs.length] = cell at hg
    obtain ⟨u, hu, hu2⟩ := emod_nat (lim := 2147483647) (by omega) (cell * ((2 * p + 3 : Nat) : Int) + ((sd + 40503 * p * p : Nat) : Int))
    have hpp : p + 1 < 2 ^ 63 := by omega
    have hv : (u * u + 69621 * p + sd) % 2147483629 < 2147483629 := Nat.mod_lt _ (by omega)
    refine ⟨((u * u + 69621 * p + sd) % 2147483629 * 48271 + p) % 2147483647 / 11 % lim, 0, p + 1, ?_, Nat.mod_lt _ h0, by omega⟩
    simp -implicitDefEqProofs (disch := (first | omega | assumption)) only [PL.x_Rof, PL.x_cst, PL.x_var, PL.x_var1f, PL.x_var1l, PL.x_var1d, PL.x_pk, PL.x_pk1f, PL.x_pk1l, PL.x_pk1d, PL.x_pk1i, PL.x_pkF, PL.x_un1, PL.x_un, PL.x_truF, PL.x_bOf, PL.x_tstF, PL.x_notT, PL.x_bin1, PL.x_bin, PL.x_bp3, PL.x_bp2, PL.x_bp1, PL.x_binP, PL.x_andT, PL.x_orT, PL.x_and1t, PL.x_and1f, PL.x_or1t, PL.x_or1f, PL.x_andV, PL.x_orV, PL.x_andV1t, PL.x_andV1f, PL.x_orV1t, PL.x_orV1f, PL.x_ifE, PL.x_ifE1t, PL.x_ifE1f, PL.x_chainD, PL.x_ch1, PL.x_ch2, PL.x_ch3t, PL.x_ch3f, PL.x_nilA, PL.x_consA, PL.x_cons1, PL.x_cons2, PL.x_few, PL.x_mk1, PL.x_tupD, PL.x_lstD, PL.x_lstO, PL.x_dctO0, PL.x_frO, PL.x_cb, PL.x_noP, PL.x_iOf, PL.x_someP, PL.x_sl31, PL.x_sl32, PL.x_sl3, PL.x_slK1, PL.x_slK, PL.x_frF, PL.x_frS, PL.x_cal1, PL.x_callF, PL.x_callO, PL.x_FMof, PL.x_cm1, PL.x_cm2, PL.x_cm3, PL.x_callM, PL.x_FMO, PL.x_cmo1, PL.x_cmo2, PL.x_callMO, PL.x_frzR, PL.x_itF, PL.x_rngF, PL.x_OLof, PL.x_lc2, PL.x_lc1, PL.x_lcO, PL.x_cat1, PL.x_catO, PL.x_cp1, PL.x_cp2, PL.x_cp3, PL.x_catPO, PL.x_SBn, PL.x_SBr, PL.x_skipS, PL.x_badS, PL.x_seqS, PL.x_nxO, PL.x_set1, PL.x_setS, PL.x_setO1f, PL.x_setO1l, PL.x_setO1d, PL.x_setOS, PL.x_ret1, PL.x_retO1, PL.x_exp1, PL.x_retS, PL.x_retOS, PL.x_exprS, PL.x_ifS, PL.x_if1t, PL.x_if1f, PL.x_asg1, PL.x_asgS, PL.x_argsP0, PL.x_ap1f, PL.x_ap1l, PL.x_ap1d, PL.x_ap2, PL.x_argsP, PL.x_par1, PL.x_parP, PL.x_putP0, PL.x_pp1, PL.x_putP, PL.x_app1, PL.x_app2, PL.x_nxB, PL.x_app3, PL.x_appS, PL.x_dp1, PL.x_dp2, PL.x_dp3, PL.x_dp4, PL.x_dputS, PL.x_keyI, PL.x_keyS, PL.x_up1, PL.x_up2, PL.x_up3, PL.x_updS, PL.x_for1, PL.x_forS, PL.x_RTr, PL.x_RTn, PL.x_rf1, PL.x_runF, PL.x_RMr, PL.x_RMn, PL.x_MIo, PL.x_ioOf, PL.x_rm1, PL.x_runM, PL.x_putR, PL.x_putR0f, PL.x_putR0l, PL.x_putR0d, PL.x_putR0n, PL.x_noIof, PL.x_noIol, PL.x_noIod, PL.x_noIon, PL.x_tgN, PL.x_tgT, PL.x_putAll0, PL.x_pa1, PL.x_putAll, PL.x_dAt, PL.x_dSlo, PL.x_dSli, PL.x_dPut, PL.x_dPuo, PL.x_dPui, PL.x_lAt, PL.x_lSl, PL.x_envOf, PL.x_envM, PL.x_toDl, PL.x_toDd, PL.x_toDf, PL.x_nof, PL.x_nol, PL.x_nod, PL.x_okW, PL.x_wipe0, PL.x_wipe, PL.x_yesT, PL.n_add, PL.n_mul, PL.n_mod, PL.n_div, PL.n_sub, PL.n_lt, PL.n_le, PL.n_eq, PL.d_t, PL.d_f, PL.y_add, PL.y_sub, PL.y_mod, PL.y_div, PL.y_mulL, PL.y_mulR, PL.y_lt, PL.y_le, PL.y_gt, PL.y_ge, PL.y_cmp, PL.y_eq, PL.y_ne, PL.y_int, PL.y_notD, PL.y_truB, PL.y_neg, PL.y_isi_n, PL.y_isi_b, PL.y_isi_i, PL.y_isi_s, PL.y_isi_l, PL.y_isi_t, PL.y_isi_d, PL.y_isi_c, PL.l_len, PL.l_lenT, PL.l_it, PL.l_itT, PL.l_tuple, PL.l_list, PL.l_listL, PL.l_ix, PL.l_ixT, PL.l_sum, PL.l_eq, PL.l_ne, PL.l_eq0, PL.l_ne0, PL.l_eqT, PL.l_in, PL.l_nin, PL.l_cat, PL.l_catT, PL.l_stp, PL.l_rng1, PL.l_rng2, PL.x_fb, PL.x_fb1, PL.l_eq00, PL.l_ne00, PL.l_eq01, PL.l_ne01, PL.l_lenS, PL.x_ODof, PL.x_dc2, PL.x_dc1, PL.x_dcO, PL.l_nin_tk, PL.l_in_tk, PL.l_min, PL.l_slT, PL.l_slL, PL.l_rng3, PL.x_rgl2, PL.x_rgl1, PL.x_rgList, PL.x_rgTup, PL.x_gp3, PL.x_gp2, PL.x_gp1, PL.x_getP, PL.x_mt2, PL.x_mt1, PL.x_meth1, PL.l_isL, PL.x_XRo, PL.x_XRe, PL.x_calX, PL.x_calXe, PL.x_callX, PL.x_rai1, PL.x_rai, PL.x_try3, PL.x_try2, PL.x_try2f, PL.x_try1, PL.x_try1r, PL.x_try1n, PL.x_tryR, PL.x_exu1, PL.x_exb1, PL.x_exc1, PL.x_exc2, PL.x_exm1, PL.x_exSB, PL.x_exr1, PL.x_exe1, PL.x_exi1, PL.x_exRT, List.getElem?_cons_zero, List.getElem?_cons_succ, List.set_cons_zero, List.set_cons_succ, List.length_cons, List.length_nil, List.map_cons, List.map_nil, List.replicate_succ, List.replicate_zero, List.cons_append, List.nil_append, Nat.zero_add, Nat.add_zero, Nat.reduceAdd, Nat.reduceSub, Nat.reduceMul, Nat.reduceLT, Nat.reduceEqDiff, Bool.not_true, Bool.not_false, Bool.true_and, Bool.false_and, Bool.and_true, Bool.and_false, Bool.true_or, Bool.false_or, Bool.or_true, Bool.or_false, List.all_cons, List.all_nil, PL.nl_len, List.length_map, List.length_range, isiT, tyD, Option.map_some, Option.map_none, ne_eq, not_false_eq_true, not_true_eq_false, decide_true, decide_false, eq_self, implies_true, gt_iff_lt, ge_iff_le, m__law_draw, b__law_draw, ms2_l, ms2_s, ms2_ps, ms2_c, ms2_d, ms2_len, hg, hu]
theorem draw2 {cs : List Int} {l sd p lim : Nat} (hc : cs ≠ []) (hs : sd < 2 ^ 31) (hp : p < 2 ^ 20) (h0 : 0 < lim) (h1 : lim < 2 ^ 63) : ∃ x l' p' : Nat, m__law_draw (ms2 l sd cs p) [.int lim] = .ok (.fr (.int x)) (ms2 l' sd cs p') ∧ x < lim ∧ p' ≤ p + 1 :=
  draw2_ok hc hs hp h0 fun a => y_div a ⟨h0, h1⟩
theorem of2 {cs : List Int} {l sd p : Nat} {ds : List Dt} (hc : cs ≠ []) (hs : sd < 2 ^ 31) (hp : p < 2 ^ 20) (h0 : ds ≠ []) (h1 : ds.length < 2 ^ 40) : ∃ (d : Dt) (l' p' : Nat), m__law_of (ms2 l sd cs p) [.lst ds] = .ok (.fr d) (ms2 l' sd cs p') ∧ d ∈ ds ∧ p' ≤ p + 1 := by
  obtain ⟨x, l', p', h2, h3, h4⟩ := draw2 (l := l) (lim := ds.length) hc hs hp (List.length_pos_iff.mpr h0) (by omega)
  have hg : ds[x]? = some ds[x] := List.getElem?_eq_getElem h3
  refine ⟨_, l', p', ?_, List.getElem_mem h3, h4⟩
  simp -implicitDefEqProofs (disch := (first | omega | assumption)) only [PL.x_Rof, PL.x_cst, PL.x_var, PL.x_var1f, PL.x_var1l, PL.x_var1d, PL.x_pk, PL.x_pk1f, PL.x_pk1l, PL.x_pk1d, PL.x_pk1i, PL.x_pkF, PL.x_un1, PL.x_un, PL.x_truF, PL.x_bOf, PL.x_tstF, PL.x_notT, PL.x_bin1, PL.x_bin, PL.x_bp3, PL.x_bp2, PL.x_bp1, PL.x_binP, PL.x_andT, PL.x_orT, PL.x_and1t, PL.x_and1f, PL.x_or1t, PL.x_or1f, PL.x_andV, PL.x_orV, PL.x_andV1t, PL.x_andV1f, PL.x_orV1t, PL.x_orV1f, PL.x_ifE, PL.x_ifE1t, PL.x_ifE1f, PL.x_chainD, PL.x_ch1, PL.x_ch2, PL.x_ch3t, PL.x_ch3f, PL.x_nilA, PL.x_consA, PL.x_cons1, PL.x_cons2, PL.x_few, PL.x_mk1, PL.x_tupD, PL.x_lstD, PL.x_lstO, PL.x_dctO0, PL.x_frO, PL.x_cb, PL.x_noP, PL.x_iOf, PL.x_someP, PL.x_sl31, PL.x_sl32, PL.x_sl3, PL.x_slK1, PL.x_slK, PL.x_frF, PL.x_frS, PL.x_cal1, PL.x_callF, PL.x_callO, PL.x_FMof, PL.x_cm1, PL.x_cm2, PL.x_cm3, PL.x_callM, PL.x_FMO, PL.x_cmo1, PL.x_cmo2, PL.x_callMO, PL.x_frzR, PL.x_itF, PL.x_rngF, PL.x_OLof, PL.x_lc2, PL.x_lc1, PL.x_lcO, PL.x_cat1, PL.x_catO, PL.x_cp1, PL.x_cp2, PL.x_cp3, PL.x_catPO, PL.x_SBn, PL.x_SBr, PL.x_skipS, PL.x_badS, PL.x_seqS, PL.x_nxO, PL.x_set1, PL.x_setS, PL.x_setO1f, PL.x_setO1l, PL.x_setO1d, PL.x_setOS, PL.x_ret1, PL.x_retO1, PL.x_exp1, PL.x_retS, PL.x_retOS, PL.x_exprS, PL.x_ifS, PL.x_if1t, PL.x_if1f, PL.x_asg1, PL.x_asgS, PL.x_argsP0, PL.x_ap1f, PL.x_ap1l, PL.x_ap1d, PL.x_ap2, PL.x_argsP, PL.x_par1, PL.x_parP, PL.x_putP0, PL.x_pp1, PL.x_putP, PL.x_app1, PL.x_app2, PL.x_nxB, PL.x_app3, PL.x_appS, PL.x_dp1, PL.x_dp2, PL.x_dp3, PL.x_dp4, PL.x_dputS, PL.x_keyI, PL.x_keyS, PL.x_up1, PL.x_up2, PL.x_up3, PL.x_updS, PL.x_for1, PL.x_forS, PL.x_RTr, PL.x_RTn, PL.x_rf1, PL.x_runF, PL.x_RMr, PL.x_RMn, PL.x_MIo, PL.x_ioOf, PL.x_rm1, PL.x_runM, PL.x_putR, PL.x_putR0f, PL.x_putR0l, PL.x_putR0d, PL.x_putR0n, PL.x_noIof, PL.x_noIol, PL.x_noIod, PL.x_noIon, PL.x_tgN, PL.x_tgT, PL.x_putAll0, PL.x_pa1, PL.x_putAll, PL.x_dAt, PL.x_dSlo, PL.x_dSli, PL.x_dPut, PL.x_dPuo, PL.x_dPui, PL.x_lAt, PL.x_lSl, PL.x_envOf, PL.x_envM, PL.x_toDl, PL.x_toDd, PL.x_toDf, PL.x_nof, PL.x_nol, PL.x_nod, PL.x_okW, PL.x_wipe0, PL.x_wipe, PL.x_yesT, PL.n_add, PL.n_mul, PL.n_mod, PL.n_div, PL.n_sub, PL.n_lt, PL.n_le, PL.n_eq, PL.d_t, PL.d_f, PL.y_add, PL.y_sub, PL.y_mod, PL.y_div, PL.y_mulL, PL.y_mulR, PL.y_lt, PL.y_le, PL.y_gt, PL.y_ge, PL.y_cmp, PL.y_eq, PL.y_ne, PL.y_int, PL.y_notD, PL.y_truB, PL.y_neg, PL.y_isi_n, PL.y_isi_b, PL.y_isi_i, PL.y_isi_s, PL.y_isi_l, PL.y_isi_t, PL.y_isi_d, PL.y_isi_c, PL.l_len, PL.l_lenT, PL.l_it, PL.l_itT, PL.l_tuple, PL.l_list, PL.l_listL, PL.l_ix, PL.l_ixT, PL.l_sum, PL.l_eq, PL.l_ne, PL.l_eq0, PL.l_ne0, PL.l_eqT, PL.l_in, PL.l_nin, PL.l_cat, PL.l_catT, PL.l_stp, PL.l_rng1, PL.l_rng2, PL.x_fb, PL.x_fb1, PL.l_eq00, PL.l_ne00, PL.l_eq01, PL.l_ne01, PL.l_lenS, PL.x_ODof, PL.x_dc2, PL.x_dc1, PL.x_dcO, PL.l_nin_tk, PL.l_in_tk, PL.l_min, PL.l_slT, PL.l_slL, PL.l_rng3, PL.x_rgl2, PL.x_rgl1, PL.x_rgList, PL.x_rgTup, PL.x_gp3, PL.x_gp2, PL.x_gp1, PL.x_getP, PL.x_mt2, PL.x_mt1, PL.x_meth1, PL.l_isL, PL.x_XRo, PL.x_XRe, PL.x_calX, PL.x_calXe, PL.x_callX, PL.x_rai1, PL.x_rai, PL.x_try3, PL.x_try2, PL.x_try2f, PL.x_try1, PL.x_try1r, PL.x_try1n, PL.x_tryR, PL.x_exu1, PL.x_exb1, PL.x_exc1, PL.x_exc2, PL.x_exm1, PL.x_exSB, PL.x_exr1, PL.x_exe1, PL.x_exi1, PL.x_exRT, List.getElem?_cons_zero, List.getElem?_cons_succ, List.set_cons_zero, List.set_cons_succ, List.length_cons, List.length_nil, List.map_cons, List.map_nil, List.replicate_succ, List.replicate_zero, List.cons_append, List.nil_append, Nat.zero_add, Nat.add_zero, Nat.reduceAdd, Nat.reduceSub, Nat.reduceMul, Nat.reduceLT, Nat.reduceEqDiff, Bool.not_true, Bool.not_false, Bool.true_and, Bool.false_and, Bool.and_true, Bool.and_false, Bool.true_or, Bool.false_or, Bool.or_true, Bool.or_false, List.all_cons, List.all_nil, PL.nl_len, List.length_map, List.length_range, isiT, tyD, Option.map_some, Option.map_none, ne_eq, not_false_eq_true, not_true_eq_false, decide_true, decide_false, eq_self, implies_true, gt_iff_lt, ge_iff_le, m__law_of, b__law_of, h2, hg]
theorem of2_nl {cs : List Int} {l sd p : Nat} {ns : List Nat} (hc : cs ≠ []) (hs : sd < 2 ^ 31) (hp : p < 2 ^ 20) (h0 : ns ≠ []) (h1 : ns.length < 2 ^ 40) : ∃ (x : Nat) (l' p' : Nat), m__law_of (ms2 l sd cs p) [.lst (nl ns)] = .ok (.fr (.int (x : Nat))) (ms2 l' sd cs p') ∧ x ∈ ns ∧ p' ≤ p + 1 := by
  obtain ⟨d, l', p', h2, h3, h4⟩ := of2 (l := l) (ds := nl ns) hc hs hp (by cases ns with | nil => exact absurd rfl h0 | cons a b => exact fun z => nomatch z) (by rw [nl_len]; exact h1)
  obtain ⟨x, h5, rfl⟩ := List.mem_map.mp h3
  exact ⟨x, l', p', h2, h5, h4⟩
theorem l_slS (ns : List Int) (lo hi : Option Int) : slD (.scr ns) lo hi = some (.lst ((cutD ns lo hi).map .int)) := rfl
theorem begun2_ok (ns : List Int) (hn : ns.length ≤ 63) (k : Nat) (hk : k ≤ 1000) : ∃ (cs : List Int) (l sd : Nat), cs ≠ [] ∧ sd < 2 ^ 31 ∧ m__law_begun [.scr ns, .int k] = .ok (.od (ms2 l sd cs (0 : Nat))) := by
  have hcat : addD (.lst ((ns.drop k).map .int)) (.lst ((ns.take k).map .int)) = some (.lst ((ns.drop k ++ ns.take k).map .int)) := by
    rw [l_cat _ _ (by rw [List.length_map, List.length_map, List.length_drop, List.length_take]; omega), List.map_append]
  have hlc : (ns.drop k ++ ns.take k).length ≤ 126 := by rw [List.length_append, List.length_drop, List.length_take]; omega
  generalize ns.drop k ++ ns.take k = cells at hcat hlc
  have hq : powD (.int (10 : Nat)) (.int (18 : Nat)) = some (.int (1000000000000000000 : Nat)) := by kernel_rfl
  have hfin : addD (.lst (cells.map .int)) (.lst [.int (43 * k + 7 : Nat)]) = some (.lst ((cells ++ [((43 * k + 7 : Nat) : Int)]).map .int)) := by
    rw [l_cat _ _ (by rw [List.length_map]; simp; omega), List.map_append]
    rfl
  obtain ⟨gs, hgs⟩ : ∃ gs : List Int, gs = cells.filter fun i => decide (((1000000000000000000 : Nat) : Int) ≤ i) := ⟨_, rfl⟩
  have hpos : ∀ i ∈ gs, (0 : Int) ≤ i := fun i hi => by
    rw [hgs] at hi
    have := of_decide_eq_true (List.mem_filter.mp hi).2
    omega
  have hgl : gs.length ≤ 126 := by rw [hgs]; exact Nat.le_trans (List.length_filter_le _ _) hlc
  obtain ⟨l, hl⟩ : ∃ l : Nat, ∀ ρ : Rho, ρ[3]? = some (V (.lst (gs.map .int))) → ifE (tstF (bin neD (var 3) (lstD (nilA)))) (bin ixD (var 3) (cst (.int (0 : Nat)))) (cst (.int (0 : Nat))) ρ = .ok (.int (l : Nat)) ρ := by
    cases gs with
    | nil => exact ⟨0, fun ρ hρ => by simp -implicitDefEqProofs (disch := (first | omega | assumption)) only [PL.x_Rof, PL.x_cst, PL.x_var, PL.x_var1f, PL.x_var1l, PL.x_var1d, PL.x_pk, PL.x_pk1f, PL.x_pk1l, PL.x_pk1d, PL.x_pk1i, PL.x_pkF, PL.x_un1, PL.x_un, PL.x_truF, PL.x_bOf, PL.x_tstF, PL.x_notT, PL.x_bin1, PL.x_bin, PL.x_bp3, PL.x_bp2, PL.x_bp1, PL.x_binP, PL.x_andT, PL.x_orT, PL.x_and1t, PL.x_and1f, PL.x_or1t, PL.x_or1f, PL.x_andV, PL.x_orV, PL.x_andV1t, PL.x_andV1f, PL.x_orV1t, PL.x_orV1f, PL.x_ifE, PL.x_ifE1t, PL.x_ifE1f, PL.x_chainD, PL.x_ch1, PL.x_ch2, PL.x_ch3t, PL.x_ch3f, PL.x_nilA, PL.x_consA, PL.x_cons1, PL.x_cons2, PL.x_few, PL.x_mk1, PL.x_tupD, PL.x_lstD, PL.x_lstO, PL.x_dctO0, PL.x_frO, PL.x_cb, PL.x_noP, PL.x_iOf, PL.x_someP, PL.x_sl31, PL.x_sl32, PL.x_sl3, PL.x_slK1, PL.x_slK, PL.x_frF, PL.x_frS, PL.x_cal1, PL.x_callF, PL.x_callO, PL.x_FMof, PL.x_cm1, PL.x_cm2, PL.x_cm3, PL.x_callM, PL.x_FMO, PL.x_cmo1, PL.x_cmo2, PL.x_callMO, PL.x_frzR, PL.x_itF, PL.x_rngF, PL.x_OLof, PL.x_lc2, PL.x_lc1, PL.x_lcO, PL.x_cat1, PL.x_catO, PL.x_cp1, PL.x_cp2, PL.x_cp3, PL.x_catPO, PL.x_SBn, PL.x_SBr, PL.x_skipS, PL.x_badS, PL.x_seqS, PL.x_nxO, PL.x_set1, PL.x_setS, PL.x_setO1f, PL.x_setO1l, PL.x_setO1d, PL.x_setOS, PL.x_ret1, PL.x_retO1, PL.x_exp1, PL.x_retS, PL.x_retOS, PL.x_exprS, PL.x_ifS, PL.x_if1t, PL.x_if1f, PL.x_asg1, PL.x_asgS, PL.x_argsP0, PL.x_ap1f, PL.x_ap1l, PL.x_ap1d, PL.x_ap2, PL.x_argsP, PL.x_par1, PL.x_parP, PL.x_putP0, PL.x_pp1, PL.x_putP, PL.x_app1, PL.x_app2, PL.x_nxB, PL.x_app3, PL.x_appS, PL.x_dp1, PL.x_dp2, PL.x_dp3, PL.x_dp4, PL.x_dputS, PL.x_keyI, PL.x_keyS, PL.x_up1, PL.x_up2, PL.x_up3, PL.x_updS, PL.x_for1, PL.x_forS, PL.x_RTr, PL.x_RTn, PL.x_rf1, PL.x_runF, PL.x_RMr, PL.x_RMn, PL.x_MIo, PL.x_ioOf, PL.x_rm1, PL.x_runM, PL.x_putR, PL.x_putR0f, PL.x_putR0l, PL.x_putR0d, PL.x_putR0n, PL.x_noIof, PL.x_noIol, PL.x_noIod, PL.x_noIon, PL.x_tgN, PL.x_tgT, PL.x_putAll0, PL.x_pa1, PL.x_putAll, PL.x_dAt, PL.x_dSlo, PL.x_dSli, PL.x_dPut, PL.x_dPuo, PL.x_dPui, PL.x_lAt, PL.x_lSl, PL.x_envOf, PL.x_envM, PL.x_toDl, PL.x_toDd, PL.x_toDf, PL.x_nof, PL.x_nol, PL.x_nod, PL.x_okW, PL.x_wipe0, PL.x_wipe, PL.x_yesT, PL.n_add, PL.n_mul, PL.n_mod, PL.n_div, PL.n_sub, PL.n_lt, PL.n_le, PL.n_eq, PL.d_t, PL.d_f, PL.y_add, PL.y_sub, PL.y_mod, PL.y_div, PL.y_mulL, PL.y_mulR, PL.y_lt, PL.y_le, PL.y_gt, PL.y_ge, PL.y_cmp, PL.y_eq, PL.y_ne, PL.y_int, PL.y_notD, PL.y_truB, PL.y_neg, PL.y_isi_n, PL.y_isi_b, PL.y_isi_i, PL.y_isi_s, PL.y_isi_l, PL.y_isi_t, PL.y_isi_d, PL.y_isi_c, PL.l_len, PL.l_lenT, PL.l_it, PL.l_itT, PL.l_tuple, PL.l_list, PL.l_listL, PL.l_ix, PL.l_ixT, PL.l_sum, PL.l_eq, PL.l_ne, PL.l_eq0, PL.l_ne0, PL.l_eqT, PL.l_in, PL.l_nin, PL.l_cat, PL.l_catT, PL.l_stp, PL.l_rng1, PL.l_rng2, PL.x_fb, PL.x_fb1, PL.l_eq00, PL.l_ne00, PL.l_eq01, PL.l_ne01, PL.l_lenS, PL.x_ODof, PL.x_dc2, PL.x_dc1, PL.x_dcO, PL.l_nin_tk, PL.l_in_tk, PL.l_min, PL.l_slT, PL.l_slL, PL.l_rng3, PL.x_rgl2, PL.x_rgl1, PL.x_rgList, PL.x_rgTup, PL.x_gp3, PL.x_gp2, PL.x_gp1, PL.x_getP, PL.x_mt2, PL.x_mt1, PL.x_meth1, PL.l_isL, PL.x_XRo, PL.x_XRe, PL.x_calX, PL.x_calXe, PL.x_callX, PL.x_rai1, PL.x_rai, PL.x_try3, PL.x_try2, PL.x_try2f, PL.x_try1, PL.x_try1r, PL.x_try1n, PL.x_tryR, PL.x_exu1, PL.x_exb1, PL.x_exc1, PL.x_exc2, PL.x_exm1, PL.x_exSB, PL.x_exr1, PL.x_exe1, PL.x_exi1, PL.x_exRT, List.getElem?_cons_zero, List.getElem?_cons_succ, List.set_cons_zero, List.set_cons_succ, List.length_cons, List.length_nil, List.map_cons, List.map_nil, List.replicate_succ, List.replicate_zero, List.cons_append, List.nil_append, Nat.zero_add, Nat.add_zero, Nat.reduceAdd, Nat.reduceSub, Nat.reduceMul, Nat.reduceLT, Nat.reduceEqDiff, Bool.not_true, Bool.not_false, Bool.true_and, Bool.false_and, Bool.and_true, Bool.and_false, Bool.true_or, Bool.false_or, Bool.or_true, Bool.or_false, List.all_cons, List.all_nil, PL.nl_len, List.length_map, List.length_range, isiT, tyD, Option.map_some, Option.map_none, ne_eq, not_false_eq_true, not_true_eq_false, decide_true, decide_false, eq_self, implies_true, gt_iff_lt, ge_iff_le, hρ, show neD (.lst []) (.lst []) = some (.bl false) from rfl]⟩
    | cons g gs =>
      have h1 := ne_nil g gs
      have h2 : ((g :: gs).map Dt.int)[0]? = some (.int ((g.toNat : Nat) : Int)) := by
        rw [Int.toNat_of_nonneg (hpos g (List.mem_cons_self ..))]
        rfl
      refine ⟨g.toNat, fun ρ hρ => ?_⟩
      generalize (g :: gs).map Dt.int = xs at h1 h2 hρ
      simp -implicitDefEqProofs (disch := (first | omega | assumption)) only [PL.x_Rof, PL.x_cst, PL.x_var, PL.x_var1f, PL.x_var1l, PL.x_var1d, PL.x_pk, PL.x_pk1f, PL.x_pk1l, PL.x_pk1d, PL.x_pk1i, PL.x_pkF, PL.x_un1, PL.x_un, PL.x_truF, PL.x_bOf, PL.x_tstF, PL.x_notT, PL.x_bin1, PL.x_bin, PL.x_bp3, PL.x_bp2, PL.x_bp1, PL.x_binP, PL.x_andT, PL.x_orT, PL.x_and1t, PL.x_and1f, PL.x_or1t, PL.x_or1f, PL.x_andV, PL.x_orV, PL.x_andV1t, PL.x_andV1f, PL.x_orV1t, PL.x_orV1f, PL.x_ifE, PL.x_ifE1t, PL.x_ifE1f, PL.x_chainD, PL.x_ch1, PL.x_ch2, PL.x_ch3t, PL.x_ch3f, PL.x_nilA, PL.x_consA, PL.x_cons1, PL.x_cons2, PL.x_few, PL.x_mk1, PL.x_tupD, PL.x_lstD, PL.x_lstO, PL.x_dctO0, PL.x_frO, PL.x_cb, PL.x_noP, PL.x_iOf, PL.x_someP, PL.x_sl31, PL.x_sl32, PL.x_sl3, PL.x_slK1, PL.x_slK, PL.x_frF, PL.x_frS, PL.x_cal1, PL.x_callF, PL.x_callO, PL.x_FMof, PL.x_cm1, PL.x_cm2, PL.x_cm3, PL.x_callM, PL.x_FMO, PL.x_cmo1, PL.x_cmo2, PL.x_callMO, PL.x_frzR, PL.x_itF, PL.x_rngF, PL.x_OLof, PL.x_lc2, PL.x_lc1, PL.x_lcO, PL.x_cat1, PL.x_catO, PL.x_cp1, PL.x_cp2, PL.x_cp3, PL.x_catPO, PL.x_SBn, PL.x_SBr, PL.x_skipS, PL.x_badS, PL.x_seqS, PL.x_nxO, PL.x_set1, PL.x_setS, PL.x_setO1f, PL.x_setO1l, PL.x_setO1d, PL.x_setOS, PL.x_ret1, PL.x_retO1, PL.x_exp1, PL.x_retS, PL.x_retOS, PL.x_exprS, PL.x_ifS, PL.x_if1t, PL.x_if1f, PL.x_asg1, PL.x_asgS, PL.x_argsP0, PL.x_ap1f, PL.x_ap1l, PL.x_ap1d, PL.x_ap2, PL.x_argsP, PL.x_par1, PL.x_parP, PL.x_putP0, PL.x_pp1, PL.x_putP, PL.x_app1, PL.x_app2, PL.x_nxB, PL.x_app3, PL.x_appS, PL.x_dp1, PL.x_dp2, PL.x_dp3, PL.x_dp4, PL.x_dputS, PL.x_keyI, PL.x_keyS, PL.x_up1, PL.x_up2, PL.x_up3, PL.x_updS, PL.x_for1, PL.x_forS, PL.x_RTr, PL.x_RTn, PL.x_rf1, PL.x_runF, PL.x_RMr, PL.x_RMn, PL.x_MIo, PL.x_ioOf, PL.x_rm1, PL.x_runM, PL.x_putR, PL.x_putR0f, PL.x_putR0l, PL.x_putR0d, PL.x_putR0n, PL.x_noIof, PL.x_noIol, PL.x_noIod, PL.x_noIon, PL.x_tgN, PL.x_tgT, PL.x_putAll0, PL.x_pa1, PL.x_putAll, PL.x_dAt, PL.x_dSlo, PL.x_dSli, PL.x_dPut, PL.x_dPuo, PL.x_dPui, PL.x_lAt, PL.x_lSl, PL.x_envOf, PL.x_envM, PL.x_toDl, PL.x_toDd, PL.x_toDf, PL.x_nof, PL.x_nol, PL.x_nod, PL.x_okW, PL.x_wipe0, PL.x_wipe, PL.x_yesT, PL.n_add, PL.n_mul, PL.n_mod, PL.n_div, PL.n_sub, PL.n_lt, PL.n_le, PL.n_eq, PL.d_t, PL.d_f, PL.y_add, PL.y_sub, PL.y_mod, PL.y_div, PL.y_mulL, PL.y_mulR, PL.y_lt, PL.y_le, PL.y_gt, PL.y_ge, PL.y_cmp, PL.y_eq, PL.y_ne, PL.y_int, PL.y_notD, PL.y_truB, PL.y_neg, PL.y_isi_n, PL.y_isi_b, PL.y_isi_i, PL.y_isi_s, PL.y_isi_l, PL.y_isi_t, PL.y_isi_d, PL.y_isi_c, PL.l_len, PL.l_lenT, PL.l_it, PL.l_itT, PL.l_tuple, PL.l_list, PL.l_listL, PL.l_ix, PL.l_ixT, PL.l_sum, PL.l_eq, PL.l_ne, PL.l_eq0, PL.l_ne0, PL.l_eqT, PL.l_in, PL.l_nin, PL.l_cat, PL.l_catT, PL.l_stp, PL.l_rng1, PL.l_rng2, PL.x_fb, PL.x_fb1, PL.l_eq00, PL.l_ne00, PL.l_eq01, PL.l_ne01, PL.l_lenS, PL.x_ODof, PL.x_dc2, PL.x_dc1, PL.x_dcO, PL.l_nin_tk, PL.l_in_tk, PL.l_min, PL.l_slT, PL.l_slL, PL.l_rng3, PL.x_rgl2, PL.x_rgl1, PL.x_rgList, PL.x_rgTup, PL.x_gp3, PL.x_gp2, PL.x_gp1, PL.x_getP, PL.x_mt2, PL.x_mt1, PL.x_meth1, PL.l_isL, PL.x_XRo, PL.x_XRe, PL.x_calX, PL.x_calXe, PL.x_callX, PL.x_rai1, PL.x_rai, PL.x_try3, PL.x_try2, PL.x_try2f, PL.x_try1, PL.x_try1r, PL.x_try1n, PL.x_tryR, PL.x_exu1, PL.x_exb1, PL.x_exc1, PL.x_exc2, PL.x_exm1, PL.x_exSB, PL.x_exr1, PL.x_exe1, PL.x_exi1, PL.x_exRT, List.getElem?_cons_zero, List.getElem?_cons_succ, List.set_cons_zero, List.set_cons_succ, List.length_cons, List.length_nil, List.map_cons, List.map_nil, List.replicate_succ, List.replicate_zero, List.cons_append, List.nil_append, Nat.zero_add, Nat.add_zero, Nat.reduceAdd, Nat.reduceSub, Nat.reduceMul, Nat.reduceLT, Nat.reduceEqDiff, Bool.not_true, Bool.not_false, Bool.true_and, Bool.false_and, Bool.and_true, Bool.and_false, Bool.true_or, Bool.false_or, Bool.or_true, Bool.or_false, List.all_cons, List.all_nil, PL.nl_len, List.length_map, List.length_range, isiT, tyD, Option.map_some, Option.map_none, ne_eq, not_false_eq_true, not_true_eq_false, decide_true, decide_false, eq_self, implies_true, gt_iff_lt, ge_iff_le, hρ, h1, h2]
  refine ⟨cells ++ [((43 * k + 7 : Nat) : Int)], l, ?_⟩
  suffices h : ∃ sd : Nat, sd < 2 ^ 31 ∧ m__law_begun [.scr ns, .int k] = .ok (.od (ms2 l sd (cells ++ [((43 * k + 7 : Nat) : Int)]) (0 : Nat))) by
    obtain ⟨sd, h1, h2⟩ := h
    exact ⟨sd, by simp, h1, h2⟩
  obtain ⟨ρ', h1, sd, e5, rfl, h2⟩ := for_P (tg := tgN 5) (bd := setS 4 (bin modD (un intD (bin addD (bin mulD (var 4) (cst (.int (48271 : Nat)))) (pkF 5))) (cst (.int (2147483647 : Nat))))) (F := Dt.int)
    (fun _ ρ => ∃ (sd : Nat) (e5 : Option Sl), ρ = [V (.scr ns), I k, V (.lst (cells.map .int)), V (.lst (gs.map .int)), I sd, e5] ∧ sd < 2 ^ 31) (xs := cells) (ρ := [V (.scr ns), I k, V (.lst (cells.map .int)), V (.lst (gs.map .int)), I (131 + k : Nat), none]) ⟨131 + k, none, rfl, by omega⟩ (by
      rintro i x ρ hx ⟨sd, e5, rfl, hs⟩
      obtain ⟨u, hu, hu2⟩ := emod_nat (lim := 2147483647) (by omega) (((sd * 48271 : Nat) : Int) + x)
      refine ⟨_, ?_, u, some (.fr (.int x)), rfl, by omega⟩
      simp -implicitDefEqProofs (disch := (first | omega | assumption)) only [PL.x_Rof, PL.x_cst, PL.x_var, PL.x_var1f, PL.x_var1l, PL.x_var1d, PL.x_pk, PL.x_pk1f, PL.x_pk1l, PL.x_pk1d, PL.x_pk1i, PL.x_pkF, PL.x_un1, PL.x_un, PL.x_truF, PL.x_bOf, PL.x_tstF, PL.x_notT, PL.x_bin1, PL.x_bin, PL.x_bp3, PL.x_bp2, PL.x_bp1, PL.x_binP, PL.x_andT, PL.x_orT, PL.x_and1t, PL.x_and1f, PL.x_or1t, PL.x_or1f, PL.x_andV, PL.x_orV, PL.x_andV1t, PL.x_andV1f, PL.x_orV1t, PL.x_orV1f, PL.x_ifE, PL.x_ifE1t, PL.x_ifE1f, PL.x_chainD, PL.x_ch1, PL.x_ch2, PL.x_ch3t, PL.x_ch3f, PL.x_nilA, PL.x_consA, PL.x_cons1, PL.x_cons2, PL.x_few, PL.x_mk1, PL.x_tupD, PL.x_lstD, PL.x_lstO, PL.x_dctO0, PL.x_frO, PL.x_cb, PL.x_noP, PL.x_iOf, PL.x_someP, PL.x_sl31, PL.x_sl32, PL.x_sl3, PL.x_slK1, PL.x_slK, PL.x_frF, PL.x_frS, PL.x_cal1, PL.x_callF, PL.x_callO, PL.x_FMof, PL.x_cm1, PL.x_cm2, PL.x_cm3, PL.x_callM, PL.x_FMO, PL.x_cmo1, PL.x_cmo2, PL.x_callMO, PL.x_frzR, PL.x_itF, PL.x_rngF, PL.x_OLof, PL.x_lc2, PL.x_lc1, PL.x_lcO, PL.x_cat1, PL.x_catO, PL.x_cp1, PL.x_cp2, PL.x_cp3, PL.x_catPO, PL.x_SBn, PL.x_SBr, PL.x_skipS, PL.x_badS, PL.x_seqS, PL.x_nxO, PL.x_set1, PL.x_setS, PL.x_setO1f, PL.x_setO1l, PL.x_setO1d, PL.x_setOS, PL.x_ret1, PL.x_retO1, PL.x_exp1, PL.x_retS, PL.x_retOS, PL.x_exprS, PL.x_ifS, PL.x_if1t, PL.x_if1f, PL.x_asg1, PL.x_asgS, PL.x_argsP0, PL.x_ap1f, PL.x_ap1l, PL.x_ap1d, PL.x_ap2, PL.x_argsP, PL.x_par1, PL.x_parP, PL.x_putP0, PL.x_pp1, PL.x_putP, PL.x_app1, PL.x_app2, PL.x_nxB, PL.x_app3, PL.x_appS, PL.x_dp1, PL.x_dp2, PL.x_dp3, PL.x_dp4, PL.x_dputS, PL.x_keyI, PL.x_keyS, PL.x_up1, PL.x_up2, PL.x_up3, PL.x_updS, PL.x_for1, PL.x_forS, PL.x_RTr, PL.x_RTn, PL.x_rf1, PL.x_runF, PL.x_RMr, PL.x_RMn, PL.x_MIo, PL.x_ioOf, PL.x_rm1, PL.x_runM, PL.x_putR, PL.x_putR0f, PL.x_putR0l, PL.x_putR0d, PL.x_putR0n, PL.x_noIof, PL.x_noIol, PL.x_noIod, PL.x_noIon, PL.x_tgN, PL.x_tgT, PL.x_putAll0, PL.x_pa1, PL.x_putAll, PL.x_dAt, PL.x_dSlo, PL.x_dSli, PL.x_dPut, PL.x_dPuo, PL.x_dPui, PL.x_lAt, PL.x_lSl, PL.x_envOf, PL.x_envM, PL.x_toDl, PL.x_toDd, PL.x_toDf, PL.x_nof, PL.x_nol, PL.x_nod, PL.x_okW, PL.x_wipe0, PL.x_wipe, PL.x_yesT, PL.n_add, PL.n_mul, PL.n_mod, PL.n_div, PL.n_sub, PL.n_lt, PL.n_le, PL.n_eq, PL.d_t, PL.d_f, PL.y_add, PL.y_sub, PL.y_mod, PL.y_div, PL.y_mulL, PL.y_mulR, PL.y_lt, PL.y_le, PL.y_gt, PL.y_ge, PL.y_cmp, PL.y_eq, PL.y_ne, PL.y_int, PL.y_notD, PL.y_truB, PL.y_neg, PL.y_isi_n, PL.y_isi_b, PL.y_isi_i, PL.y_isi_s, PL.y_isi_l, PL.y_isi_t, PL.y_isi_d, PL.y_isi_c, PL.l_len, PL.l_lenT, PL.l_it, PL.l_itT, PL.l_tuple, PL.l_list, PL.l_listL, PL.l_ix, PL.l_ixT, PL.l_sum, PL.l_eq, PL.l_ne, PL.l_eq0, PL.l_ne0, PL.l_eqT, PL.l_in, PL.l_nin, PL.l_cat, PL.l_catT, PL.l_stp, PL.l_rng1, PL.l_rng2, PL.x_fb, PL.x_fb1, PL.l_eq00, PL.l_ne00, PL.l_eq01, PL.l_ne01, PL.l_lenS, PL.x_ODof, PL.x_dc2, PL.x_dc1, PL.x_dcO, PL.l_nin_tk, PL.l_in_tk, PL.l_min, PL.l_slT, PL.l_slL, PL.l_rng3, PL.x_rgl2, PL.x_rgl1, PL.x_rgList, PL.x_rgTup, PL.x_gp3, PL.x_gp2, PL.x_gp1, PL.x_getP, PL.x_mt2, PL.x_mt1, PL.x_meth1, PL.l_isL, PL.x_XRo, PL.x_XRe, PL.x_calX, PL.x_calXe, PL.x_callX, PL.x_rai1, PL.x_rai, PL.x_try3, PL.x_try2, PL.x_try2f, PL.x_try1, PL.x_try1r, PL.x_try1n, PL.x_tryR, PL.x_exu1, PL.x_exb1, PL.x_exc1, PL.x_exc2, PL.x_exm1, PL.x_exSB, PL.x_exr1, PL.x_exe1, PL.x_exi1, PL.x_exRT, List.getElem?_cons_zero, List.getElem?_cons_succ, List.set_cons_zero, List.set_cons_succ, List.length_cons, List.length_nil, List.map_cons, List.map_nil, List.replicate_succ, List.replicate_zero, List.cons_append, List.nil_append, Nat.zero_add, Nat.add_zero, Nat.reduceAdd, Nat.reduceSub, Nat.reduceMul, Nat.reduceLT, Nat.reduceEqDiff, Bool.not_true, Bool.not_false, Bool.true_and, Bool.false_and, Bool.and_true, Bool.and_false, Bool.true_or, Bool.false_or, Bool.or_true, Bool.or_false, List.all_cons, List.all_nil, PL.nl_len, List.length_map, List.length_range, isiT, tyD, Option.map_some, Option.map_none, ne_eq, not_false_eq_true, not_true_eq_false, decide_true, decide_false, eq_self, implies_true, gt_iff_lt, ge_iff_le, x_fb, x_fb1, hu])
  refine ⟨sd, h2, ?_⟩
  have hdisp : ∀ ρ : Rho, ρ = [V (.scr ns), I k, V (.lst (cells.map .int)), V (.lst (gs.map .int)), I sd, e5] → dispO ((cst (.str "left"), ifE (tstF (bin neD (var 3) (lstD (nilA)))) (bin ixD (var 3) (cst (.int (0 : Nat)))) (cst (.int (0 : Nat)))) :: ((cst (.str "seed"), var 4) :: ((cst (.str "cells"), bin addD (var 2) (lstD (consA (bin addD (bin mulD (cst (.int (43 : Nat))) (pkF 1)) (cst (.int (7 : Nat)))) (nilA)))) :: ((cst (.str "spot"), cst (.int (0 : Nat))) :: ([]))))) ρ = .ok (.od (ms2 l sd (cells ++ [((43 * k + 7 : Nat) : Int)]) (0 : Nat))) ρ := by
    rintro ρ rfl
    have h9 := hl [V (.scr ns), I k, V (.lst (cells.map .int)), V (.lst (gs.map .int)), I sd, e5] rfl
    have h8 : bin addD (var 2) (lstD (consA (bin addD (bin mulD (cst (.int (43 : Nat))) (pkF 1)) (cst (.int (7 : Nat)))) (nilA))) [V (.scr ns), I k, V (.lst (cells.map .int)), V (.lst (gs.map .int)), I sd, e5] = .ok (.lst ((cells ++ [((43 * k + 7 : Nat) : Int)]).map .int)) [V (.scr ns), I k, V (.lst (cells.map .int)), V (.lst (gs.map .int)), I sd, e5] := by
      simp -implicitDefEqProofs (disch := (first | omega | assumption)) only [PL.x_Rof, PL.x_cst, PL.x_var, PL.x_var1f, PL.x_var1l, PL.x_var1d, PL.x_pk, PL.x_pk1f, PL.x_pk1l, PL.x_pk1d, PL.x_pk1i, PL.x_pkF, PL.x_un1, PL.x_un, PL.x_truF, PL.x_bOf, PL.x_tstF, PL.x_notT, PL.x_bin1, PL.x_bin, PL.x_bp3, PL.x_bp2, PL.x_bp1, PL.x_binP, PL.x_andT, PL.x_orT, PL.x_and1t, PL.x_and1f, PL.x_or1t, PL.x_or1f, PL.x_andV, PL.x_orV, PL.x_andV1t, PL.x_andV1f, PL.x_orV1t, PL.x_orV1f, PL.x_ifE, PL.x_ifE1t, PL.x_ifE1f, PL.x_chainD, PL.x_ch1, PL.x_ch2, PL.x_ch3t, PL.x_ch3f, PL.x_nilA, PL.x_consA, PL.x_cons1, PL.x_cons2, PL.x_few, PL.x_mk1, PL.x_tupD, PL.x_lstD, PL.x_lstO, PL.x_dctO0, PL.x_frO, PL.x_cb, PL.x_noP, PL.x_iOf, PL.x_someP, PL.x_sl31, PL.x_sl32, PL.x_sl3, PL.x_slK1, PL.x_slK, PL.x_frF, PL.x_frS, PL.x_cal1, PL.x_callF, PL.x_callO, PL.x_FMof, PL.x_cm1, PL.x_cm2, PL.x_cm3, PL.x_callM, PL.x_FMO, PL.x_cmo1, PL.x_cmo2, PL.x_callMO, PL.x_frzR, PL.x_itF, PL.x_rngF, PL.x_OLof, PL.x_lc2, PL.x_lc1, PL.x_lcO, PL.x_cat1, PL.x_catO, PL.x_cp1, PL.x_cp2, PL.x_cp3, PL.x_catPO, PL.x_SBn, PL.x_SBr, PL.x_skipS, PL.x_badS, PL.x_seqS, PL.x_nxO, PL.x_set1, PL.x_setS, PL.x_setO1f, PL.x_setO1l, PL.x_setO1d, PL.x_setOS, PL.x_ret1, PL.x_retO1, PL.x_exp1, PL.x_retS, PL.x_retOS, PL.x_exprS, PL.x_ifS, PL.x_if1t, PL.x_if1f, PL.x_asg1, PL.x_asgS, PL.x_argsP0, PL.x_ap1f, PL.x_ap1l, PL.x_ap1d, PL.x_ap2, PL.x_argsP, PL.x_par1, PL.x_parP, PL.x_putP0, PL.x_pp1, PL.x_putP, PL.x_app1, PL.x_app2, PL.x_nxB, PL.x_app3, PL.x_appS, PL.x_dp1, PL.x_dp2, PL.x_dp3, PL.x_dp4, PL.x_dputS, PL.x_keyI, PL.x_keyS, PL.x_up1, PL.x_up2, PL.x_up3, PL.x_updS, PL.x_for1, PL.x_forS, PL.x_RTr, PL.x_RTn, PL.x_rf1, PL.x_runF, PL.x_RMr, PL.x_RMn, PL.x_MIo, PL.x_ioOf, PL.x_rm1, PL.x_runM, PL.x_putR, PL.x_putR0f, PL.x_putR0l, PL.x_putR0d, PL.x_putR0n, PL.x_noIof, PL.x_noIol, PL.x_noIod, PL.x_noIon, PL.x_tgN, PL.x_tgT, PL.x_putAll0, PL.x_pa1, PL.x_putAll, PL.x_dAt, PL.x_dSlo, PL.x_dSli, PL.x_dPut, PL.x_dPuo, PL.x_dPui, PL.x_lAt, PL.x_lSl, PL.x_envOf, PL.x_envM, PL.x_toDl, PL.x_toDd, PL.x_toDf, PL.x_nof, PL.x_nol, PL.x_nod, PL.x_okW, PL.x_wipe0, PL.x_wipe, PL.x_yesT, PL.n_add, PL.n_mul, PL.n_mod, PL.n_div, PL.n_sub, PL.n_lt, PL.n_le, PL.n_eq, PL.d_t, PL.d_f, PL.y_add, PL.y_sub, PL.y_mod, PL.y_div, PL.y_mulL, PL.y_mulR, PL.y_lt, PL.y_le, PL.y_gt, PL.y_ge, PL.y_cmp, PL.y_eq, PL.y_ne, PL.y_int, PL.y_notD, PL.y_truB, PL.y_neg, PL.y_isi_n, PL.y_isi_b, PL.y_isi_i, PL.y_isi_s, PL.y_isi_l, PL.y_isi_t, PL.y_isi_d, PL.y_isi_c, PL.l_len, PL.l_lenT, PL.l_it, PL.l_itT, PL.l_tuple, PL.l_list, PL.l_listL, PL.l_ix, PL.l_ixT, PL.l_sum, PL.l_eq, PL.l_ne, PL.l_eq0, PL.l_ne0, PL.l_eqT, PL.l_in, PL.l_nin, PL.l_cat, PL.l_catT, PL.l_stp, PL.l_rng1, PL.l_rng2, PL.x_fb, PL.x_fb1, PL.l_eq00, PL.l_ne00, PL.l_eq01, PL.l_ne01, PL.l_lenS, PL.x_ODof, PL.x_dc2, PL.x_dc1, PL.x_dcO, PL.l_nin_tk, PL.l_in_tk, PL.l_min, PL.l_slT, PL.l_slL, PL.l_rng3, PL.x_rgl2, PL.x_rgl1, PL.x_rgList, PL.x_rgTup, PL.x_gp3, PL.x_gp2, PL.x_gp1, PL.x_getP, PL.x_mt2, PL.x_mt1, PL.x_meth1, PL.l_isL, PL.x_XRo, PL.x_XRe, PL.x_calX, PL.x_calXe, PL.x_callX, PL.x_rai1, PL.x_rai, PL.x_try3, PL.x_try2, PL.x_try2f, PL.x_try1, PL.x_try1r, PL.x_try1n, PL.x_tryR, PL.x_exu1, PL.x_exb1, PL.x_exc1, PL.x_exc2, PL.x_exm1, PL.x_exSB, PL.x_exr1, PL.x_exe1, PL.x_exi1, PL.x_exRT, List.getElem?_cons_zero, List.getElem?_cons_succ, List.set_cons_zero, List.set_cons_succ, List.length_cons, List.length_nil, List.map_cons, List.map_nil, List.replicate_succ, List.replicate_zero, List.cons_append, List.nil_append, Nat.zero_add, Nat.add_zero, Nat.reduceAdd, Nat.reduceSub, Nat.reduceMul, Nat.reduceLT, Nat.reduceEqDiff, Bool.not_true, Bool.not_false, Bool.true_and, Bool.false_and, Bool.and_true, Bool.and_false, Bool.true_or, Bool.false_or, Bool.or_true, Bool.or_false, List.all_cons, List.all_nil, PL.nl_len, List.length_map, List.length_range, isiT, tyD, Option.map_some, Option.map_none, ne_eq, not_false_eq_true, not_true_eq_false, decide_true, decide_false, eq_self, implies_true, gt_iff_lt, ge_iff_le, hfin]
    have h7 : pairsF ((cst (.str "left"), ifE (tstF (bin neD (var 3) (lstD (nilA)))) (bin ixD (var 3) (cst (.int (0 : Nat)))) (cst (.int (0 : Nat)))) :: ((cst (.str "seed"), var 4) :: ((cst (.str "cells"), bin addD (var 2) (lstD (consA (bin addD (bin mulD (cst (.int (43 : Nat))) (pkF 1)) (cst (.int (7 : Nat)))) (nilA)))) :: ((cst (.str "spot"), cst (.int (0 : Nat))) :: ([]))))) [V (.scr ns), I k, V (.lst (cells.map .int)), V (.lst (gs.map .int)), I sd, e5] = .ok [(.inr "left", .int (l : Nat)), (.inr "seed", .int (sd : Nat)), (.inr "cells", .lst ((cells ++ [((43 * k + 7 : Nat) : Int)]).map .int)), (.inr "spot", .int (0 : Nat))] [V (.scr ns), I k, V (.lst (cells.map .int)), V (.lst (gs.map .int)), I sd, e5] :=
      e_pair h9 (e_pair rfl (e_pair h8 (e_pair rfl e_pnil)))
    refine (e_disp h7 (by simp)).trans ?_
    generalize (cells ++ [((43 * k + 7 : Nat) : Int)]) = cs
    kernel_rfl
  simp -implicitDefEqProofs (disch := (first | omega | assumption)) only [PL.x_Rof, PL.x_cst, PL.x_var, PL.x_var1f, PL.x_var1l, PL.x_var1d, PL.x_pk, PL.x_pk1f, PL.x_pk1l, PL.x_pk1d, PL.x_pk1i, PL.x_pkF, PL.x_un1, PL.x_un, PL.x_truF, PL.x_bOf, PL.x_tstF, PL.x_notT, PL.x_bin1, PL.x_bin, PL.x_bp3, PL.x_bp2, PL.x_bp1, PL.x_binP, PL.x_andT, PL.x_orT, PL.x_and1t, PL.x_and1f, PL.x_or1t, PL.x_or1f, PL.x_andV, PL.x_orV, PL.x_andV1t, PL.x_andV1f, PL.x_orV1t, PL.x_orV1f, PL.x_ifE, PL.x_ifE1t, PL.x_ifE1f, PL.x_chainD, PL.x_ch1, PL.x_ch2, PL.x_ch3t, PL.x_ch3f, PL.x_nilA, PL.x_consA, PL.x_cons1, PL.x_cons2, PL.x_few, PL.x_mk1, PL.x_tupD, PL.x_lstD, PL.x_lstO, PL.x_dctO0, PL.x_frO, PL.x_cb, PL.x_noP, PL.x_iOf, PL.x_someP, PL.x_sl31, PL.x_sl32, PL.x_sl3, PL.x_slK1, PL.x_slK, PL.x_frF, PL.x_frS, PL.x_cal1, PL.x_callF, PL.x_callO, PL.x_FMof, PL.x_cm1, PL.x_cm2, PL.x_cm3, PL.x_callM, PL.x_FMO, PL.x_cmo1, PL.x_cmo2, PL.x_callMO, PL.x_frzR, PL.x_itF, PL.x_rngF, PL.x_OLof, PL.x_lc2, PL.x_lc1, PL.x_lcO, PL.x_cat1, PL.x_catO, PL.x_cp1, PL.x_cp2, PL.x_cp3, PL.x_catPO, PL.x_SBn, PL.x_SBr, PL.x_skipS, PL.x_badS, PL.x_seqS, PL.x_nxO, PL.x_set1, PL.x_setS, PL.x_setO1f, PL.x_setO1l, PL.x_setO1d, PL.x_setOS, PL.x_ret1, PL.x_retO1, PL.x_exp1, PL.x_retS, PL.x_retOS, PL.x_exprS, PL.x_ifS, PL.x_if1t, PL.x_if1f, PL.x_asg1, PL.x_asgS, PL.x_argsP0, PL.x_ap1f, PL.x_ap1l, PL.x_ap1d, PL.x_ap2, PL.x_argsP, PL.x_par1, PL.x_parP, PL.x_putP0, PL.x_pp1, PL.x_putP, PL.x_app1, PL.x_app2, PL.x_nxB, PL.x_app3, PL.x_appS, PL.x_dp1, PL.x_dp2, PL.x_dp3, PL.x_dp4, PL.x_dputS, PL.x_keyI, PL.x_keyS, PL.x_up1, PL.x_up2, PL.x_up3, PL.x_updS, PL.x_for1, PL.x_forS, PL.x_RTr, PL.x_RTn, PL.x_rf1, PL.x_runF, PL.x_RMr, PL.x_RMn, PL.x_MIo, PL.x_ioOf, PL.x_rm1, PL.x_runM, PL.x_putR, PL.x_putR0f, PL.x_putR0l, PL.x_putR0d, PL.x_putR0n, PL.x_noIof, PL.x_noIol, PL.x_noIod, PL.x_noIon, PL.x_tgN, PL.x_tgT, PL.x_putAll0, PL.x_pa1, PL.x_putAll, PL.x_dAt, PL.x_dSlo, PL.x_dSli, PL.x_dPut, PL.x_dPuo, PL.x_dPui, PL.x_lAt, PL.x_lSl, PL.x_envOf, PL.x_envM, PL.x_toDl, PL.x_toDd, PL.x_toDf, PL.x_nof, PL.x_nol, PL.x_nod, PL.x_okW, PL.x_wipe0, PL.x_wipe, PL.x_yesT, PL.n_add, PL.n_mul, PL.n_mod, PL.n_div, PL.n_sub, PL.n_lt, PL.n_le, PL.n_eq, PL.d_t, PL.d_f, PL.y_add, PL.y_sub, PL.y_mod, PL.y_div, PL.y_mulL, PL.y_mulR, PL.y_lt, PL.y_le, PL.y_gt, PL.y_ge, PL.y_cmp, PL.y_eq, PL.y_ne, PL.y_int, PL.y_notD, PL.y_truB, PL.y_neg, PL.y_isi_n, PL.y_isi_b, PL.y_isi_i, PL.y_isi_s, PL.y_isi_l, PL.y_isi_t, PL.y_isi_d, PL.y_isi_c, PL.l_len, PL.l_lenT, PL.l_it, PL.l_itT, PL.l_tuple, PL.l_list, PL.l_listL, PL.l_ix, PL.l_ixT, PL.l_sum, PL.l_eq, PL.l_ne, PL.l_eq0, PL.l_ne0, PL.l_eqT, PL.l_in, PL.l_nin, PL.l_cat, PL.l_catT, PL.l_stp, PL.l_rng1, PL.l_rng2, PL.x_fb, PL.x_fb1, PL.l_eq00, PL.l_ne00, PL.l_eq01, PL.l_ne01, PL.l_lenS, PL.x_ODof, PL.x_dc2, PL.x_dc1, PL.x_dcO, PL.l_nin_tk, PL.l_in_tk, PL.l_min, PL.l_slT, PL.l_slL, PL.l_rng3, PL.x_rgl2, PL.x_rgl1, PL.x_rgList, PL.x_rgTup, PL.x_gp3, PL.x_gp2, PL.x_gp1, PL.x_getP, PL.x_mt2, PL.x_mt1, PL.x_meth1, PL.l_isL, PL.x_XRo, PL.x_XRe, PL.x_calX, PL.x_calXe, PL.x_callX, PL.x_rai1, PL.x_rai, PL.x_try3, PL.x_try2, PL.x_try2f, PL.x_try1, PL.x_try1r, PL.x_try1n, PL.x_tryR, PL.x_exu1, PL.x_exb1, PL.x_exc1, PL.x_exc2, PL.x_exm1, PL.x_exSB, PL.x_exr1, PL.x_exe1, PL.x_exi1, PL.x_exRT, List.getElem?_cons_zero, List.getElem?_cons_succ, List.set_cons_zero, List.set_cons_succ, List.length_cons, List.length_nil, List.map_cons, List.map_nil, List.replicate_succ, List.replicate_zero, List.cons_append, List.nil_append, Nat.zero_add, Nat.add_zero, Nat.reduceAdd, Nat.reduceSub, Nat.reduceMul, Nat.reduceLT, Nat.reduceEqDiff, Bool.not_true, Bool.not_false, Bool.true_and, Bool.false_and, Bool.and_true, Bool.and_false, Bool.true_or, Bool.false_or, Bool.or_true, Bool.or_false, List.all_cons, List.all_nil, PL.nl_len, List.length_map, List.length_range, isiT, tyD, Option.map_some, Option.map_none, ne_eq, not_false_eq_true, not_true_eq_false, decide_true, decide_false, eq_self, implies_true, gt_iff_lt, ge_iff_le, m__law_begun, b__law_begun, l_slS, cut_n0, cut_0n, hcat]
  rw [lc_any (F := Dt.int) (fun i => decide (((1000000000000000000 : Nat) : Int) ≤ i)) Dt.int]
  rotate_left
  · intro i _
    exact ⟨_, rfl, by simp -implicitDefEqProofs (disch := (first | omega | assumption)) only [PL.x_Rof, PL.x_cst, PL.x_var, PL.x_var1f, PL.x_var1l, PL.x_var1d, PL.x_pk, PL.x_pk1f, PL.x_pk1l, PL.x_pk1d, PL.x_pk1i, PL.x_pkF, PL.x_un1, PL.x_un, PL.x_truF, PL.x_bOf, PL.x_tstF, PL.x_notT, PL.x_bin1, PL.x_bin, PL.x_bp3, PL.x_bp2, PL.x_bp1, PL.x_binP, PL.x_andT, PL.x_orT, PL.x_and1t, PL.x_and1f, PL.x_or1t, PL.x_or1f, PL.x_andV, PL.x_orV, PL.x_andV1t, PL.x_andV1f, PL.x_orV1t, PL.x_orV1f, PL.x_ifE, PL.x_ifE1t, PL.x_ifE1f, PL.x_chainD, PL.x_ch1, PL.x_ch2, PL.x_ch3t, PL.x_ch3f, PL.x_nilA, PL.x_consA, PL.x_cons1, PL.x_cons2, PL.x_few, PL.x_mk1, PL.x_tupD, PL.x_lstD, PL.x_lstO, PL.x_dctO0, PL.x_frO, PL.x_cb, PL.x_noP, PL.x_iOf, PL.x_someP, PL.x_sl31, PL.x_sl32, PL.x_sl3, PL.x_slK1, PL.x_slK, PL.x_frF, PL.x_frS, PL.x_cal1, PL.x_callF, PL.x_callO, PL.x_FMof, PL.x_cm1, PL.x_cm2, PL.x_cm3, PL.x_callM, PL.x_FMO, PL.x_cmo1, PL.x_cmo2, PL.x_callMO, PL.x_frzR, PL.x_itF, PL.x_rngF, PL.x_OLof, PL.x_lc2, PL.x_lc1, PL.x_lcO, PL.x_cat1, PL.x_catO, PL.x_cp1, PL.x_cp2, PL.x_cp3, PL.x_catPO, PL.x_SBn, PL.x_SBr, PL.x_skipS, PL.x_badS, PL.x_seqS, PL.x_nxO, PL.x_set1, PL.x_setS, PL.x_setO1f, PL.x_setO1l, PL.x_setO1d, PL.x_setOS, PL.x_ret1, PL.x_retO1, PL.x_exp1, PL.x_retS, PL.x_retOS, PL.x_exprS, PL.x_ifS, PL.x_if1t, PL.x_if1f, PL.x_asg1, PL.x_asgS, PL.x_argsP0, PL.x_ap1f, PL.x_ap1l, PL.x_ap1d, PL.x_ap2, PL.x_argsP, PL.x_par1, PL.x_parP, PL.x_putP0, PL.x_pp1, PL.x_putP, PL.x_app1, PL.x_app2, PL.x_nxB, PL.x_app3, PL.x_appS, PL.x_dp1, PL.x_dp2, PL.x_dp3, PL.x_dp4, PL.x_dputS, PL.x_keyI, PL.x_keyS, PL.x_up1, PL.x_up2, PL.x_up3, PL.x_updS, PL.x_for1, PL.x_forS, PL.x_RTr, PL.x_RTn, PL.x_rf1, PL.x_runF, PL.x_RMr, PL.x_RMn, PL.x_MIo, PL.x_ioOf, PL.x_rm1, PL.x_runM, PL.x_putR, PL.x_putR0f, PL.x_putR0l, PL.x_putR0d, PL.x_putR0n, PL.x_noIof, PL.x_noIol, PL.x_noIod, PL.x_noIon, PL.x_tgN, PL.x_tgT, PL.x_putAll0, PL.x_pa1, PL.x_putAll, PL.x_dAt, PL.x_dSlo, PL.x_dSli, PL.x_dPut, PL.x_dPuo, PL.x_dPui, PL.x_lAt, PL.x_lSl, PL.x_envOf, PL.x_envM, PL.x_toDl, PL.x_toDd, PL.x_toDf, PL.x_nof, PL.x_nol, PL.x_nod, PL.x_okW, PL.x_wipe0, PL.x_wipe, PL.x_yesT, PL.n_add, PL.n_mul, PL.n_mod, PL.n_div, PL.n_sub, PL.n_lt, PL.n_le, PL.n_eq, PL.d_t, PL.d_f, PL.y_add, PL.y_sub, PL.y_mod, PL.y_div, PL.y_mulL, PL.y_mulR, PL.y_lt, PL.y_le, PL.y_gt, PL.y_ge, PL.y_cmp, PL.y_eq, PL.y_ne, PL.y_int, PL.y_notD, PL.y_truB, PL.y_neg, PL.y_isi_n, PL.y_isi_b, PL.y_isi_i, PL.y_isi_s, PL.y_isi_l, PL.y_isi_t, PL.y_isi_d, PL.y_isi_c, PL.l_len, PL.l_lenT, PL.l_it, PL.l_itT, PL.l_tuple, PL.l_list, PL.l_listL, PL.l_ix, PL.l_ixT, PL.l_sum, PL.l_eq, PL.l_ne, PL.l_eq0, PL.l_ne0, PL.l_eqT, PL.l_in, PL.l_nin, PL.l_cat, PL.l_catT, PL.l_stp, PL.l_rng1, PL.l_rng2, PL.x_fb, PL.x_fb1, PL.l_eq00, PL.l_ne00, PL.l_eq01, PL.l_ne01, PL.l_lenS, PL.x_ODof, PL.x_dc2, PL.x_dc1, PL.x_dcO, PL.l_nin_tk, PL.l_in_tk, PL.l_min, PL.l_slT, PL.l_slL, PL.l_rng3, PL.x_rgl2, PL.x_rgl1, PL.x_rgList, PL.x_rgTup, PL.x_gp3, PL.x_gp2, PL.x_gp1, PL.x_getP, PL.x_mt2, PL.x_mt1, PL.x_meth1, PL.l_isL, PL.x_XRo, PL.x_XRe, PL.x_calX, PL.x_calXe, PL.x_callX, PL.x_rai1, PL.x_rai, PL.x_try3, PL.x_try2, PL.x_try2f, PL.x_try1, PL.x_try1r, PL.x_try1n, PL.x_tryR, PL.x_exu1, PL.x_exb1, PL.x_exc1, PL.x_exc2, PL.x_exm1, PL.x_exSB, PL.x_exr1, PL.x_exe1, PL.x_exi1, PL.x_exRT, List.getElem?_cons_zero, List.getElem?_cons_succ, List.set_cons_zero, List.set_cons_succ, List.length_cons, List.length_nil, List.map_cons, List.map_nil, List.replicate_succ, List.replicate_zero, List.cons_append, List.nil_append, Nat.zero_add, Nat.add_zero, Nat.reduceAdd, Nat.reduceSub, Nat.reduceMul, Nat.reduceLT, Nat.reduceEqDiff, Bool.not_true, Bool.not_false, Bool.true_and, Bool.false_and, Bool.and_true, Bool.and_false, Bool.true_or, Bool.false_or, Bool.or_true, Bool.or_false, List.all_cons, List.all_nil, PL.nl_len, List.length_map, List.length_range, isiT, tyD, Option.map_some, Option.map_none, ne_eq, not_false_eq_true, not_true_eq_false, decide_true, decide_false, eq_self, implies_true, gt_iff_lt, ge_iff_le, hq], fun _ => by simp -implicitDefEqProofs (disch := (first | omega | assumption)) only [PL.x_Rof, PL.x_cst, PL.x_var, PL.x_var1f, PL.x_var1l, PL.x_var1d, PL.x_pk, PL.x_pk1f, PL.x_pk1l, PL.x_pk1d, PL.x_pk1i, PL.x_pkF, PL.x_un1, PL.x_un, PL.x_truF, PL.x_bOf, PL.x_tstF, PL.x_notT, PL.x_bin1, PL.x_bin, PL.x_bp3, PL.x_bp2, PL.x_bp1, PL.x_binP, PL.x_andT, PL.x_orT, PL.x_and1t, PL.x_and1f, PL.x_or1t, PL.x_or1f, PL.x_andV, PL.x_orV, PL.x_andV1t, PL.x_andV1f, PL.x_orV1t, PL.x_orV1f, PL.x_ifE, PL.x_ifE1t, PL.x_ifE1f, PL.x_chainD, PL.x_ch1, PL.x_ch2, PL.x_ch3t, PL.x_ch3f, PL.x_nilA, PL.x_consA, PL.x_cons1, PL.x_cons2, PL.x_few, PL.x_mk1, PL.x_tupD, PL.x_lstD, PL.x_lstO, PL.x_dctO0, PL.x_frO, PL.x_cb, PL.x_noP, PL.x_iOf, PL.x_someP, PL.x_sl31, PL.x_sl32, PL.x_sl3, PL.x_slK1, PL.x_slK, PL.x_frF, PL.x_frS, PL.x_cal1, PL.x_callF, PL.x_callO, PL.x_FMof, PL.x_cm1, PL.x_cm2, PL.x_cm3, PL.x_callM, PL.x_FMO, PL.x_cmo1, PL.x_cmo2, PL.x_callMO, PL.x_frzR, PL.x_itF, PL.x_rngF, PL.x_OLof, PL.x_lc2, PL.x_lc1, PL.x_lcO, PL.x_cat1, PL.x_catO, PL.x_cp1, PL.x_cp2, PL.x_cp3, PL.x_catPO, PL.x_SBn, PL.x_SBr, PL.x_skipS, PL.x_badS, PL.x_seqS, PL.x_nxO, PL.x_set1, PL.x_setS, PL.x_setO1f, PL.x_setO1l, PL.x_setO1d, PL.x_setOS, PL.x_ret1, PL.x_retO1, PL.x_exp1, PL.x_retS, PL.x_retOS, PL.x_exprS, PL.x_ifS, PL.x_if1t, PL.x_if1f, PL.x_asg1, PL.x_asgS, PL.x_argsP0, PL.x_ap1f, PL.x_ap1l, PL.x_ap1d, PL.x_ap2, PL.x_argsP, PL.x_par1, PL.x_parP, PL.x_putP0, PL.x_pp1, PL.x_putP, PL.x_app1, PL.x_app2, PL.x_nxB, PL.x_app3, PL.x_appS, PL.x_dp1, PL.x_dp2, PL.x_dp3, PL.x_dp4, PL.x_dputS, PL.x_keyI, PL.x_keyS, PL.x_up1, PL.x_up2, PL.x_up3, PL.x_updS, PL.x_for1, PL.x_forS, PL.x_RTr, PL.x_RTn, PL.x_rf1, PL.x_runF, PL.x_RMr, PL.x_RMn, PL.x_MIo, PL.x_ioOf, PL.x_rm1, PL.x_runM, PL.x_putR, PL.x_putR0f, PL.x_putR0l, PL.x_putR0d, PL.x_putR0n, PL.x_noIof, PL.x_noIol, PL.x_noIod, PL.x_noIon, PL.x_tgN, PL.x_tgT, PL.x_putAll0, PL.x_pa1, PL.x_putAll, PL.x_dAt, PL.x_dSlo, PL.x_dSli, PL.x_dPut, PL.x_dPuo, PL.x_dPui, PL.x_lAt, PL.x_lSl, PL.x_envOf, PL.x_envM, PL.x_toDl, PL.x_toDd, PL.x_toDf, PL.x_nof, PL.x_nol, PL.x_nod, PL.x_okW, PL.x_wipe0, PL.x_wipe, PL.x_yesT, PL.n_add, PL.n_mul, PL.n_mod, PL.n_div, PL.n_sub, PL.n_lt, PL.n_le, PL.n_eq, PL.d_t, PL.d_f, PL.y_add, PL.y_sub, PL.y_mod, PL.y_div, PL.y_mulL, PL.y_mulR, PL.y_lt, PL.y_le, PL.y_gt, PL.y_ge, PL.y_cmp, PL.y_eq, PL.y_ne, PL.y_int, PL.y_notD, PL.y_truB, PL.y_neg, PL.y_isi_n, PL.y_isi_b, PL.y_isi_i, PL.y_isi_s, PL.y_isi_l, PL.y_isi_t, PL.y_isi_d, PL.y_isi_c, PL.l_len, PL.l_lenT, PL.l_it, PL.l_itT, PL.l_tuple, PL.l_list, PL.l_listL, PL.l_ix, PL.l_ixT, PL.l_sum, PL.l_eq, PL.l_ne, PL.l_eq0, PL.l_ne0, PL.l_eqT, PL.l_in, PL.l_nin, PL.l_cat, PL.l_catT, PL.l_stp, PL.l_rng1, PL.l_rng2, PL.x_fb, PL.x_fb1, PL.l_eq00, PL.l_ne00, PL.l_eq01, PL.l_ne01, PL.l_lenS, PL.x_ODof, PL.x_dc2, PL.x_dc1, PL.x_dcO, PL.l_nin_tk, PL.l_in_tk, PL.l_min, PL.l_slT, PL.l_slL, PL.l_rng3, PL.x_rgl2, PL.x_rgl1, PL.x_rgList, PL.x_rgTup, PL.x_gp3, PL.x_gp2, PL.x_gp1, PL.x_getP, PL.x_mt2, PL.x_mt1, PL.x_meth1, PL.l_isL, PL.x_XRo, PL.x_XRe, PL.x_calX, PL.x_calXe, PL.x_callX, PL.x_rai1, PL.x_rai, PL.x_try3, PL.x_try2, PL.x_try2f, PL.x_try1, PL.x_try1r, PL.x_try1n, PL.x_tryR, PL.x_exu1, PL.x_exb1, PL.x_exc1, PL.x_exc2, PL.x_exm1, PL.x_exSB, PL.x_exr1, PL.x_exe1, PL.x_exi1, PL.x_exRT, List.getElem?_cons_zero, List.getElem?_cons_succ, List.set_cons_zero, List.set_cons_succ, List.length_cons, List.length_nil, List.map_cons, List.map_nil, List.replicate_succ, List.replicate_zero, List.cons_append, List.nil_append, Nat.zero_add, Nat.add_zero, Nat.reduceAdd, Nat.reduceSub, Nat.reduceMul, Nat.reduceLT, Nat.reduceEqDiff, Bool.not_true, Bool.not_false, Bool.true_and, Bool.false_and, Bool.and_true, Bool.and_false, Bool.true_or, Bool.false_or, Bool.or_true, Bool.or_false, List.all_cons, List.all_nil, PL.nl_len, List.length_map, List.length_range, isiT, tyD, Option.map_some, Option.map_none, ne_eq, not_false_eq_true, not_true_eq_false, decide_true, decide_false, eq_self, implies_true, gt_iff_lt, ge_iff_le], rfl⟩
  rw [← hgs]
  simp -implicitDefEqProofs (disch := (first | omega | assumption)) only [PL.x_Rof, PL.x_cst, PL.x_var, PL.x_var1f, PL.x_var1l, PL.x_var1d, PL.x_pk, PL.x_pk1f, PL.x_pk1l, PL.x_pk1d, PL.x_pk1i, PL.x_pkF, PL.x_un1, PL.x_un, PL.x_truF, PL.x_bOf, PL.x_tstF, PL.x_notT, PL.x_bin1, PL.x_bin, PL.x_bp3, PL.x_bp2, PL.x_bp1, PL.x_binP, PL.x_andT, PL.x_orT, PL.x_and1t, PL.x_and1f, PL.x_or1t, PL.x_or1f, PL.x_andV, PL.x_orV, PL.x_andV1t, PL.x_andV1f, PL.x_orV1t, PL.x_orV1f, PL.x_ifE, PL.x_ifE1t, PL.x_ifE1f, PL.x_chainD, PL.x_ch1, PL.x_ch2, PL.x_ch3t, PL.x_ch3f, PL.x_nilA, PL.x_consA, PL.x_cons1, PL.x_cons2, PL.x_few, PL.x_mk1, PL.x_tupD, PL.x_lstD, PL.x_lstO, PL.x_dctO0, PL.x_frO, PL.x_cb, PL.x_noP, PL.x_iOf, PL.x_someP, PL.x_sl31, PL.x_sl32, PL.x_sl3, PL.x_slK1, PL.x_slK, PL.x_frF, PL.x_frS, PL.x_cal1, PL.x_callF, PL.x_callO, PL.x_FMof, PL.x_cm1, PL.x_cm2, PL.x_cm3, PL.x_callM, PL.x_FMO, PL.x_cmo1, PL.x_cmo2, PL.x_callMO, PL.x_frzR, PL.x_itF, PL.x_rngF, PL.x_OLof, PL.x_lc2, PL.x_lc1, PL.x_lcO, PL.x_cat1, PL.x_catO, PL.x_cp1, PL.x_cp2, PL.x_cp3, PL.x_catPO, PL.x_SBn, PL.x_SBr, PL.x_skipS, PL.x_badS, PL.x_seqS, PL.x_nxO, PL.x_set1, PL.x_setS, PL.x_setO1f, PL.x_setO1l, PL.x_setO1d, PL.x_setOS, PL.x_ret1, PL.x_retO1, PL.x_exp1, PL.x_retS, PL.x_retOS, PL.x_exprS, PL.x_ifS, PL.x_if1t, PL.x_if1f, PL.x_asg1, PL.x_asgS, PL.x_argsP0, PL.x_ap1f, PL.x_ap1l, PL.x_ap1d, PL.x_ap2, PL.x_argsP, PL.x_par1, PL.x_parP, PL.x_putP0, PL.x_pp1, PL.x_putP, PL.x_app1, PL.x_app2, PL.x_nxB, PL.x_app3, PL.x_appS, PL.x_dp1, PL.x_dp2, PL.x_dp3, PL.x_dp4, PL.x_dputS, PL.x_keyI, PL.x_keyS, PL.x_up1, PL.x_up2, PL.x_up3, PL.x_updS, PL.x_for1, PL.x_forS, PL.x_RTr, PL.x_RTn, PL.x_rf1, PL.x_runF, PL.x_RMr, PL.x_RMn, PL.x_MIo, PL.x_ioOf, PL.x_rm1, PL.x_runM, PL.x_putR, PL.x_putR0f, PL.x_putR0l, PL.x_putR0d, PL.x_putR0n, PL.x_noIof, PL.x_noIol, PL.x_noIod, PL.x_noIon, PL.x_tgN, PL.x_tgT, PL.x_putAll0, PL.x_pa1, PL.x_putAll, PL.x_dAt, PL.x_dSlo, PL.x_dSli, PL.x_dPut, PL.x_dPuo, PL.x_dPui, PL.x_lAt, PL.x_lSl, PL.x_envOf, PL.x_envM, PL.x_toDl, PL.x_toDd, PL.x_toDf, PL.x_nof, PL.x_nol, PL.x_nod, PL.x_okW, PL.x_wipe0, PL.x_wipe, PL.x_yesT, PL.n_add, PL.n_mul, PL.n_mod, PL.n_div, PL.n_sub, PL.n_lt, PL.n_le, PL.n_eq, PL.d_t, PL.d_f, PL.y_add, PL.y_sub, PL.y_mod, PL.y_div, PL.y_mulL, PL.y_mulR, PL.y_lt, PL.y_le, PL.y_gt, PL.y_ge, PL.y_cmp, PL.y_eq, PL.y_ne, PL.y_int, PL.y_notD, PL.y_truB, PL.y_neg, PL.y_isi_n, PL.y_isi_b, PL.y_isi_i, PL.y_isi_s, PL.y_isi_l, PL.y_isi_t, PL.y_isi_d, PL.y_isi_c, PL.l_len, PL.l_lenT, PL.l_it, PL.l_itT, PL.l_tuple, PL.l_list, PL.l_listL, PL.l_ix, PL.l_ixT, PL.l_sum, PL.l_eq, PL.l_ne, PL.l_eq0, PL.l_ne0, PL.l_eqT, PL.l_in, PL.l_nin, PL.l_cat, PL.l_catT, PL.l_stp, PL.l_rng1, PL.l_rng2, PL.x_fb, PL.x_fb1, PL.l_eq00, PL.l_ne00, PL.l_eq01, PL.l_ne01, PL.l_lenS, PL.x_ODof, PL.x_dc2, PL.x_dc1, PL.x_dcO, PL.l_nin_tk, PL.l_in_tk, PL.l_min, PL.l_slT, PL.l_slL, PL.l_rng3, PL.x_rgl2, PL.x_rgl1, PL.x_rgList, PL.x_rgTup, PL.x_gp3, PL.x_gp2, PL.x_gp1, PL.x_getP, PL.x_mt2, PL.x_mt1, PL.x_meth1, PL.l_isL, PL.x_XRo, PL.x_XRe, PL.x_calX, PL.x_calXe, PL.x_callX, PL.x_rai1, PL.x_rai, PL.x_try3, PL.x_try2, PL.x_try2f, PL.x_try1, PL.x_try1r, PL.x_try1n, PL.x_tryR, PL.x_exu1, PL.x_exb1, PL.x_exc1, PL.x_exc2, PL.x_exm1, PL.x_exSB, PL.x_exr1, PL.x_exe1, PL.x_exi1, PL.x_exRT, List.getElem?_cons_zero, List.getElem?_cons_succ, List.set_cons_zero, List.set_cons_succ, List.length_cons, List.length_nil, List.map_cons, List.map_nil, List.replicate_succ, List.replicate_zero, List.cons_append, List.nil_append, Nat.zero_add, Nat.add_zero, Nat.reduceAdd, Nat.reduceSub, Nat.reduceMul, Nat.reduceLT, Nat.reduceEqDiff, Bool.not_true, Bool.not_false, Bool.true_and, Bool.false_and, Bool.and_true, Bool.and_false, Bool.true_or, Bool.false_or, Bool.or_true, Bool.or_false, List.all_cons, List.all_nil, PL.nl_len, List.length_map, List.length_range, isiT, tyD, Option.map_some, Option.map_none, ne_eq, not_false_eq_true, not_true_eq_false, decide_true, decide_false, eq_self, implies_true, gt_iff_lt, ge_iff_le]
  rw [h1]
  simp -implicitDefEqProofs (disch := (first | omega | assumption)) only [PL.x_Rof, PL.x_cst, PL.x_var, PL.x_var1f, PL.x_var1l, PL.x_var1d, PL.x_pk, PL.x_pk1f, PL.x_pk1l, PL.x_pk1d, PL.x_pk1i, PL.x_pkF, PL.x_un1, PL.x_un, PL.x_truF, PL.x_bOf, PL.x_tstF, PL.x_notT, PL.x_bin1, PL.x_bin, PL.x_bp3, PL.x_bp2, PL.x_bp1, PL.x_binP, PL.x_andT, PL.x_orT, PL.x_and1t, PL.x_and1f, PL.x_or1t, PL.x_or1f, PL.x_andV, PL.x_orV, PL.x_andV1t, PL.x_andV1f, PL.x_orV1t, PL.x_orV1f, PL.x_ifE, PL.x_ifE1t, PL.x_ifE1f, PL.x_chainD, PL.x_ch1, PL.x_ch2, PL.x_ch3t, PL.x_ch3f, PL.x_nilA, PL.x_consA, PL.x_cons1, PL.x_cons2, PL.x_few, PL.x_mk1, PL.x_tupD, PL.x_lstD, PL.x_lstO, PL.x_dctO0, PL.x_frO, PL.x_cb, PL.x_noP, PL.x_iOf, PL.x_someP, PL.x_sl31, PL.x_sl32, PL.x_sl3, PL.x_slK1, PL.x_slK, PL.x_frF, PL.x_frS, PL.x_cal1, PL.x_callF, PL.x_callO, PL.x_FMof, PL.x_cm1, PL.x_cm2, PL.x_cm3, PL.x_callM, PL.x_FMO, PL.x_cmo1, PL.x_cmo2, PL.x_callMO, PL.x_frzR, PL.x_itF, PL.x_rngF, PL.x_OLof, PL.x_lc2, PL.x_lc1, PL.x_lcO, PL.x_cat1, PL.x_catO, PL.x_cp1, PL.x_cp2, PL.x_cp3, PL.x_catPO, PL.x_SBn, PL.x_SBr, PL.x_skipS, PL.x_badS, PL.x_seqS, PL.x_nxO, PL.x_set1, PL.x_setS, PL.x_setO1f, PL.x_setO1l, PL.x_setO1d, PL.x_setOS, PL.x_ret1, PL.x_retO1, PL.x_exp1, PL.x_retS, PL.x_retOS, PL.x_exprS, PL.x_ifS, PL.x_if1t, PL.x_if1f, PL.x_asg1, PL.x_asgS, PL.x_argsP0, PL.x_ap1f, PL.x_ap1l, PL.x_ap1d, PL.x_ap2, PL.x_argsP, PL.x_par1, PL.x_parP, PL.x_putP0, PL.x_pp1, PL.x_putP, PL.x_app1, PL.x_app2, PL.x_nxB, PL.x_app3, PL.x_appS, PL.x_dp1, PL.x_dp2, PL.x_dp3, PL.x_dp4, PL.x_dputS, PL.x_keyI, PL.x_keyS, PL.x_up1, PL.x_up2, PL.x_up3, PL.x_updS, PL.x_for1, PL.x_forS, PL.x_RTr, PL.x_RTn, PL.x_rf1, PL.x_runF, PL.x_RMr, PL.x_RMn, PL.x_MIo, PL.x_ioOf, PL.x_rm1, PL.x_runM, PL.x_putR, PL.x_putR0f, PL.x_putR0l, PL.x_putR0d, PL.x_putR0n, PL.x_noIof, PL.x_noIol, PL.x_noIod, PL.x_noIon, PL.x_tgN, PL.x_tgT, PL.x_putAll0, PL.x_pa1, PL.x_putAll, PL.x_dAt, PL.x_dSlo, PL.x_dSli, PL.x_dPut, PL.x_dPuo, PL.x_dPui, PL.x_lAt, PL.x_lSl, PL.x_envOf, PL.x_envM, PL.x_toDl, PL.x_toDd, PL.x_toDf, PL.x_nof, PL.x_nol, PL.x_nod, PL.x_okW, PL.x_wipe0, PL.x_wipe, PL.x_yesT, PL.n_add, PL.n_mul, PL.n_mod, PL.n_div, PL.n_sub, PL.n_lt, PL.n_le, PL.n_eq, PL.d_t, PL.d_f, PL.y_add, PL.y_sub, PL.y_mod, PL.y_div, PL.y_mulL, PL.y_mulR, PL.y_lt, PL.y_le, PL.y_gt, PL.y_ge, PL.y_cmp, PL.y_eq, PL.y_ne, PL.y_int, PL.y_notD, PL.y_truB, PL.y_neg, PL.y_isi_n, PL.y_isi_b, PL.y_isi_i, PL.y_isi_s, PL.y_isi_l, PL.y_isi_t, PL.y_isi_d, PL.y_isi_c, PL.l_len, PL.l_lenT, PL.l_it, PL.l_itT, PL.l_tuple, PL.l_list, PL.l_listL, PL.l_ix, PL.l_ixT, PL.l_sum, PL.l_eq, PL.l_ne, PL.l_eq0, PL.l_ne0, PL.l_eqT, PL.l_in, PL.l_nin, PL.l_cat, PL.l_catT, PL.l_stp, PL.l_rng1, PL.l_rng2, PL.x_fb, PL.x_fb1, PL.l_eq00, PL.l_ne00, PL.l_eq01, PL.l_ne01, PL.l_lenS, PL.x_ODof, PL.x_dc2, PL.x_dc1, PL.x_dcO, PL.l_nin_tk, PL.l_in_tk, PL.l_min, PL.l_slT, PL.l_slL, PL.l_rng3, PL.x_rgl2, PL.x_rgl1, PL.x_rgList, PL.x_rgTup, PL.x_gp3, PL.x_gp2, PL.x_gp1, PL.x_getP, PL.x_mt2, PL.x_mt1, PL.x_meth1, PL.l_isL, PL.x_XRo, PL.x_XRe, PL.x_calX, PL.x_calXe, PL.x_callX, PL.x_rai1, PL.x_rai, PL.x_try3, PL.x_try2, PL.x_try2f, PL.x_try1, PL.x_try1r, PL.x_try1n, PL.x_tryR, PL.x_exu1, PL.x_exb1, PL.x_exc1, PL.x_exc2, PL.x_exm1, PL.x_exSB, PL.x_exr1, PL.x_exe1, PL.x_exi1, PL.x_exRT, List.getElem?_cons_zero, List.getElem?_cons_succ, List.set_cons_zero, List.set_cons_succ, List.length_cons, List.length_nil, List.map_cons, List.map_nil, List.replicate_succ, List.replicate_zero, List.cons_append, List.nil_append, Nat.zero_add, Nat.add_zero, Nat.reduceAdd, Nat.reduceSub, Nat.reduceMul, Nat.reduceLT, Nat.reduceEqDiff, Bool.not_true, Bool.not_false, Bool.true_and, Bool.false_and, Bool.and_true, Bool.and_false, Bool.true_or, Bool.false_or, Bool.or_true, Bool.or_false, List.all_cons, List.all_nil, PL.nl_len, List.length_map, List.length_range, isiT, tyD, Option.map_some, Option.map_none, ne_eq, not_false_eq_true, not_true_eq_false, decide_true, decide_false, eq_self, implies_true, gt_iff_lt, ge_iff_le]
  rw [hdisp _ rfl]
  simp -implicitDefEqProofs (disch := (first | omega | assumption)) only [PL.x_Rof, PL.x_cst, PL.x_var, PL.x_var1f, PL.x_var1l, PL.x_var1d, PL.x_pk, PL.x_pk1f, PL.x_pk1l, PL.x_pk1d, PL.x_pk1i, PL.x_pkF, PL.x_un1, PL.x_un, PL.x_truF, PL.x_bOf, PL.x_tstF, PL.x_notT, PL.x_bin1, PL.x_bin, PL.x_bp3, PL.x_bp2, PL.x_bp1, PL.x_binP, PL.x_andT, PL.x_orT, PL.x_and1t, PL.x_and1f, PL.x_or1t, PL.x_or1f, PL.x_andV, PL.x_orV, PL.x_andV1t, PL.x_andV1f, PL.x_orV1t, PL.x_orV1f, PL.x_ifE, PL.x_ifE1t, PL.x_ifE1f, PL.x_chainD, PL.x_ch1, PL.x_ch2, PL.x_ch3t, PL.x_ch3f, PL.x_nilA, PL.x_consA, PL.x_cons1, PL.x_cons2, PL.x_few, PL.x_mk1, PL.x_tupD, PL.x_lstD, PL.x_lstO, PL.x_dctO0, PL.x_frO, PL.x_cb, PL.x_noP, PL.x_iOf, PL.x_someP, PL.x_sl31, PL.x_sl32, PL.x_sl3, PL.x_slK1, PL.x_slK, PL.x_frF, PL.x_frS, PL.x_cal1, PL.x_callF, PL.x_callO, PL.x_FMof, PL.x_cm1, PL.x_cm2, PL.x_cm3, PL.x_callM, PL.x_FMO, PL.x_cmo1, PL.x_cmo2, PL.x_callMO, PL.x_frzR, PL.x_itF, PL.x_rngF, PL.x_OLof, PL.x_lc2, PL.x_lc1, PL.x_lcO, PL.x_cat1, PL.x_catO, PL.x_cp1, PL.x_cp2, PL.x_cp3, PL.x_catPO, PL.x_SBn, PL.x_SBr, PL.x_skipS, PL.x_badS, PL.x_seqS, PL.x_nxO, PL.x_set1, PL.x_setS, PL.x_setO1f, PL.x_setO1l, PL.x_setO1d, PL.x_setOS, PL.x_ret1, PL.x_retO1, PL.x_exp1, PL.x_retS, PL.x_retOS, PL.x_exprS, PL.x_ifS, PL.x_if1t, PL.x_if1f, PL.x_asg1, PL.x_asgS, PL.x_argsP0, PL.x_ap1f, PL.x_ap1l, PL.x_ap1d, PL.x_ap2, PL.x_argsP, PL.x_par1, PL.x_parP, PL.x_putP0, PL.x_pp1, PL.x_putP, PL.x_app1, PL.x_app2, PL.x_nxB, PL.x_app3, PL.x_appS, PL.x_dp1, PL.x_dp2, PL.x_dp3, PL.x_dp4, PL.x_dputS, PL.x_keyI, PL.x_keyS, PL.x_up1, PL.x_up2, PL.x_up3, PL.x_updS, PL.x_for1, PL.x_forS, PL.x_RTr, PL.x_RTn, PL.x_rf1, PL.x_runF, PL.x_RMr, PL.x_RMn, PL.x_MIo, PL.x_ioOf, PL.x_rm1, PL.x_runM, PL.x_putR, PL.x_putR0f, PL.x_putR0l, PL.x_putR0d, PL.x_putR0n, PL.x_noIof, PL.x_noIol, PL.x_noIod, PL.x_noIon, PL.x_tgN, PL.x_tgT, PL.x_putAll0, PL.x_pa1, PL.x_putAll, PL.x_dAt, PL.x_dSlo, PL.x_dSli, PL.x_dPut, PL.x_dPuo, PL.x_dPui, PL.x_lAt, PL.x_lSl, PL.x_envOf, PL.x_envM, PL.x_toDl, PL.x_toDd, PL.x_toDf, PL.x_nof, PL.x_nol, PL.x_nod, PL.x_okW, PL.x_wipe0, PL.x_wipe, PL.x_yesT, PL.n_add, PL.n_mul, PL.n_mod, PL.n_div, PL.n_sub, PL.n_lt, PL.n_le, PL.n_eq, PL.d_t, PL.d_f, PL.y_add, PL.y_sub, PL.y_mod, PL.y_div, PL.y_mulL, PL.y_mulR, PL.y_lt, PL.y_le, PL.y_gt, PL.y_ge, PL.y_cmp, PL.y_eq, PL.y_ne, PL.y_int, PL.y_notD, PL.y_truB, PL.y_neg, PL.y_isi_n, PL.y_isi_b, PL.y_isi_i, PL.y_isi_s, PL.y_isi_l, PL.y_isi_t, PL.y_isi_d, PL.y_isi_c, PL.l_len, PL.l_lenT, PL.l_it, PL.l_itT, PL.l_tuple, PL.l_list, PL.l_listL, PL.l_ix, PL.l_ixT, PL.l_sum, PL.l_eq, PL.l_ne, PL.l_eq0, PL.l_ne0, PL.l_eqT, PL.l_in, PL.l_nin, PL.l_cat, PL.l_catT, PL.l_stp, PL.l_rng1, PL.l_rng2, PL.x_fb, PL.x_fb1, PL.l_eq00, PL.l_ne00, PL.l_eq01, PL.l_ne01, PL.l_lenS, PL.x_ODof, PL.x_dc2, PL.x_dc1, PL.x_dcO, PL.l_nin_tk, PL.l_in_tk, PL.l_min, PL.l_slT, PL.l_slL, PL.l_rng3, PL.x_rgl2, PL.x_rgl1, PL.x_rgList, PL.x_rgTup, PL.x_gp3, PL.x_gp2, PL.x_gp1, PL.x_getP, PL.x_mt2, PL.x_mt1, PL.x_meth1, PL.l_isL, PL.x_XRo, PL.x_XRe, PL.x_calX, PL.x_calXe, PL.x_callX, PL.x_rai1, PL.x_rai, PL.x_try3, PL.x_try2, PL.x_try2f, PL.x_try1, PL.x_try1r, PL.x_try1n, PL.x_tryR, PL.x_exu1, PL.x_exb1, PL.x_exc1, PL.x_exc2, PL.x_exm1, PL.x_exSB, PL.x_exr1, PL.x_exe1, PL.x_exi1, PL.x_exRT, List.getElem?_cons_zero, List.getElem?_cons_succ, List.set_cons_zero, List.set_cons_succ, List.length_cons, List.length_nil, List.map_cons, List.map_nil, List.replicate_succ, List.replicate_zero, List.cons_append, List.nil_append, Nat.zero_add, Nat.add_zero, Nat.reduceAdd, Nat.reduceSub, Nat.reduceMul, Nat.reduceLT, Nat.reduceEqDiff, Bool.not_true, Bool.not_false, Bool.true_and, Bool.false_and, Bool.and_true, Bool.and_false, Bool.true_or, Bool.false_or, Bool.or_true, Bool.or_false, List.all_cons, List.all_nil, PL.nl_len, List.length_map, List.length_range, isiT, tyD, Option.map_some, Option.map_none, ne_eq, not_false_eq_true, not_true_eq_false, decide_true, decide_false, eq_self, implies_true, gt_iff_lt, ge_iff_le]
theorem laps_ok (ns : List Int) (a c : Nat) : ∃ q : Nat, q ≤ a + c ∧ a ≤ q ∧ min2D [.int (ns.length : Nat), .int (c : Nat)] = some (.int (q - a : Nat)) ∧ a + (q - a) = q := by
  refine ⟨a + min ns.length c, by omega, by omega, ?_, by omega⟩
  show some (Dt.int (if (c : Int) < (ns.length : Int) then (c : Int) else (ns.length : Int))) = _
  congr 2
  split <;> omega
/-! block sums -/
theorem log_lt {a n : Nat} (h : a < 2 ^ n) (hn : 0 < n) : a.log2 < n := by
  by_cases hz : a = 0
  · subst hz; exact hn
  · exact (Nat.log2_lt hz).mpr h
theorem l_mulI {a b : Int} {n m : Nat} (ha : a.natAbs < 2 ^ n) (hb : b.natAbs < 2 ^ m) (hn : 0 < n) (hm : 0 < m) (h : n + m < 1000000) : mulD (.int a) (.int b) = some (.int (a * b)) := by
  have h1 : mulOk a b = true := by
    unfold mulOk
    have h2 : a.natAbs.log2 + b.natAbs.log2 < 1000000 := by
      have := log_lt ha hn
      have := log_lt hb hm
      omega
    rw [Bool.or_eq_true]
    exact .inr (decide_eq_true h2)
  show (if mulOk a b = true then some (Dt.int (a * b)) else none) = _
  rw [if_pos h1]
theorem l_fdivB {b : Nat} (a : Nat) (h0 : 0 < b) (hb : b < 2 ^ 9000) : fdivD (.int (a : Nat)) (.int (b : Nat)) = some (.int (a / b : Nat)) := by
  refine if_pos ⟨by omega, ?_⟩
  show b.log2 < 9000
  exact log_lt hb (by omega)
/-- the block sum of x, the step S -/
def bsR (S : Nat) (w : Int) : Nat → Nat → Int
  | 0, _ => 0
  | k + 1, x => if x = 0 then 0 else ((x % S : Nat) : Int) + w * bsR S w k (x / S)
theorem bsR_zero (S : Nat) (w : Int) : ∀ k, bsR S w k 0 = 0
  | 0 => rfl
  | k + 1 => by unfold bsR; rw [if_pos rfl]
theorem bsR_step (S : Nat) (w : Int) (k x : Nat) : bsR S w (k + 1) x = ((x % S : Nat) : Int) + w * bsR S w k (x / S) := by
  show (if x = 0 then 0 else ((x % S : Nat) : Int) + w * bsR S w k (x / S)) = _
  by_cases h : x = 0
  · subst h
    rw [if_pos rfl, Nat.zero_mod, Nat.zero_div, bsR_zero, Int.mul_zero]
    rfl
  · rw [if_neg h]
theorem div_half {S x k : Nat} (hS : 2 ≤ S) (h : x < 2 ^ (k + 1)) : x / S < 2 ^ k := by
  have h1 : x / S ≤ x / 2 := Nat.div_le_div_left hS (by omega)
  rw [Nat.pow_succ] at h
  omega
/-- more turns change nothing -/
theorem bsR_more {S : Nat} (w : Int) (hS : 2 ≤ S) : ∀ (k x : Nat), x < 2 ^ k → bsR S w (k + 1) x = bsR S w k x
  | 0, x, h => by
    have : x = 0 := by simpa using h
    subst this
    exact bsR_zero S w 1
  | k + 1, x, h => by
    rw [bsR_step S w (k + 1) x, bsR_step S w k x, bsR_more w hS k (x / S) (div_half hS h)]
/-- remainders are kept where the step and the weight leave the same -/
theorem bsR_mod {S n : Nat} {w : Int} (hn : ((S : Int) - w) % (n : Int) = 0) (hS : 2 ≤ S) : ∀ (k x : Nat), x < 2 ^ k → (bsR S w k x - (x : Int)) % (n : Int) = 0
  | 0, x, h => by
    have : x = 0 := by simpa using h
    subst this
    show (0 - ((0 : Nat) : Int)) % _ = 0
    simp
  | k + 1, x, h => by
    have ih := bsR_mod hn hS k (x / S) (div_half hS h)
    rw [bsR_step]
    have e : (x : Int) = ((x % S : Nat) : Int) + (S : Int) * ((x / S : Nat) : Int) := by
      have := Nat.mod_add_div x S
      exact_mod_cast this.symm
    have d1 : (n : Int) ∣ bsR S w k (x / S) - ((x / S : Nat) : Int) := Int.dvd_of_emod_eq_zero ih
    have d2 : (n : Int) ∣ (S : Int) - w := Int.dvd_of_emod_eq_zero hn
    refine Int.emod_eq_zero_of_dvd ?_
    have e2 : ((x % S : Nat) : Int) + w * bsR S w k (x / S) - (x : Int) = w * (bsR S w k (x / S) - ((x / S : Nat) : Int)) - ((S : Int) - w) * ((x / S : Nat) : Int) := by
      conv => lhs; rw [e]
      rw [Int.mul_sub, Int.sub_mul]
      omega
    rw [e2]
    exact Int.dvd_sub (Int.dvd_mul_of_dvd_right d1) (Int.dvd_mul_of_dvd_left d2)
theorem bsR_less {S : Nat} {w : Int} {k x : Nat} (h : x < S) (hx : x < 2 ^ k) : bsR S w k x = (x : Int) := by
  cases k with
  | zero =>
    have : x = 0 := by simpa using hx
    subst this
    rfl
  | succ k =>
    rw [bsR_step, Nat.mod_eq_of_lt h, Nat.div_eq_of_lt h, bsR_zero, Int.mul_zero, Int.add_zero]
theorem bsR_self {S : Nat} {w : Int} {k : Nat} (hS : 2 ≤ S) (hx : S < 2 ^ k) : bsR S w k S = w := by
  obtain ⟨k, rfl⟩ : ∃ j, k = j + 2 := ⟨k - 2, by
    have : ¬ k < 2 := fun z => by
      have h2 : k = 0 ∨ k = 1 := by omega
      rcases h2 with rfl | rfl <;> simp at hx <;> omega
    omega⟩
  rw [bsR_step S w (k + 1), Nat.mod_self, Nat.div_self (by omega), bsR_step S w k, Nat.mod_eq_of_lt (by omega), Nat.div_eq_of_lt (by omega), bsR_zero, Int.mul_zero, Int.add_zero]
  show (0 : Int) + w * 1 = w
  rw [Int.mul_one, Int.zero_add]
theorem whole_ok {v lo hi : Int} (h : lo ≤ v ∧ v ≤ hi) : m_is_whole [.int v, .int lo, .int hi] = .ok (.fr (.bl true)) := by
  have h1 : decide (lo ≤ v) = true := decide_eq_true h.1
  have h2 : decide (v ≤ hi) = true := decide_eq_true h.2
  simp -implicitDefEqProofs (disch := (first | omega | assumption)) only [PL.x_Rof, PL.x_cst, PL.x_var, PL.x_var1f, PL.x_var1l, PL.x_var1d, PL.x_pk, PL.x_pk1f, PL.x_pk1l, PL.x_pk1d, PL.x_pk1i, PL.x_pkF, PL.x_un1, PL.x_un, PL.x_truF, PL.x_bOf, PL.x_tstF, PL.x_notT, PL.x_bin1, PL.x_bin, PL.x_bp3, PL.x_bp2, PL.x_bp1, PL.x_binP, PL.x_andT, PL.x_orT, PL.x_and1t, PL.x_and1f, PL.x_or1t, PL.x_or1f, PL.x_andV, PL.x_orV, PL.x_andV1t, PL.x_andV1f, PL.x_orV1t, PL.x_orV1f, PL.x_ifE, PL.x_ifE1t, PL.x_ifE1f, PL.x_chainD, PL.x_ch1, PL.x_ch2, PL.x_ch3t, PL.x_ch3f, PL.x_nilA, PL.x_consA, PL.x_cons1, PL.x_cons2, PL.x_few, PL.x_mk1, PL.x_tupD, PL.x_lstD, PL.x_lstO, PL.x_dctO0, PL.x_frO, PL.x_cb, PL.x_noP, PL.x_iOf, PL.x_someP, PL.x_sl31, PL.x_sl32, PL.x_sl3, PL.x_slK1, PL.x_slK, PL.x_frF, PL.x_frS, PL.x_cal1, PL.x_callF, PL.x_callO, PL.x_FMof, PL.x_cm1, PL.x_cm2, PL.x_cm3, PL.x_callM, PL.x_FMO, PL.x_cmo1, PL.x_cmo2, PL.x_callMO, PL.x_frzR, PL.x_itF, PL.x_rngF, PL.x_OLof, PL.x_lc2, PL.x_lc1, PL.x_lcO, PL.x_cat1, PL.x_catO, PL.x_cp1, PL.x_cp2, PL.x_cp3, PL.x_catPO, PL.x_SBn, PL.x_SBr, PL.x_skipS, PL.x_badS, PL.x_seqS, PL.x_nxO, PL.x_set1, PL.x_setS, PL.x_setO1f, PL.x_setO1l, PL.x_setO1d, PL.x_setOS, PL.x_ret1, PL.x_retO1, PL.x_exp1, PL.x_retS, PL.x_retOS, PL.x_exprS, PL.x_ifS, PL.x_if1t, PL.x_if1f, PL.x_asg1, PL.x_asgS, PL.x_argsP0, PL.x_ap1f, PL.x_ap1l, PL.x_ap1d, PL.x_ap2, PL.x_argsP, PL.x_par1, PL.x_parP, PL.x_putP0, PL.x_pp1, PL.x_putP, PL.x_app1, PL.x_app2, PL.x_nxB, PL.x_app3, PL.x_appS, PL.x_dp1, PL.x_dp2, PL.x_dp3, PL.x_dp4, PL.x_dputS, PL.x_keyI, PL.x_keyS, PL.x_up1, PL.x_up2, PL.x_up3, PL.x_updS, PL.x_for1, PL.x_forS, PL.x_RTr, PL.x_RTn, PL.x_rf1, PL.x_runF, PL.x_RMr, PL.x_RMn, PL.x_MIo, PL.x_ioOf, PL.x_rm1, PL.x_runM, PL.x_putR, PL.x_putR0f, PL.x_putR0l, PL.x_putR0d, PL.x_putR0n, PL.x_noIof, PL.x_noIol, PL.x_noIod, PL.x_noIon, PL.x_tgN, PL.x_tgT, PL.x_putAll0, PL.x_pa1, PL.x_putAll, PL.x_dAt, PL.x_dSlo, PL.x_dSli, PL.x_dPut, PL.x_dPuo, PL.x_dPui, PL.x_lAt, PL.x_lSl, PL.x_envOf, PL.x_envM, PL.x_toDl, PL.x_toDd, PL.x_toDf, PL.x_nof, PL.x_nol, PL.x_nod, PL.x_okW, PL.x_wipe0, PL.x_wipe, PL.x_yesT, PL.n_add, PL.n_mul, PL.n_mod, PL.n_div, PL.n_sub, PL.n_lt, PL.n_le, PL.n_eq, PL.d_t, PL.d_f, PL.y_add, PL.y_sub, PL.y_mod, PL.y_div, PL.y_mulL, PL.y_mulR, PL.y_lt, PL.y_le, PL.y_gt, PL.y_ge, PL.y_cmp, PL.y_eq, PL.y_ne, PL.y_int, PL.y_notD, PL.y_truB, PL.y_neg, PL.y_isi_n, PL.y_isi_b, PL.y_isi_i, PL.y_isi_s, PL.y_isi_l, PL.y_isi_t, PL.y_isi_d, PL.y_isi_c, PL.l_len, PL.l_lenT, PL.l_it, PL.l_itT, PL.l_tuple, PL.l_list, PL.l_listL, PL.l_ix, PL.l_ixT, PL.l_sum, PL.l_eq, PL.l_ne, PL.l_eq0, PL.l_ne0, PL.l_eqT, PL.l_in, PL.l_nin, PL.l_cat, PL.l_catT, PL.l_stp, PL.l_rng1, PL.l_rng2, PL.x_fb, PL.x_fb1, PL.l_eq00, PL.l_ne00, PL.l_eq01, PL.l_ne01, PL.l_lenS, PL.x_ODof, PL.x_dc2, PL.x_dc1, PL.x_dcO, PL.l_nin_tk, PL.l_in_tk, PL.l_min, PL.l_slT, PL.l_slL, PL.l_rng3, PL.x_rgl2, PL.x_rgl1, PL.x_rgList, PL.x_rgTup, PL.x_gp3, PL.x_gp2, PL.x_gp1, PL.x_getP, PL.x_mt2, PL.x_mt1, PL.x_meth1, PL.l_isL, PL.x_XRo, PL.x_XRe, PL.x_calX, PL.x_calXe, PL.x_callX, PL.x_rai1, PL.x_rai, PL.x_try3, PL.x_try2, PL.x_try2f, PL.x_try1, PL.x_try1r, PL.x_try1n, PL.x_tryR, PL.x_exu1, PL.x_exb1, PL.x_exc1, PL.x_exc2, PL.x_exm1, PL.x_exSB, PL.x_exr1, PL.x_exe1, PL.x_exi1, PL.x_exRT, List.getElem?_cons_zero, List.getElem?_cons_succ, List.set_cons_zero, List.set_cons_succ, List.length_cons, List.length_nil, List.map_cons, List.map_nil, List.replicate_succ, List.replicate_zero, List.cons_append, List.nil_append, Nat.zero_add, Nat.add_zero, Nat.reduceAdd, Nat.reduceSub, Nat.reduceMul, Nat.reduceLT, Nat.reduceEqDiff, Bool.not_true, Bool.not_false, Bool.true_and, Bool.false_and, Bool.and_true, Bool.and_false, Bool.true_or, Bool.false_or, Bool.or_true, Bool.or_false, List.all_cons, List.all_nil, PL.nl_len, List.length_map, List.length_range, isiT, tyD, Option.map_some, Option.map_none, ne_eq, not_false_eq_true, not_true_eq_false, decide_true, decide_false, eq_self, implies_true, gt_iff_lt, ge_iff_le, m_is_whole, b_is_whole, is_integer_ok, h1, h2]
theorem between_ok {v lo hi : Int} (h : lo ≤ v ∧ v ≤ hi) : m_need_between [.int v, .int lo, .int hi] = .ok (.fr (.int v)) := by
  simp -implicitDefEqProofs (disch := (first | omega | assumption)) only [PL.x_Rof, PL.x_cst, PL.x_var, PL.x_var1f, PL.x_var1l, PL.x_var1d, PL.x_pk, PL.x_pk1f, PL.x_pk1l, PL.x_pk1d, PL.x_pk1i, PL.x_pkF, PL.x_un1, PL.x_un, PL.x_truF, PL.x_bOf, PL.x_tstF, PL.x_notT, PL.x_bin1, PL.x_bin, PL.x_bp3, PL.x_bp2, PL.x_bp1, PL.x_binP, PL.x_andT, PL.x_orT, PL.x_and1t, PL.x_and1f, PL.x_or1t, PL.x_or1f, PL.x_andV, PL.x_orV, PL.x_andV1t, PL.x_andV1f, PL.x_orV1t, PL.x_orV1f, PL.x_ifE, PL.x_ifE1t, PL.x_ifE1f, PL.x_chainD, PL.x_ch1, PL.x_ch2, PL.x_ch3t, PL.x_ch3f, PL.x_nilA, PL.x_consA, PL.x_cons1, PL.x_cons2, PL.x_few, PL.x_mk1, PL.x_tupD, PL.x_lstD, PL.x_lstO, PL.x_dctO0, PL.x_frO, PL.x_cb, PL.x_noP, PL.x_iOf, PL.x_someP, PL.x_sl31, PL.x_sl32, PL.x_sl3, PL.x_slK1, PL.x_slK, PL.x_frF, PL.x_frS, PL.x_cal1, PL.x_callF, PL.x_callO, PL.x_FMof, PL.x_cm1, PL.x_cm2, PL.x_cm3, PL.x_callM, PL.x_FMO, PL.x_cmo1, PL.x_cmo2, PL.x_callMO, PL.x_frzR, PL.x_itF, PL.x_rngF, PL.x_OLof, PL.x_lc2, PL.x_lc1, PL.x_lcO, PL.x_cat1, PL.x_catO, PL.x_cp1, PL.x_cp2, PL.x_cp3, PL.x_catPO, PL.x_SBn, PL.x_SBr, PL.x_skipS, PL.x_badS, PL.x_seqS, PL.x_nxO, PL.x_set1, PL.x_setS, PL.x_setO1f, PL.x_setO1l, PL.x_setO1d, PL.x_setOS, PL.x_ret1, PL.x_retO1, PL.x_exp1, PL.x_retS, PL.x_retOS, PL.x_exprS, PL.x_ifS, PL.x_if1t, PL.x_if1f, PL.x_asg1, PL.x_asgS, PL.x_argsP0, PL.x_ap1f, PL.x_ap1l, PL.x_ap1d, PL.x_ap2, PL.x_argsP, PL.x_par1, PL.x_parP, PL.x_putP0, PL.x_pp1, PL.x_putP, PL.x_app1, PL.x_app2, PL.x_nxB, PL.x_app3, PL.x_appS, PL.x_dp1, PL.x_dp2, PL.x_dp3, PL.x_dp4, PL.x_dputS, PL.x_keyI, PL.x_keyS, PL.x_up1, PL.x_up2, PL.x_up3, PL.x_updS, PL.x_for1, PL.x_forS, PL.x_RTr, PL.x_RTn, PL.x_rf1, PL.x_runF, PL.x_RMr, PL.x_RMn, PL.x_MIo, PL.x_ioOf, PL.x_rm1, PL.x_runM, PL.x_putR, PL.x_putR0f, PL.x_putR0l, PL.x_putR0d, PL.x_putR0n, PL.x_noIof, PL.x_noIol, PL.x_noIod, PL.x_noIon, PL.x_tgN, PL.x_tgT, PL.x_putAll0, PL.x_pa1, PL.x_putAll, PL.x_dAt, PL.x_dSlo, PL.x_dSli, PL.x_dPut, PL.x_dPuo, PL.x_dPui, PL.x_lAt, PL.x_lSl, PL.x_envOf, PL.x_envM, PL.x_toDl, PL.x_toDd, PL.x_toDf, PL.x_nof, PL.x_nol, PL.x_nod, PL.x_okW, PL.x_wipe0, PL.x_wipe, PL.x_yesT, PL.n_add, PL.n_mul, PL.n_mod, PL.n_div, PL.n_sub, PL.n_lt, PL.n_le, PL.n_eq, PL.d_t, PL.d_f, PL.y_add, PL.y_sub, PL.y_mod, PL.y_div, PL.y_mulL, PL.y_mulR, PL.y_lt, PL.y_le, PL.y_gt, PL.y_ge, PL.y_cmp, PL.y_eq, PL.y_ne, PL.y_int, PL.y_notD, PL.y_truB, PL.y_neg, PL.y_isi_n, PL.y_isi_b, PL.y_isi_i, PL.y_isi_s, PL.y_isi_l, PL.y_isi_t, PL.y_isi_d, PL.y_isi_c, PL.l_len, PL.l_lenT, PL.l_it, PL.l_itT, PL.l_tuple, PL.l_list, PL.l_listL, PL.l_ix, PL.l_ixT, PL.l_sum, PL.l_eq, PL.l_ne, PL.l_eq0, PL.l_ne0, PL.l_eqT, PL.l_in, PL.l_nin, PL.l_cat, PL.l_catT, PL.l_stp, PL.l_rng1, PL.l_rng2, PL.x_fb, PL.x_fb1, PL.l_eq00, PL.l_ne00, PL.l_eq01, PL.l_ne01, PL.l_lenS, PL.x_ODof, PL.x_dc2, PL.x_dc1, PL.x_dcO, PL.l_nin_tk, PL.l_in_tk, PL.l_min, PL.l_slT, PL.l_slL, PL.l_rng3, PL.x_rgl2, PL.x_rgl1, PL.x_rgList, PL.x_rgTup, PL.x_gp3, PL.x_gp2, PL.x_gp1, PL.x_getP, PL.x_mt2, PL.x_mt1, PL.x_meth1, PL.l_isL, PL.x_XRo, PL.x_XRe, PL.x_calX, PL.x_calXe, PL.x_callX, PL.x_rai1, PL.x_rai, PL.x_try3, PL.x_try2, PL.x_try2f, PL.x_try1, PL.x_try1r, PL.x_try1n, PL.x_tryR, PL.x_exu1, PL.x_exb1, PL.x_exc1, PL.x_exc2, PL.x_exm1, PL.x_exSB, PL.x_exr1, PL.x_exe1, PL.x_exi1, PL.x_exRT, List.getElem?_cons_zero, List.getElem?_cons_succ, List.set_cons_zero, List.set_cons_succ, List.length_cons, List.length_nil, List.map_cons, List.map_nil, List.replicate_succ, List.replicate_zero, List.cons_append, List.nil_append, Nat.zero_add, Nat.add_zero, Nat.reduceAdd, Nat.reduceSub, Nat.reduceMul, Nat.reduceLT, Nat.reduceEqDiff, Bool.not_true, Bool.not_false, Bool.true_and, Bool.false_and, Bool.and_true, Bool.and_false, Bool.true_or, Bool.false_or, Bool.or_true, Bool.or_false, List.all_cons, List.all_nil, PL.nl_len, List.length_map, List.length_range, isiT, tyD, Option.map_some, Option.map_none, ne_eq, not_false_eq_true, not_true_eq_false, decide_true, decide_false, eq_self, implies_true, gt_iff_lt, ge_iff_le, m_need_between, b_need_between, whole_ok h]
theorem weight_ok {w : Int} (h : -1000 ≤ w ∧ w ≤ 1000) : m_need_weight [.int w] = .ok (.fr (.int w)) := by
  have h1 := between_ok (v := w) (lo := ((0 : Nat) : Int) - ((1000 : Nat) : Int)) (hi := ((1000 : Nat) : Int)) ⟨by omega, by omega⟩
  simp -implicitDefEqProofs (disch := (first | omega | assumption)) only [PL.x_Rof, PL.x_cst, PL.x_var, PL.x_var1f, PL.x_var1l, PL.x_var1d, PL.x_pk, PL.x_pk1f, PL.x_pk1l, PL.x_pk1d, PL.x_pk1i, PL.x_pkF, PL.x_un1, PL.x_un, PL.x_truF, PL.x_bOf, PL.x_tstF, PL.x_notT, PL.x_bin1, PL.x_bin, PL.x_bp3, PL.x_bp2, PL.x_bp1, PL.x_binP, PL.x_andT, PL.x_orT, PL.x_and1t, PL.x_and1f, PL.x_or1t, PL.x_or1f, PL.x_andV, PL.x_orV, PL.x_andV1t, PL.x_andV1f, PL.x_orV1t, PL.x_orV1f, PL.x_ifE, PL.x_ifE1t, PL.x_ifE1f, PL.x_chainD, PL.x_ch1, PL.x_ch2, PL.x_ch3t, PL.x_ch3f, PL.x_nilA, PL.x_consA, PL.x_cons1, PL.x_cons2, PL.x_few, PL.x_mk1, PL.x_tupD, PL.x_lstD, PL.x_lstO, PL.x_dctO0, PL.x_frO, PL.x_cb, PL.x_noP, PL.x_iOf, PL.x_someP, PL.x_sl31, PL.x_sl32, PL.x_sl3, PL.x_slK1, PL.x_slK, PL.x_frF, PL.x_frS, PL.x_cal1, PL.x_callF, PL.x_callO, PL.x_FMof, PL.x_cm1, PL.x_cm2, PL.x_cm3, PL.x_callM, PL.x_FMO, PL.x_cmo1, PL.x_cmo2, PL.x_callMO, PL.x_frzR, PL.x_itF, PL.x_rngF, PL.x_OLof, PL.x_lc2, PL.x_lc1, PL.x_lcO, PL.x_cat1, PL.x_catO, PL.x_cp1, PL.x_cp2, PL.x_cp3, PL.x_catPO, PL.x_SBn, PL.x_SBr, PL.x_skipS, PL.x_badS, PL.x_seqS, PL.x_nxO, PL.x_set1, PL.x_setS, PL.x_setO1f, PL.x_setO1l, PL.x_setO1d, PL.x_setOS, PL.x_ret1, PL.x_retO1, PL.x_exp1, PL.x_retS, PL.x_retOS, PL.x_exprS, PL.x_ifS, PL.x_if1t, PL.x_if1f, PL.x_asg1, PL.x_asgS, PL.x_argsP0, PL.x_ap1f, PL.x_ap1l, PL.x_ap1d, PL.x_ap2, PL.x_argsP, PL.x_par1, PL.x_parP, PL.x_putP0, PL.x_pp1, PL.x_putP, PL.x_app1, PL.x_app2, PL.x_nxB, PL.x_app3, PL.x_appS, PL.x_dp1, PL.x_dp2, PL.x_dp3, PL.x_dp4, PL.x_dputS, PL.x_keyI, PL.x_keyS, PL.x_up1, PL.x_up2, PL.x_up3, PL.x_updS, PL.x_for1, PL.x_forS, PL.x_RTr, PL.x_RTn, PL.x_rf1, PL.x_runF, PL.x_RMr, PL.x_RMn, PL.x_MIo, PL.x_ioOf, PL.x_rm1, PL.x_runM, PL.x_putR, PL.x_putR0f, PL.x_putR0l, PL.x_putR0d, PL.x_putR0n, PL.x_noIof, PL.x_noIol, PL.x_noIod, PL.x_noIon, PL.x_tgN, PL.x_tgT, PL.x_putAll0, PL.x_pa1, PL.x_putAll, PL.x_dAt, PL.x_dSlo, PL.x_dSli, PL.x_dPut, PL.x_dPuo, PL.x_dPui, PL.x_lAt, PL.x_lSl, PL.x_envOf, PL.x_envM, PL.x_toDl, PL.x_toDd, PL.x_toDf, PL.x_nof, PL.x_nol, PL.x_nod, PL.x_okW, PL.x_wipe0, PL.x_wipe, PL.x_yesT, PL.n_add, PL.n_mul, PL.n_mod, PL.n_div, PL.n_sub, PL.n_lt, PL.n_le, PL.n_eq, PL.d_t, PL.d_f, PL.y_add, PL.y_sub, PL.y_mod, PL.y_div, PL.y_mulL, PL.y_mulR, PL.y_lt, PL.y_le, PL.y_gt, PL.y_ge, PL.y_cmp, PL.y_eq, PL.y_ne, PL.y_int, PL.y_notD, PL.y_truB, PL.y_neg, PL.y_isi_n, PL.y_isi_b, PL.y_isi_i, PL.y_isi_s, PL.y_isi_l, PL.y_isi_t, PL.y_isi_d, PL.y_isi_c, PL.l_len, PL.l_lenT, PL.l_it, PL.l_itT, PL.l_tuple, PL.l_list, PL.l_listL, PL.l_ix, PL.l_ixT, PL.l_sum, PL.l_eq, PL.l_ne, PL.l_eq0, PL.l_ne0, PL.l_eqT, PL.l_in, PL.l_nin, PL.l_cat, PL.l_catT, PL.l_stp, PL.l_rng1, PL.l_rng2, PL.x_fb, PL.x_fb1, PL.l_eq00, PL.l_ne00, PL.l_eq01, PL.l_ne01, PL.l_lenS, PL.x_ODof, PL.x_dc2, PL.x_dc1, PL.x_dcO, PL.l_nin_tk, PL.l_in_tk, PL.l_min, PL.l_slT, PL.l_slL, PL.l_rng3, PL.x_rgl2, PL.x_rgl1, PL.x_rgList, PL.x_rgTup, PL.x_gp3, PL.x_gp2, PL.x_gp1, PL.x_getP, PL.x_mt2, PL.x_mt1, PL.x_meth1, PL.l_isL, PL.x_XRo, PL.x_XRe, PL.x_calX, PL.x_calXe, PL.x_callX, PL.x_rai1, PL.x_rai, PL.x_try3, PL.x_try2, PL.x_try2f, PL.x_try1, PL.x_try1r, PL.x_try1n, PL.x_tryR, PL.x_exu1, PL.x_exb1, PL.x_exc1, PL.x_exc2, PL.x_exm1, PL.x_exSB, PL.x_exr1, PL.x_exe1, PL.x_exi1, PL.x_exRT, List.getElem?_cons_zero, List.getElem?_cons_succ, List.set_cons_zero, List.set_cons_succ, List.length_cons, List.length_nil, List.map_cons, List.map_nil, List.replicate_succ, List.replicate_zero, List.cons_append, List.nil_append, Nat.zero_add, Nat.add_zero, Nat.reduceAdd, Nat.reduceSub, Nat.reduceMul, Nat.reduceLT, Nat.reduceEqDiff, Bool.not_true, Bool.not_false, Bool.true_and, Bool.false_and, Bool.and_true, Bool.and_false, Bool.true_or, Bool.false_or, Bool.or_true, Bool.or_false, List.all_cons, List.all_nil, PL.nl_len, List.length_map, List.length_range, isiT, tyD, Option.map_some, Option.map_none, ne_eq, not_false_eq_true, not_true_eq_false, decide_true, decide_false, eq_self, implies_true, gt_iff_lt, ge_iff_le, m_need_weight, b_need_weight, h1]
theorem natAbs_mul_lt {a b : Int} {n m : Nat} (ha : a.natAbs < 2 ^ n) (hb : b.natAbs < 2 ^ m) : (a * b).natAbs < 2 ^ (n + m) := by
  rw [Int.natAbs_mul, Nat.pow_add]
  by_cases h : b.natAbs = 0
  · rw [h, Nat.mul_zero]
    exact Nat.mul_pos (Nat.pow_pos (by omega)) (Nat.pow_pos (by omega))
  · exact Nat.lt_of_lt_of_le (Nat.mul_lt_mul_of_pos_right ha (by omega)) (Nat.mul_le_mul_left _ (Nat.le_of_lt hb))
theorem bs_loop {b width : Nat} {w W : Int} {S : Nat} (hS : 2 ≤ S) (hS2 : S < 2 ^ 4010) (hw : -1000 ≤ w ∧ w ≤ 1000) : ∀ (k x : Nat) (f F : Int) (g : Nat), x < 2 ^ k → k ≤ 200 → f.natAbs < 2 ^ (10 * (201 - k)) → k < g → ∃ f' : Int,
    whS (tstF (bin gtD (var 5) (cst (.int (0 : Nat))))) (seqS (setS 7 (bin addD (var 7) (bin mulD (var 6) (bin modD (var 5) (pkF 4))))) (seqS (setS 5 (bin fdivD (var 5) (pkF 4))) (setS 6 (bin mulD (var 6) (pkF 2))))) g [I b, I width, I w, I W, I S, I x, I f, I F] = .nx [I b, I width, I w, I W, I S, I (0 : Nat), I f', I (F + f * bsR S w k x)] := by
  intro k
  induction k with
  | zero =>
    intro x f F g h1 h2 h3 h4
    have : x = 0 := by simpa using h1
    subst this
    obtain ⟨g, rfl⟩ : ∃ g', g = g' + 1 := ⟨g - 1, by omega⟩
    refine ⟨f, ?_⟩
    rw [bsR_zero, Int.mul_zero, Int.add_zero]
    simp -implicitDefEqProofs (disch := (first | omega | assumption)) only [PL.x_Rof, PL.x_cst, PL.x_var, PL.x_var1f, PL.x_var1l, PL.x_var1d, PL.x_pk, PL.x_pk1f, PL.x_pk1l, PL.x_pk1d, PL.x_pk1i, PL.x_pkF, PL.x_un1, PL.x_un, PL.x_truF, PL.x_bOf, PL.x_tstF, PL.x_notT, PL.x_bin1, PL.x_bin, PL.x_bp3, PL.x_bp2, PL.x_bp1, PL.x_binP, PL.x_andT, PL.x_orT, PL.x_and1t, PL.x_and1f, PL.x_or1t, PL.x_or1f, PL.x_andV, PL.x_orV, PL.x_andV1t, PL.x_andV1f, PL.x_orV1t, PL.x_orV1f, PL.x_ifE, PL.x_ifE1t, PL.x_ifE1f, PL.x_chainD, PL.x_ch1, PL.x_ch2, PL.x_ch3t, PL.x_ch3f, PL.x_nilA, PL.x_consA, PL.x_cons1, PL.x_cons2, PL.x_few, PL.x_mk1, PL.x_tupD, PL.x_lstD, PL.x_lstO, PL.x_dctO0, PL.x_frO, PL.x_cb, PL.x_noP, PL.x_iOf, PL.x_someP, PL.x_sl31, PL.x_sl32, PL.x_sl3, PL.x_slK1, PL.x_slK, PL.x_frF, PL.x_frS, PL.x_cal1, PL.x_callF, PL.x_callO, PL.x_FMof, PL.x_cm1, PL.x_cm2, PL.x_cm3, PL.x_callM, PL.x_FMO, PL.x_cmo1, PL.x_cmo2, PL.x_callMO, PL.x_frzR, PL.x_itF, PL.x_rngF, PL.x_OLof, PL.x_lc2, PL.x_lc1, PL.x_lcO, PL.x_cat1, PL.x_catO, PL.x_cp1, PL.x_cp2, PL.x_cp3, PL.x_catPO, PL.x_SBn, PL.x_SBr, PL.x_skipS, PL.x_badS, PL.x_seqS, PL.x_nxO, PL.x_set1, PL.x_setS, PL.x_setO1f, PL.x_setO1l, PL.x_setO1d, PL.x_setOS, PL.x_ret1, PL.x_retO1, PL.x_exp1, PL.x_retS, PL.x_retOS, PL.x_exprS, PL.x_ifS, PL.x_if1t, PL.x_if1f, PL.x_asg1, PL.x_asgS, PL.x_argsP0, PL.x_ap1f, PL.x_ap1l, PL.x_ap1d, PL.x_ap2, PL.x_argsP, PL.x_par1, PL.x_parP, PL.x_putP0, PL.x_pp1, PL.x_putP, PL.x_app1, PL.x_app2, PL.x_nxB, PL.x_app3, PL.x_appS, PL.x_dp1, PL.x_dp2, PL.x_dp3, PL.x_dp4, PL.x_dputS, PL.x_keyI, PL.x_keyS, PL.x_up1, PL.x_up2, PL.x_up3, PL.x_updS, PL.x_for1, PL.x_forS, PL.x_RTr, PL.x_RTn, PL.x_rf1, PL.x_runF, PL.x_RMr, PL.x_RMn, PL.x_MIo, PL.x_ioOf, PL.x_rm1, PL.x_runM, PL.x_putR, PL.x_putR0f, PL.x_putR0l, PL.x_putR0d, PL.x_putR0n, PL.x_noIof, PL.x_noIol, PL.x_noIod, PL.x_noIon, PL.x_tgN, PL.x_tgT, PL.x_putAll0, PL.x_pa1, PL.x_putAll, PL.x_dAt, PL.x_dSlo, PL.x_dSli, PL.x_dPut, PL.x_dPuo, PL.x_dPui, PL.x_lAt, PL.x_lSl, PL.x_envOf, PL.x_envM, PL.x_toDl, PL.x_toDd, PL.x_toDf, PL.x_nof, PL.x_nol, PL.x_nod, PL.x_okW, PL.x_wipe0, PL.x_wipe, PL.x_yesT, PL.n_add, PL.n_mul, PL.n_mod, PL.n_div, PL.n_sub, PL.n_lt, PL.n_le, PL.n_eq, PL.d_t, PL.d_f, PL.y_add, PL.y_sub, PL.y_mod, PL.y_div, PL.y_mulL, PL.y_mulR, PL.y_lt, PL.y_le, PL.y_gt, PL.y_ge, PL.y_cmp, PL.y_eq, PL.y_ne, PL.y_int, PL.y_notD, PL.y_truB, PL.y_neg, PL.y_isi_n, PL.y_isi_b, PL.y_isi_i, PL.y_isi_s, PL.y_isi_l, PL.y_isi_t, PL.y_isi_d, PL.y_isi_c, PL.l_len, PL.l_lenT, PL.l_it, PL.l_itT, PL.l_tuple, PL.l_list, PL.l_listL, PL.l_ix, PL.l_ixT, PL.l_sum, PL.l_eq, PL.l_ne, PL.l_eq0, PL.l_ne0, PL.l_eqT, PL.l_in, PL.l_nin, PL.l_cat, PL.l_catT, PL.l_stp, PL.l_rng1, PL.l_rng2, PL.x_fb, PL.x_fb1, PL.l_eq00, PL.l_ne00, PL.l_eq01, PL.l_ne01, PL.l_lenS, PL.x_ODof, PL.x_dc2, PL.x_dc1, PL.x_dcO, PL.l_nin_tk, PL.l_in_tk, PL.l_min, PL.l_slT, PL.l_slL, PL.l_rng3, PL.x_rgl2, PL.x_rgl1, PL.x_rgList, PL.x_rgTup, PL.x_gp3, PL.x_gp2, PL.x_gp1, PL.x_getP, PL.x_mt2, PL.x_mt1, PL.x_meth1, PL.l_isL, PL.x_XRo, PL.x_XRe, PL.x_calX, PL.x_calXe, PL.x_callX, PL.x_rai1, PL.x_rai, PL.x_try3, PL.x_try2, PL.x_try2f, PL.x_try1, PL.x_try1r, PL.x_try1n, PL.x_tryR, PL.x_exu1, PL.x_exb1, PL.x_exc1, PL.x_exc2, PL.x_exm1, PL.x_exSB, PL.x_exr1, PL.x_exe1, PL.x_exi1, PL.x_exRT, List.getElem?_cons_zero, List.getElem?_cons_succ, List.set_cons_zero, List.set_cons_succ, List.length_cons, List.length_nil, List.map_cons, List.map_nil, List.replicate_succ, List.replicate_zero, List.cons_append, List.nil_append, Nat.zero_add, Nat.add_zero, Nat.reduceAdd, Nat.reduceSub, Nat.reduceMul, Nat.reduceLT, Nat.reduceEqDiff, Bool.not_true, Bool.not_false, Bool.true_and, Bool.false_and, Bool.and_true, Bool.and_false, Bool.true_or, Bool.false_or, Bool.or_true, Bool.or_false, List.all_cons, List.all_nil, PL.nl_len, List.length_map, List.length_range, isiT, tyD, Option.map_some, Option.map_none, ne_eq, not_false_eq_true, not_true_eq_false, decide_true, decide_false, eq_self, implies_true, gt_iff_lt, ge_iff_le, x_wh, x_wh1f]
  | succ k ih =>
    intro x f F g h1 h2 h3 h4
    obtain ⟨g, rfl⟩ : ∃ g', g = g' + 1 := ⟨g - 1, by omega⟩
    by_cases hx : x = 0
    · subst hx
      refine ⟨f, ?_⟩
      rw [bsR_zero, Int.mul_zero, Int.add_zero]
      simp -implicitDefEqProofs (disch := (first | omega | assumption)) only [PL.x_Rof, PL.x_cst, PL.x_var, PL.x_var1f, PL.x_var1l, PL.x_var1d, PL.x_pk, PL.x_pk1f, PL.x_pk1l, PL.x_pk1d, PL.x_pk1i, PL.x_pkF, PL.x_un1, PL.x_un, PL.x_truF, PL.x_bOf, PL.x_tstF, PL.x_notT, PL.x_bin1, PL.x_bin, PL.x_bp3, PL.x_bp2, PL.x_bp1, PL.x_binP, PL.x_andT, PL.x_orT, PL.x_and1t, PL.x_and1f, PL.x_or1t, PL.x_or1f, PL.x_andV, PL.x_orV, PL.x_andV1t, PL.x_andV1f, PL.x_orV1t, PL.x_orV1f, PL.x_ifE, PL.x_ifE1t, PL.x_ifE1f, PL.x_chainD, PL.x_ch1, PL.x_ch2, PL.x_ch3t, PL.x_ch3f, PL.x_nilA, PL.x_consA, PL.x_cons1, PL.x_cons2, PL.x_few, PL.x_mk1, PL.x_tupD, PL.x_lstD, PL.x_lstO, PL.x_dctO0, PL.x_frO, PL.x_cb, PL.x_noP, PL.x_iOf, PL.x_someP, PL.x_sl31, PL.x_sl32, PL.x_sl3, PL.x_slK1, PL.x_slK, PL.x_frF, PL.x_frS, PL.x_cal1, PL.x_callF, PL.x_callO, PL.x_FMof, PL.x_cm1, PL.x_cm2, PL.x_cm3, PL.x_callM, PL.x_FMO, PL.x_cmo1, PL.x_cmo2, PL.x_callMO, PL.x_frzR, PL.x_itF, PL.x_rngF, PL.x_OLof, PL.x_lc2, PL.x_lc1, PL.x_lcO, PL.x_cat1, PL.x_catO, PL.x_cp1, PL.x_cp2, PL.x_cp3, PL.x_catPO, PL.x_SBn, PL.x_SBr, PL.x_skipS, PL.x_badS, PL.x_seqS, PL.x_nxO, PL.x_set1, PL.x_setS, PL.x_setO1f, PL.x_setO1l, PL.x_setO1d, PL.x_setOS, PL.x_ret1, PL.x_retO1, PL.x_exp1, PL.x_retS, PL.x_retOS, PL.x_exprS, PL.x_ifS, PL.x_if1t, PL.x_if1f, PL.x_asg1, PL.x_asgS, PL.x_argsP0, PL.x_ap1f, PL.x_ap1l, PL.x_ap1d, PL.x_ap2, PL.x_argsP, PL.x_par1, PL.x_parP, PL.x_putP0, PL.x_pp1, PL.x_putP, PL.x_app1, PL.x_app2, PL.x_nxB, PL.x_app3, PL.x_appS, PL.x_dp1, PL.x_dp2, PL.x_dp3, PL.x_dp4, PL.x_dputS, PL.x_keyI, PL.x_keyS, PL.x_up1, PL.x_up2, PL.x_up3, PL.x_updS, PL.x_for1, PL.x_forS, PL.x_RTr, PL.x_RTn, PL.x_rf1, PL.x_runF, PL.x_RMr, PL.x_RMn, PL.x_MIo, PL.x_ioOf, PL.x_rm1, PL.x_runM, PL.x_putR, PL.x_putR0f, PL.x_putR0l, PL.x_putR0d, PL.x_putR0n, PL.x_noIof, PL.x_noIol, PL.x_noIod, PL.x_noIon, PL.x_tgN, PL.x_tgT, PL.x_putAll0, PL.x_pa1, PL.x_putAll, PL.x_dAt, PL.x_dSlo, PL.x_dSli, PL.x_dPut, PL.x_dPuo, PL.x_dPui, PL.x_lAt, PL.x_lSl, PL.x_envOf, PL.x_envM, PL.x_toDl, PL.x_toDd, PL.x_toDf, PL.x_nof, PL.x_nol, PL.x_nod, PL.x_okW, PL.x_wipe0, PL.x_wipe, PL.x_yesT, PL.n_add, PL.n_mul, PL.n_mod, PL.n_div, PL.n_sub, PL.n_lt, PL.n_le, PL.n_eq, PL.d_t, PL.d_f, PL.y_add, PL.y_sub, PL.y_mod, PL.y_div, PL.y_mulL, PL.y_mulR, PL.y_lt, PL.y_le, PL.y_gt, PL.y_ge, PL.y_cmp, PL.y_eq, PL.y_ne, PL.y_int, PL.y_notD, PL.y_truB, PL.y_neg, PL.y_isi_n, PL.y_isi_b, PL.y_isi_i, PL.y_isi_s, PL.y_isi_l, PL.y_isi_t, PL.y_isi_d, PL.y_isi_c, PL.l_len, PL.l_lenT, PL.l_it, PL.l_itT, PL.l_tuple, PL.l_list, PL.l_listL, PL.l_ix, PL.l_ixT, PL.l_sum, PL.l_eq, PL.l_ne, PL.l_eq0, PL.l_ne0, PL.l_eqT, PL.l_in, PL.l_nin, PL.l_cat, PL.l_catT, PL.l_stp, PL.l_rng1, PL.l_rng2, PL.x_fb, PL.x_fb1, PL.l_eq00, PL.l_ne00, PL.l_eq01, PL.l_ne01, PL.l_lenS, PL.x_ODof, PL.x_dc2, PL.x_dc1, PL.x_dcO, PL.l_nin_tk, PL.l_in_tk, PL.l_min, PL.l_slT, PL.l_slL, PL.l_rng3, PL.x_rgl2, PL.x_rgl1, PL.x_rgList, PL.x_rgTup, PL.x_gp3, PL.x_gp2, PL.x_gp1, PL.x_getP, PL.x_mt2, PL.x_mt1, PL.x_meth1, PL.l_isL, PL.x_XRo, PL.x_XRe, PL.x_calX, PL.x_calXe, PL.x_callX, PL.x_rai1, PL.x_rai, PL.x_try3, PL.x_try2, PL.x_try2f, PL.x_try1, PL.x_try1r, PL.x_try1n, PL.x_tryR, PL.x_exu1, PL.x_exb1, PL.x_exc1, PL.x_exc2, PL.x_exm1, PL.x_exSB, PL.x_exr1, PL.x_exe1, PL.x_exi1, PL.x_exRT, List.getElem?_cons_zero, List.getElem?_cons_succ, List.set_cons_zero, List.set_cons_succ, List.length_cons, List.length_nil, List.map_cons, List.map_nil, List.replicate_succ, List.replicate_zero, List.cons_append, List.nil_append, Nat.zero_add, Nat.add_zero, Nat.reduceAdd, Nat.reduceSub, Nat.reduceMul, Nat.reduceLT, Nat.reduceEqDiff, Bool.not_true, Bool.not_false, Bool.true_and, Bool.false_and, Bool.and_true, Bool.and_false, Bool.true_or, Bool.false_or, Bool.or_true, Bool.or_false, List.all_cons, List.all_nil, PL.nl_len, List.length_map, List.length_range, isiT, tyD, Option.map_some, Option.map_none, ne_eq, not_false_eq_true, not_true_eq_false, decide_true, decide_false, eq_self, implies_true, gt_iff_lt, ge_iff_le, x_wh, x_wh1f]
    · have hw2 : w.natAbs < 2 ^ 10 := by omega
      have hm := natAbs_mul_lt h3 hw2
      have e : 10 * (201 - (k + 1)) + 10 = 10 * (201 - k) := by omega
      rw [e] at hm
      obtain ⟨f', h5⟩ := ih (x / S) (f * w) (F + f * ((x % S : Nat) : Int)) g (div_half hS h1) (by omega) hm (by omega)
      refine ⟨f', ?_⟩
      have hr : ((x % S : Nat) : Int).natAbs < 2 ^ 4010 := by
        show x % S < _
        exact Nat.lt_trans (Nat.mod_lt _ (by omega)) hS2
      have m1 : mulD (.int f) (.int ((x % S : Nat) : Int)) = some (.int (f * ((x % S : Nat) : Int))) := l_mulI h3 hr (by omega) (by omega) (by omega)
      have m2 : mulD (.int f) (.int w) = some (.int (f * w)) := l_mulI h3 hw2 (by omega) (by omega) (by omega)
      have d1 : fdivD (.int (x : Nat)) (.int (S : Nat)) = some (.int (x / S : Nat)) := l_fdivB x (by omega) (Nat.lt_trans hS2 (Nat.pow_lt_pow_right (by omega) (by omega)))
      have e2 : F + f * bsR S w (k + 1) x = F + f * ((x % S : Nat) : Int) + f * w * bsR S w k (x / S) := by
        rw [bsR_step, Int.mul_add, Int.mul_assoc, Int.add_assoc]
      rw [e2]
      generalize bsR S w k (x / S) = R at h5 ⊢
      have hx0 : 0 < x := by omega
      simp -implicitDefEqProofs (disch := (first | omega | assumption)) only [PL.x_Rof, PL.x_cst, PL.x_var, PL.x_var1f, PL.x_var1l, PL.x_var1d, PL.x_pk, PL.x_pk1f, PL.x_pk1l, PL.x_pk1d, PL.x_pk1i, PL.x_pkF, PL.x_un1, PL.x_un, PL.x_truF, PL.x_bOf, PL.x_tstF, PL.x_notT, PL.x_bin1, PL.x_bin, PL.x_bp3, PL.x_bp2, PL.x_bp1, PL.x_binP, PL.x_andT, PL.x_orT, PL.x_and1t, PL.x_and1f, PL.x_or1t, PL.x_or1f, PL.x_andV, PL.x_orV, PL.x_andV1t, PL.x_andV1f, PL.x_orV1t, PL.x_orV1f, PL.x_ifE, PL.x_ifE1t, PL.x_ifE1f, PL.x_chainD, PL.x_ch1, PL.x_ch2, PL.x_ch3t, PL.x_ch3f, PL.x_nilA, PL.x_consA, PL.x_cons1, PL.x_cons2, PL.x_few, PL.x_mk1, PL.x_tupD, PL.x_lstD, PL.x_lstO, PL.x_dctO0, PL.x_frO, PL.x_cb, PL.x_noP, PL.x_iOf, PL.x_someP, PL.x_sl31, PL.x_sl32, PL.x_sl3, PL.x_slK1, PL.x_slK, PL.x_frF, PL.x_frS, PL.x_cal1, PL.x_callF, PL.x_callO, PL.x_FMof, PL.x_cm1, PL.x_cm2, PL.x_cm3, PL.x_callM, PL.x_FMO, PL.x_cmo1, PL.x_cmo2, PL.x_callMO, PL.x_frzR, PL.x_itF, PL.x_rngF, PL.x_OLof, PL.x_lc2, PL.x_lc1, PL.x_lcO, PL.x_cat1, PL.x_catO, PL.x_cp1, PL.x_cp2, PL.x_cp3, PL.x_catPO, PL.x_SBn, PL.x_SBr, PL.x_skipS, PL.x_badS, PL.x_seqS, PL.x_nxO, PL.x_set1, PL.x_setS, PL.x_setO1f, PL.x_setO1l, PL.x_setO1d, PL.x_setOS, PL.x_ret1, PL.x_retO1, PL.x_exp1, PL.x_retS, PL.x_retOS, PL.x_exprS, PL.x_ifS, PL.x_if1t, PL.x_if1f, PL.x_asg1, PL.x_asgS, PL.x_argsP0, PL.x_ap1f, PL.x_ap1l, PL.x_ap1d, PL.x_ap2, PL.x_argsP, PL.x_par1, PL.x_parP, PL.x_putP0, PL.x_pp1, PL.x_putP, PL.x_app1, PL.x_app2, PL.x_nxB, PL.x_app3, PL.x_appS, PL.x_dp1, PL.x_dp2, PL.x_dp3, PL.x_dp4, PL.x_dputS, PL.x_keyI, PL.x_keyS, PL.x_up1, PL.x_up2, PL.x_up3, PL.x_updS, PL.x_for1, PL.x_forS, PL.x_RTr, PL.x_RTn, PL.x_rf1, PL.x_runF, PL.x_RMr, PL.x_RMn, PL.x_MIo, PL.x_ioOf, PL.x_rm1, PL.x_runM, PL.x_putR, PL.x_putR0f, PL.x_putR0l, PL.x_putR0d, PL.x_putR0n, PL.x_noIof, PL.x_noIol, PL.x_noIod, PL.x_noIon, PL.x_tgN, PL.x_tgT, PL.x_putAll0, PL.x_pa1, PL.x_putAll, PL.x_dAt, PL.x_dSlo, PL.x_dSli, PL.x_dPut, PL.x_dPuo, PL.x_dPui, PL.x_lAt, PL.x_lSl, PL.x_envOf, PL.x_envM, PL.x_toDl, PL.x_toDd, PL.x_toDf, PL.x_nof, PL.x_nol, PL.x_nod, PL.x_okW, PL.x_wipe0, PL.x_wipe, PL.x_yesT, PL.n_add, PL.n_mul, PL.n_mod, PL.n_div, PL.n_sub, PL.n_lt, PL.n_le, PL.n_eq, PL.d_t, PL.d_f, PL.y_add, PL.y_sub, PL.y_mod, PL.y_div, PL.y_mulL, PL.y_mulR, PL.y_lt, PL.y_le, PL.y_gt, PL.y_ge, PL.y_cmp, PL.y_eq, PL.y_ne, PL.y_int, PL.y_notD, PL.y_truB, PL.y_neg, PL.y_isi_n, PL.y_isi_b, PL.y_isi_i, PL.y_isi_s, PL.y_isi_l, PL.y_isi_t, PL.y_isi_d, PL.y_isi_c, PL.l_len, PL.l_lenT, PL.l_it, PL.l_itT, PL.l_tuple, PL.l_list, PL.l_listL, PL.l_ix, PL.l_ixT, PL.l_sum, PL.l_eq, PL.l_ne, PL.l_eq0, PL.l_ne0, PL.l_eqT, PL.l_in, PL.l_nin, PL.l_cat, PL.l_catT, PL.l_stp, PL.l_rng1, PL.l_rng2, PL.x_fb, PL.x_fb1, PL.l_eq00, PL.l_ne00, PL.l_eq01, PL.l_ne01, PL.l_lenS, PL.x_ODof, PL.x_dc2, PL.x_dc1, PL.x_dcO, PL.l_nin_tk, PL.l_in_tk, PL.l_min, PL.l_slT, PL.l_slL, PL.l_rng3, PL.x_rgl2, PL.x_rgl1, PL.x_rgList, PL.x_rgTup, PL.x_gp3, PL.x_gp2, PL.x_gp1, PL.x_getP, PL.x_mt2, PL.x_mt1, PL.x_meth1, PL.l_isL, PL.x_XRo, PL.x_XRe, PL.x_calX, PL.x_calXe, PL.x_callX, PL.x_rai1, PL.x_rai, PL.x_try3, PL.x_try2, PL.x_try2f, PL.x_try1, PL.x_try1r, PL.x_try1n, PL.x_tryR, PL.x_exu1, PL.x_exb1, PL.x_exc1, PL.x_exc2, PL.x_exm1, PL.x_exSB, PL.x_exr1, PL.x_exe1, PL.x_exi1, PL.x_exRT, List.getElem?_cons_zero, List.getElem?_cons_succ, List.set_cons_zero, List.set_cons_succ, List.length_cons, List.length_nil, List.map_cons, List.map_nil, List.replicate_succ, List.replicate_zero, List.cons_append, List.nil_append, Nat.zero_add, Nat.add_zero, Nat.reduceAdd, Nat.reduceSub, Nat.reduceMul, Nat.reduceLT, Nat.reduceEqDiff, Bool.not_true, Bool.not_false, Bool.true_and, Bool.false_and, Bool.and_true, Bool.and_false, Bool.true_or, Bool.false_or, Bool.or_true, Bool.or_false, List.all_cons, List.all_nil, PL.nl_len, List.length_map, List.length_range, isiT, tyD, Option.map_some, Option.map_none, ne_eq, not_false_eq_true, not_true_eq_false, decide_true, decide_false, eq_self, implies_true, gt_iff_lt, ge_iff_le, x_wh, x_wh1t, x_wh2n, m1, m2, d1, h5]
/-! powers -/
theorem l_mulB {a b n m : Nat} (ha : a < 2 ^ n) (hb : b < 2 ^ m) (hn : 0 < n) (hm : 0 < m) (h : n + m < 1000000) : mulD (.int (a : Nat)) (.int (b : Nat)) = some (.int (a * b : Nat)) := by
  have h1 : mulOk (a : Nat) (b : Nat) = true := by
    unfold mulOk
    have : ((a : Nat) : Int).natAbs.log2 + ((b : Nat) : Int).natAbs.log2 < 1000000 := by
      show a.log2 + b.log2 < 1000000
      have := log_lt ha hn
      have := log_lt hb hm
      omega
    rw [Bool.or_eq_true]
    exact .inr (decide_eq_true this)
  show (if mulOk (a : Nat) (b : Nat) = true then some (Dt.int ((a : Nat) * (b : Nat))) else none) = _
  rw [if_pos h1]
  rfl
theorem pow_2 {b k : Nat} (hb : b ≤ 1000) (hk : 0 < k) : b ^ k < 2 ^ (10 * k) := by
  rw [Nat.pow_mul]
  exact Nat.pow_lt_pow_left (by omega) (by omega)
theorem two_mul2 {a b n m : Nat} (ha : a < 2 ^ n) (hb : b < 2 ^ m) : a * b < 2 ^ (n + m) := by
  rw [Nat.pow_add]
  by_cases h : b = 0
  · subst h
    rw [Nat.mul_zero]
    exact Nat.mul_pos (Nat.pow_pos (by omega)) (Nat.pow_pos (by omega))
  · exact Nat.lt_of_lt_of_le (Nat.mul_lt_mul_of_pos_right ha (by omega)) (Nat.mul_le_mul_left _ (Nat.le_of_lt hb))
theorem power_ok {b e : Nat} (hb : 2 ≤ b ∧ b ≤ 1000) (he : e ≤ 400) : m_power [.int b, .int e] = .ok (.fr (.int (b ^ e : Nat))) := by
  have hT : b ^ e < 2 ^ 4001 := by
    by_cases h0 : e = 0
    · subst h0; exact Nat.one_lt_pow (by omega) (by omega)
    · exact Nat.lt_of_lt_of_le (pow_2 hb.2 (by omega)) (Nat.pow_le_pow_right (by omega) (by omega))
  have loop : ∀ (k f s l N g : Nat), l < 2 ^ k → f * s ^ l = b ^ e → 1 ≤ s → s < 2 ^ N → 0 < N → N * 2 ^ k ≤ 5120 → k < g → ∃ s' : Nat, whS (tstF (bin gtD (var 4) (cst (.int (0 : Nat))))) (seqS (ifS (tstF (bin eqD (bin modD (var 4) (cst (.int (2 : Nat)))) (cst (.int (1 : Nat))))) (setS 2 (bin mulD (var 2) (pkF 3))) (skipS)) (seqS (setS 3 (bin mulD (var 3) (pkF 3))) (setS 4 (bin fdivD (var 4) (cst (.int (2 : Nat))))))) g [I b, I e, I f, I s, I l] = .nx [I b, I e, I (b ^ e : Nat), I s', I (0 : Nat)] := by
    intro k
    induction k with
    | zero =>
      intro f s l N g h1 h2 h3 h4 h5 h6 h7
      have : l = 0 := by simpa using h1
      subst this
      rw [Nat.pow_zero, Nat.mul_one] at h2
      subst h2
      obtain ⟨g, rfl⟩ : ∃ g', g = g' + 1 := ⟨g - 1, by omega⟩
      refine ⟨s, ?_⟩
      simp -implicitDefEqProofs (disch := (first | omega | assumption)) only [PL.x_Rof, PL.x_cst, PL.x_var, PL.x_var1f, PL.x_var1l, PL.x_var1d, PL.x_pk, PL.x_pk1f, PL.x_pk1l, PL.x_pk1d, PL.x_pk1i, PL.x_pkF, PL.x_un1, PL.x_un, PL.x_truF, PL.x_bOf, PL.x_tstF, PL.x_notT, PL.x_bin1, PL.x_bin, PL.x_bp3, PL.x_bp2, PL.x_bp1, PL.x_binP, PL.x_andT, PL.x_orT, PL.x_and1t, PL.x_and1f, PL.x_or1t, PL.x_or1f, PL.x_andV, PL.x_orV, PL.x_andV1t, PL.x_andV1f, PL.x_orV1t, PL.x_orV1f, PL.x_ifE, PL.x_ifE1t, PL.x_ifE1f, PL.x_chainD, PL.x_ch1, PL.x_ch2, PL.x_ch3t, PL.x_ch3f, PL.x_nilA, PL.x_consA, PL.x_cons1, PL.x_cons2, PL.x_few, PL.x_mk1, PL.x_tupD, PL.x_lstD, PL.x_lstO, PL.x_dctO0, PL.x_frO, PL.x_cb, PL.x_noP, PL.x_iOf, PL.x_someP, PL.x_sl31, PL.x_sl32, PL.x_sl3, PL.x_slK1, PL.x_slK, PL.x_frF, PL.x_frS, PL.x_cal1, PL.x_callF, PL.x_callO, PL.x_FMof, PL.x_cm1, PL.x_cm2, PL.x_cm3, PL.x_callM, PL.x_FMO, PL.x_cmo1, PL.x_cmo2, PL.x_callMO, PL.x_frzR, PL.x_itF, PL.x_rngF, PL.x_OLof, PL.x_lc2, PL.x_lc1, PL.x_lcO, PL.x_cat1, PL.x_catO, PL.x_cp1, PL.x_cp2, PL.x_cp3, PL.x_catPO, PL.x_SBn, PL.x_SBr, PL.x_skipS, PL.x_badS, PL.x_seqS, PL.x_nxO, PL.x_set1, PL.x_setS, PL.x_setO1f, PL.x_setO1l, PL.x_setO1d, PL.x_setOS, PL.x_ret1, PL.x_retO1, PL.x_exp1, PL.x_retS, PL.x_retOS, PL.x_exprS, PL.x_ifS, PL.x_if1t, PL.x_if1f, PL.x_asg1, PL.x_asgS, PL.x_argsP0, PL.x_ap1f, PL.x_ap1l, PL.x_ap1d, PL.x_ap2, PL.x_argsP, PL.x_par1, PL.x_parP, PL.x_putP0, PL.x_pp1, PL.x_putP, PL.x_app1, PL.x_app2, PL.x_nxB, PL.x_app3, PL.x_appS, PL.x_dp1, PL.x_dp2, PL.x_dp3, PL.x_dp4, PL.x_dputS, PL.x_keyI, PL.x_keyS, PL.x_up1, PL.x_up2, PL.x_up3, PL.x_updS, PL.x_for1, PL.x_forS, PL.x_RTr, PL.x_RTn, PL.x_rf1, PL.x_runF, PL.x_RMr, PL.x_RMn, PL.x_MIo, PL.x_ioOf, PL.x_rm1, PL.x_runM, PL.x_putR, PL.x_putR0f, PL.x_putR0l, PL.x_putR0d, PL.x_putR0n, PL.x_noIof, PL.x_noIol, PL.x_noIod, PL.x_noIon, PL.x_tgN, PL.x_tgT, PL.x_putAll0, PL.x_pa1, PL.x_putAll, PL.x_dAt, PL.x_dSlo, PL.x_dSli, PL.x_dPut, PL.x_dPuo, PL.x_dPui, PL.x_lAt, PL.x_lSl, PL.x_envOf, PL.x_envM, PL.x_toDl, PL.x_toDd, PL.x_toDf, PL.x_nof, PL.x_nol, PL.x_nod, PL.x_okW, PL.x_wipe0, PL.x_wipe, PL.x_yesT, PL.n_add, PL.n_mul, PL.n_mod, PL.n_div, PL.n_sub, PL.n_lt, PL.n_le, PL.n_eq, PL.d_t, PL.d_f, PL.y_add, PL.y_sub, PL.y_mod, PL.y_div, PL.y_mulL, PL.y_mulR, PL.y_lt, PL.y_le, PL.y_gt, PL.y_ge, PL.y_cmp, PL.y_eq, PL.y_ne, PL.y_int, PL.y_notD, PL.y_truB, PL.y_neg, PL.y_isi_n, PL.y_isi_b, PL.y_isi_i, PL.y_isi_s, PL.y_isi_l, PL.y_isi_t, PL.y_isi_d, PL.y_isi_c, PL.l_len, PL.l_lenT, PL.l_it, PL.l_itT, PL.l_tuple, PL.l_list, PL.l_listL, PL.l_ix, PL.l_ixT, PL.l_sum, PL.l_eq, PL.l_ne, PL.l_eq0, PL.l_ne0, PL.l_eqT, PL.l_in, PL.l_nin, PL.l_cat, PL.l_catT, PL.l_stp, PL.l_rng1, PL.l_rng2, PL.x_fb, PL.x_fb1, PL.l_eq00, PL.l_ne00, PL.l_eq01, PL.l_ne01, PL.l_lenS, PL.x_ODof, PL.x_dc2, PL.x_dc1, PL.x_dcO, PL.l_nin_tk, PL.l_in_tk, PL.l_min, PL.l_slT, PL.l_slL, PL.l_rng3, PL.x_rgl2, PL.x_rgl1, PL.x_rgList, PL.x_rgTup, PL.x_gp3, PL.x_gp2, PL.x_gp1, PL.x_getP, PL.x_mt2, PL.x_mt1, PL.x_meth1, PL.l_isL, PL.x_XRo, PL.x_XRe, PL.x_calX, PL.x_calXe, PL.x_callX, PL.x_rai1, PL.x_rai, PL.x_try3, PL.x_try2, PL.x_try2f, PL.x_try1, PL.x_try1r, PL.x_try1n, PL.x_tryR, PL.x_exu1, PL.x_exb1, PL.x_exc1, PL.x_exc2, PL.x_exm1, PL.x_exSB, PL.x_exr1, PL.x_exe1, PL.x_exi1, PL.x_exRT, List.getElem?_cons_zero, List.getElem?_cons_succ, List.set_cons_zero, List.set_cons_succ, List.length_cons, List.length_nil, List.map_cons, List.map_nil, List.replicate_succ, List.replicate_zero, List.cons_append, List.nil_append, Nat.zero_add, Nat.add_zero, Nat.reduceAdd, Nat.reduceSub, Nat.reduceMul, Nat.reduceLT, Nat.reduceEqDiff, Bool.not_true, Bool.not_false, Bool.true_and, Bool.false_and, Bool.and_true, Bool.and_false, Bool.true_or, Bool.false_or, Bool.or_true, Bool.or_false, List.all_cons, List.all_nil, PL.nl_len, List.length_map, List.length_range, isiT, tyD, Option.map_some, Option.map_none, ne_eq, not_false_eq_true, not_true_eq_false, decide_true, decide_false, eq_self, implies_true, gt_iff_lt, ge_iff_le, x_wh, x_wh1f]
    | succ k ih =>
      intro f s l N g h1 h2 h3 h4 h5 h6 h7
      obtain ⟨g, rfl⟩ : ∃ g', g = g' + 1 := ⟨g - 1, by omega⟩
      by_cases hl : l = 0
      · subst hl
        rw [Nat.pow_zero, Nat.mul_one] at h2
        subst h2
        refine ⟨s, ?_⟩
        simp -implicitDefEqProofs (disch := (first | omega | assumption)) only [PL.x_Rof, PL.x_cst, PL.x_var, PL.x_var1f, PL.x_var1l, PL.x_var1d, PL.x_pk, PL.x_pk1f, PL.x_pk1l, PL.x_pk1d, PL.x_pk1i, PL.x_pkF, PL.x_un1, PL.x_un, PL.x_truF, PL.x_bOf, PL.x_tstF, PL.x_notT, PL.x_bin1, PL.x_bin, PL.x_bp3, PL.x_bp2, PL.x_bp1, PL.x_binP, PL.x_andT, PL.x_orT, PL.x_and1t, PL.x_and1f, PL.x_or1t, PL.x_or1f, PL.x_andV, PL.x_orV, PL.x_andV1t, PL.x_andV1f, PL.x_orV1t, PL.x_orV1f, PL.x_ifE, PL.x_ifE1t, PL.x_ifE1f, PL.x_chainD, PL.x_ch1, PL.x_ch2, PL.x_ch3t, PL.x_ch3f, PL.x_nilA, PL.x_consA, PL.x_cons1, PL.x_cons2, PL.x_few, PL.x_mk1, PL.x_tupD, PL.x_lstD, PL.x_lstO, PL.x_dctO0, PL.x_frO, PL.x_cb, PL.x_noP, PL.x_iOf, PL.x_someP, PL.x_sl31, PL.x_sl32, PL.x_sl3, PL.x_slK1, PL.x_slK, PL.x_frF, PL.x_frS, PL.x_cal1, PL.x_callF, PL.x_callO, PL.x_FMof, PL.x_cm1, PL.x_cm2, PL.x_cm3, PL.x_callM, PL.x_FMO, PL.x_cmo1, PL.x_cmo2, PL.x_callMO, PL.x_frzR, PL.x_itF, PL.x_rngF, PL.x_OLof, PL.x_lc2, PL.x_lc1, PL.x_lcO, PL.x_cat1, PL.x_catO, PL.x_cp1, PL.x_cp2, PL.x_cp3, PL.x_catPO, PL.x_SBn, PL.x_SBr, PL.x_skipS, PL.x_badS, PL.x_seqS, PL.x_nxO, PL.x_set1, PL.x_setS, PL.x_setO1f, PL.x_setO1l, PL.x_setO1d, PL.x_setOS, PL.x_ret1, PL.x_retO1, PL.x_exp1, PL.x_retS, PL.x_retOS, PL.x_exprS, PL.x_ifS, PL.x_if1t, PL.x_if1f, PL.x_asg1, PL.x_asgS, PL.x_argsP0, PL.x_ap1f, PL.x_ap1l, PL.x_ap1d, PL.x_ap2, PL.x_argsP, PL.x_par1, PL.x_parP, PL.x_putP0, PL.x_pp1, PL.x_putP, PL.x_app1, PL.x_app2, PL.x_nxB, PL.x_app3, PL.x_appS, PL.x_dp1, PL.x_dp2, PL.x_dp3, PL.x_dp4, PL.x_dputS, PL.x_keyI, PL.x_keyS, PL.x_up1, PL.x_up2, PL.x_up3, PL.x_updS, PL.x_for1, PL.x_forS, PL.x_RTr, PL.x_RTn, PL.x_rf1, PL.x_runF, PL.x_RMr, PL.x_RMn, PL.x_MIo, PL.x_ioOf, PL.x_rm1, PL.x_runM, PL.x_putR, PL.x_putR0f, PL.x_putR0l, PL.x_putR0d, PL.x_putR0n, PL.x_noIof, PL.x_noIol, PL.x_noIod, PL.x_noIon, PL.x_tgN, PL.x_tgT, PL.x_putAll0, PL.x_pa1, PL.x_putAll, PL.x_dAt, PL.x_dSlo, PL.x_dSli, PL.x_dPut, PL.x_dPuo, PL.x_dPui, PL.x_lAt, PL.x_lSl, PL.x_envOf, PL.x_envM, PL.x_toDl, PL.x_toDd, PL.x_toDf, PL.x_nof, PL.x_nol, PL.x_nod, PL.x_okW, PL.x_wipe0, PL.x_wipe, PL.x_yesT, PL.n_add, PL.n_mul, PL.n_mod, PL.n_div, PL.n_sub, PL.n_lt, PL.n_le, PL.n_eq, PL.d_t, PL.d_f, PL.y_add, PL.y_sub, PL.y_mod, PL.y_div, PL.y_mulL, PL.y_mulR, PL.y_lt, PL.y_le, PL.y_gt, PL.y_ge, PL.y_cmp, PL.y_eq, PL.y_ne, PL.y_int, PL.y_notD, PL.y_truB, PL.y_neg, PL.y_isi_n, PL.y_isi_b, PL.y_isi_i, PL.y_isi_s, PL.y_isi_l, PL.y_isi_t, PL.y_isi_d, PL.y_isi_c, PL.l_len, PL.l_lenT, PL.l_it, PL.l_itT, PL.l_tuple, PL.l_list, PL.l_listL, PL.l_ix, PL.l_ixT, PL.l_sum, PL.l_eq, PL.l_ne, PL.l_eq0, PL.l_ne0, PL.l_eqT, PL.l_in, PL.l_nin, PL.l_cat, PL.l_catT, PL.l_stp, PL.l_rng1, PL.l_rng2, PL.x_fb, PL.x_fb1, PL.l_eq00, PL.l_ne00, PL.l_eq01, PL.l_ne01, PL.l_lenS, PL.x_ODof, PL.x_dc2, PL.x_dc1, PL.x_dcO, PL.l_nin_tk, PL.l_in_tk, PL.l_min, PL.l_slT, PL.l_slL, PL.l_rng3, PL.x_rgl2, PL.x_rgl1, PL.x_rgList, PL.x_rgTup, PL.x_gp3, PL.x_gp2, PL.x_gp1, PL.x_getP, PL.x_mt2, PL.x_mt1, PL.x_meth1, PL.l_isL, PL.x_XRo, PL.x_XRe, PL.x_calX, PL.x_calXe, PL.x_callX, PL.x_rai1, PL.x_rai, PL.x_try3, PL.x_try2, PL.x_try2f, PL.x_try1, PL.x_try1r, PL.x_try1n, PL.x_tryR, PL.x_exu1, PL.x_exb1, PL.x_exc1, PL.x_exc2, PL.x_exm1, PL.x_exSB, PL.x_exr1, PL.x_exe1, PL.x_exi1, PL.x_exRT, List.getElem?_cons_zero, List.getElem?_cons_succ, List.set_cons_zero, List.set_cons_succ, List.length_cons, List.length_nil, List.map_cons, List.map_nil, List.replicate_succ, List.replicate_zero, List.cons_append, List.nil_append, Nat.zero_add, Nat.add_zero, Nat.reduceAdd, Nat.reduceSub, Nat.reduceMul, Nat.reduceLT, Nat.reduceEqDiff, Bool.not_true, Bool.not_false, Bool.true_and, Bool.false_and, Bool.and_true, Bool.and_false, Bool.true_or, Bool.false_or, Bool.or_true, Bool.or_false, List.all_cons, List.all_nil, PL.nl_len, List.length_map, List.length_range, isiT, tyD, Option.map_some, Option.map_none, ne_eq, not_false_eq_true, not_true_eq_false, decide_true, decide_false, eq_self, implies_true, gt_iff_lt, ge_iff_le, x_wh, x_wh1f]
      · have hN : N ≤ 5120 := Nat.le_trans (Nat.le_mul_of_pos_right N (Nat.pow_pos (by omega))) h6
        have hs := two_mul2 h4 h4
        have hf : f ≤ b ^ e := by
          rw [← h2]
          exact Nat.le_mul_of_pos_right f (Nat.pow_pos (by omega))
        have m1 : mulD (.int (s : Nat)) (.int (s : Nat)) = some (.int (s * s : Nat)) := l_mulB h4 h4 h5 h5 (by omega)
        have m2 : mulD (.int (f : Nat)) (.int (s : Nat)) = some (.int (f * s : Nat)) := l_mulB (Nat.lt_of_le_of_lt hf hT) h4 (by omega) h5 (by omega)
        have h8 : (N + N) * 2 ^ k ≤ 5120 := by
          rw [Nat.pow_succ] at h6
          have : (N + N) * 2 ^ k = N * (2 ^ k * 2) := by rw [← Nat.two_mul, Nat.mul_comm 2 N, Nat.mul_assoc, Nat.mul_comm 2]
          omega
        have h9 : l / 2 < 2 ^ k := by rw [Nat.pow_succ] at h1; omega
        by_cases ho : l % 2 = 1
        · have h10 : f * s * (s * s) ^ (l / 2) = b ^ e := by
            rw [← h2, ← Nat.pow_two, ← Nat.pow_mul, Nat.mul_assoc, ← Nat.pow_succ']
            congr 2
            omega
          obtain ⟨s', h11⟩ := ih (f * s) (s * s) (l / 2) (N + N) g h9 h10 (Nat.mul_pos h3 h3) hs (by omega) h8 (by omega)
          refine ⟨s', ?_⟩
          simp -implicitDefEqProofs (disch := (first | omega | assumption)) only [PL.x_Rof, PL.x_cst, PL.x_var, PL.x_var1f, PL.x_var1l, PL.x_var1d, PL.x_pk, PL.x_pk1f, PL.x_pk1l, PL.x_pk1d, PL.x_pk1i, PL.x_pkF, PL.x_un1, PL.x_un, PL.x_truF, PL.x_bOf, PL.x_tstF, PL.x_notT, PL.x_bin1, PL.x_bin, PL.x_bp3, PL.x_bp2, PL.x_bp1, PL.x_binP, PL.x_andT, PL.x_orT, PL.x_and1t, PL.x_and1f, PL.x_or1t, PL.x_or1f, PL.x_andV, PL.x_orV, PL.x_andV1t, PL.x_andV1f, PL.x_orV1t, PL.x_orV1f, PL.x_ifE, PL.x_ifE1t, PL.x_ifE1f, PL.x_chainD, PL.x_ch1, PL.x_ch2, PL.x_ch3t, PL.x_ch3f, PL.x_nilA, PL.x_consA, PL.x_cons1, PL.x_cons2, PL.x_few, PL.x_mk1, PL.x_tupD, PL.x_lstD, PL.x_lstO, PL.x_dctO0, PL.x_frO, PL.x_cb, PL.x_noP, PL.x_iOf, PL.x_someP, PL.x_sl31, PL.x_sl32, PL.x_sl3, PL.x_slK1, PL.x_slK, PL.x_frF, PL.x_frS, PL.x_cal1, PL.x_callF, PL.x_callO, PL.x_FMof, PL.x_cm1, PL.x_cm2, PL.x_cm3, PL.x_callM, PL.x_FMO, PL.x_cmo1, PL.x_cmo2, PL.x_callMO, PL.x_frzR, PL.x_itF, PL.x_rngF, PL.x_OLof, PL.x_lc2, PL.x_lc1, PL.x_lcO, PL.x_cat1, PL.x_catO, PL.x_cp1, PL.x_cp2, PL.x_cp3, PL.x_catPO, PL.x_SBn, PL.x_SBr, PL.x_skipS, PL.x_badS, PL.x_seqS, PL.x_nxO, PL.x_set1, PL.x_setS, PL.x_setO1f, PL.x_setO1l, PL.x_setO1d, PL.x_setOS, PL.x_ret1, PL.x_retO1, PL.x_exp1, PL.x_retS, PL.x_retOS, PL.x_exprS, PL.x_ifS, PL.x_if1t, PL.x_if1f, PL.x_asg1, PL.x_asgS, PL.x_argsP0, PL.x_ap1f, PL.x_ap1l, PL.x_ap1d, PL.x_ap2, PL.x_argsP, PL.x_par1, PL.x_parP, PL.x_putP0, PL.x_pp1, PL.x_putP, PL.x_app1, PL.x_app2, PL.x_nxB, PL.x_app3, PL.x_appS, PL.x_dp1, PL.x_dp2, PL.x_dp3, PL.x_dp4, PL.x_dputS, PL.x_keyI, PL.x_keyS, PL.x_up1, PL.x_up2, PL.x_up3, PL.x_updS, PL.x_for1, PL.x_forS, PL.x_RTr, PL.x_RTn, PL.x_rf1, PL.x_runF, PL.x_RMr, PL.x_RMn, PL.x_MIo, PL.x_ioOf, PL.x_rm1, PL.x_runM, PL.x_putR, PL.x_putR0f, PL.x_putR0l, PL.x_putR0d, PL.x_putR0n, PL.x_noIof, PL.x_noIol, PL.x_noIod, PL.x_noIon, PL.x_tgN, PL.x_tgT, PL.x_putAll0, PL.x_pa1, PL.x_putAll, PL.x_dAt, PL.x_dSlo, PL.x_dSli, PL.x_dPut, PL.x_dPuo, PL.x_dPui, PL.x_lAt, PL.x_lSl, PL.x_envOf, PL.x_envM, PL.x_toDl, PL.x_toDd, PL.x_toDf, PL.x_nof, PL.x_nol, PL.x_nod, PL.x_okW, PL.x_wipe0, PL.x_wipe, PL.x_yesT, PL.n_add, PL.n_mul, PL.n_mod, PL.n_div, PL.n_sub, PL.n_lt, PL.n_le, PL.n_eq, PL.d_t, PL.d_f, PL.y_add, PL.y_sub, PL.y_mod, PL.y_div, PL.y_mulL, PL.y_mulR, PL.y_lt, PL.y_le, PL.y_gt, PL.y_ge, PL.y_cmp, PL.y_eq, PL.y_ne, PL.y_int, PL.y_notD, PL.y_truB, PL.y_neg, PL.y_isi_n, PL.y_isi_b, PL.y_isi_i, PL.y_isi_s, PL.y_isi_l, PL.y_isi_t, PL.y_isi_d, PL.y_isi_c, PL.l_len, PL.l_lenT, PL.l_it, PL.l_itT, PL.l_tuple, PL.l_list, PL.l_listL, PL.l_ix, PL.l_ixT, PL.l_sum, PL.l_eq, PL.l_ne, PL.l_eq0, PL.l_ne0, PL.l_eqT, PL.l_in, PL.l_nin, PL.l_cat, PL.l_catT, PL.l_stp, PL.l_rng1, PL.l_rng2, PL.x_fb, PL.x_fb1, PL.l_eq00, PL.l_ne00, PL.l_eq01, PL.l_ne01, PL.l_lenS, PL.x_ODof, PL.x_dc2, PL.x_dc1, PL.x_dcO, PL.l_nin_tk, PL.l_in_tk, PL.l_min, PL.l_slT, PL.l_slL, PL.l_rng3, PL.x_rgl2, PL.x_rgl1, PL.x_rgList, PL.x_rgTup, PL.x_gp3, PL.x_gp2, PL.x_gp1, PL.x_getP, PL.x_mt2, PL.x_mt1, PL.x_meth1, PL.l_isL, PL.x_XRo, PL.x_XRe, PL.x_calX, PL.x_calXe, PL.x_callX, PL.x_rai1, PL.x_rai, PL.x_try3, PL.x_try2, PL.x_try2f, PL.x_try1, PL.x_try1r, PL.x_try1n, PL.x_tryR, PL.x_exu1, PL.x_exb1, PL.x_exc1, PL.x_exc2, PL.x_exm1, PL.x_exSB, PL.x_exr1, PL.x_exe1, PL.x_exi1, PL.x_exRT, List.getElem?_cons_zero, List.getElem?_cons_succ, List.set_cons_zero, List.set_cons_succ, List.length_cons, List.length_nil, List.map_cons, List.map_nil, List.replicate_succ, List.replicate_zero, List.cons_append, List.nil_append, Nat.zero_add, Nat.add_zero, Nat.reduceAdd, Nat.reduceSub, Nat.reduceMul, Nat.reduceLT, Nat.reduceEqDiff, Bool.not_true, Bool.not_false, Bool.true_and, Bool.false_and, Bool.and_true, Bool.and_false, Bool.true_or, Bool.false_or, Bool.or_true, Bool.or_false, List.all_cons, List.all_nil, PL.nl_len, List.length_map, List.length_range, isiT, tyD, Option.map_some, Option.map_none, ne_eq, not_false_eq_true, not_true_eq_false, decide_true, decide_false, eq_self, implies_true, gt_iff_lt, ge_iff_le, x_wh, x_wh1t, x_wh2n, m1, m2, ho, h11]
        · have h10 : f * (s * s) ^ (l / 2) = b ^ e := by
            rw [← h2, ← Nat.pow_two, ← Nat.pow_mul]
            congr 2
            omega
          obtain ⟨s', h11⟩ := ih f (s * s) (l / 2) (N + N) g h9 h10 (Nat.mul_pos h3 h3) hs (by omega) h8 (by omega)
          refine ⟨s', ?_⟩
          simp -implicitDefEqProofs (disch := (first | omega | assumption)) only [PL.x_Rof, PL.x_cst, PL.x_var, PL.x_var1f, PL.x_var1l, PL.x_var1d, PL.x_pk, PL.x_pk1f, PL.x_pk1l, PL.x_pk1d, PL.x_pk1i, PL.x_pkF, PL.x_un1, PL.x_un, PL.x_truF, PL.x_bOf, PL.x_tstF, PL.x_notT, PL.x_bin1, PL.x_bin, PL.x_bp3, PL.x_bp2, PL.x_bp1, PL.x_binP, PL.x_andT, PL.x_orT, PL.x_and1t, PL.x_and1f, PL.x_or1t, PL.x_or1f, PL.x_andV, PL.x_orV, PL.x_andV1t, PL.x_andV1f, PL.x_orV1t, PL.x_orV1f, PL.x_ifE, PL.x_ifE1t, PL.x_ifE1f, PL.x_chainD, PL.x_ch1, PL.x_ch2, PL.x_ch3t, PL.x_ch3f, PL.x_nilA, PL.x_consA, PL.x_cons1, PL.x_cons2, PL.x_few, PL.x_mk1, PL.x_tupD, PL.x_lstD, PL.x_lstO, PL.x_dctO0, PL.x_frO, PL.x_cb, PL.x_noP, PL.x_iOf, PL.x_someP, PL.x_sl31, PL.x_sl32, PL.x_sl3, PL.x_slK1, PL.x_slK, PL.x_frF, PL.x_frS, PL.x_cal1, PL.x_callF, PL.x_callO, PL.x_FMof, PL.x_cm1, PL.x_cm2, PL.x_cm3, PL.x_callM, PL.x_FMO, PL.x_cmo1, PL.x_cmo2, PL.x_callMO, PL.x_frzR, PL.x_itF, PL.x_rngF, PL.x_OLof, PL.x_lc2, PL.x_lc1, PL.x_lcO, PL.x_cat1, PL.x_catO, PL.x_cp1, PL.x_cp2, PL.x_cp3, PL.x_catPO, PL.x_SBn, PL.x_SBr, PL.x_skipS, PL.x_badS, PL.x_seqS, PL.x_nxO, PL.x_set1, PL.x_setS, PL.x_setO1f, PL.x_setO1l, PL.x_setO1d, PL.x_setOS, PL.x_ret1, PL.x_retO1, PL.x_exp1, PL.x_retS, PL.x_retOS, PL.x_exprS, PL.x_ifS, PL.x_if1t, PL.x_if1f, PL.x_asg1, PL.x_asgS, PL.x_argsP0, PL.x_ap1f, PL.x_ap1l, PL.x_ap1d, PL.x_ap2, PL.x_argsP, PL.x_par1, PL.x_parP, PL.x_putP0, PL.x_pp1, PL.x_putP, PL.x_app1, PL.x_app2, PL.x_nxB, PL.x_app3, PL.x_appS, PL.x_dp1, PL.x_dp2, PL.x_dp3, PL.x_dp4, PL.x_dputS, PL.x_keyI, PL.x_keyS, PL.x_up1, PL.x_up2, PL.x_up3, PL.x_updS, PL.x_for1, PL.x_forS, PL.x_RTr, PL.x_RTn, PL.x_rf1, PL.x_runF, PL.x_RMr, PL.x_RMn, PL.x_MIo, PL.x_ioOf, PL.x_rm1, PL.x_runM, PL.x_putR, PL.x_putR0f, PL.x_putR0l, PL.x_putR0d, PL.x_putR0n, PL.x_noIof, PL.x_noIol, PL.x_noIod, PL.x_noIon, PL.x_tgN, PL.x_tgT, PL.x_putAll0, PL.x_pa1, PL.x_putAll, PL.x_dAt, PL.x_dSlo, PL.x_dSli, PL.x_dPut, PL.x_dPuo, PL.x_dPui, PL.x_lAt, PL.x_lSl, PL.x_envOf, PL.x_envM, PL.x_toDl, PL.x_toDd, PL.x_toDf, PL.x_nof, PL.x_nol, PL.x_nod, PL.x_okW, PL.x_wipe0, PL.x_wipe, PL.x_yesT, PL.n_add, PL.n_mul, PL.n_mod, PL.n_div, PL.n_sub, PL.n_lt, PL.n_le, PL.n_eq, PL.d_t, PL.d_f, PL.y_add, PL.y_sub, PL.y_mod, PL.y_div, PL.y_mulL, PL.y_mulR, PL.y_lt, PL.y_le, PL.y_gt, PL.y_ge, PL.y_cmp, PL.y_eq, PL.y_ne, PL.y_int, PL.y_notD, PL.y_truB, PL.y_neg, PL.y_isi_n, PL.y_isi_b, PL.y_isi_i, PL.y_isi_s, PL.y_isi_l, PL.y_isi_t, PL.y_isi_d, PL.y_isi_c, PL.l_len, PL.l_lenT, PL.l_it, PL.l_itT, PL.l_tuple, PL.l_list, PL.l_listL, PL.l_ix, PL.l_ixT, PL.l_sum, PL.l_eq, PL.l_ne, PL.l_eq0, PL.l_ne0, PL.l_eqT, PL.l_in, PL.l_nin, PL.l_cat, PL.l_catT, PL.l_stp, PL.l_rng1, PL.l_rng2, PL.x_fb, PL.x_fb1, PL.l_eq00, PL.l_ne00, PL.l_eq01, PL.l_ne01, PL.l_lenS, PL.x_ODof, PL.x_dc2, PL.x_dc1, PL.x_dcO, PL.l_nin_tk, PL.l_in_tk, PL.l_min, PL.l_slT, PL.l_slL, PL.l_rng3, PL.x_rgl2, PL.x_rgl1, PL.x_rgList, PL.x_rgTup, PL.x_gp3, PL.x_gp2, PL.x_gp1, PL.x_getP, PL.x_mt2, PL.x_mt1, PL.x_meth1, PL.l_isL, PL.x_XRo, PL.x_XRe, PL.x_calX, PL.x_calXe, PL.x_callX, PL.x_rai1, PL.x_rai, PL.x_try3, PL.x_try2, PL.x_try2f, PL.x_try1, PL.x_try1r, PL.x_try1n, PL.x_tryR, PL.x_exu1, PL.x_exb1, PL.x_exc1, PL.x_exc2, PL.x_exm1, PL.x_exSB, PL.x_exr1, PL.x_exe1, PL.x_exi1, PL.x_exRT, List.getElem?_cons_zero, List.getElem?_cons_succ, List.set_cons_zero, List.set_cons_succ, List.length_cons, List.length_nil, List.map_cons, List.map_nil, List.replicate_succ, List.replicate_zero, List.cons_append, List.nil_append, Nat.zero_add, Nat.add_zero, Nat.reduceAdd, Nat.reduceSub, Nat.reduceMul, Nat.reduceLT, Nat.reduceEqDiff, Bool.not_true, Bool.not_false, Bool.true_and, Bool.false_and, Bool.and_true, Bool.and_false, Bool.true_or, Bool.false_or, Bool.or_true, Bool.or_false, List.all_cons, List.all_nil, PL.nl_len, List.length_map, List.length_range, isiT, tyD, Option.map_some, Option.map_none, ne_eq, not_false_eq_true, not_true_eq_false, decide_true, decide_false, eq_self, implies_true, gt_iff_lt, ge_iff_le, x_wh, x_wh1t, x_wh2n, m1, ho, h11]
  obtain ⟨s', h⟩ := loop 9 1 b e 10 1000000 (by omega) (by rw [Nat.one_mul]) (by omega) (by omega) (by omega) (by omega) (by omega)
  simp -implicitDefEqProofs (disch := (first | omega | assumption)) only [PL.x_Rof, PL.x_cst, PL.x_var, PL.x_var1f, PL.x_var1l, PL.x_var1d, PL.x_pk, PL.x_pk1f, PL.x_pk1l, PL.x_pk1d, PL.x_pk1i, PL.x_pkF, PL.x_un1, PL.x_un, PL.x_truF, PL.x_bOf, PL.x_tstF, PL.x_notT, PL.x_bin1, PL.x_bin, PL.x_bp3, PL.x_bp2, PL.x_bp1, PL.x_binP, PL.x_andT, PL.x_orT, PL.x_and1t, PL.x_and1f, PL.x_or1t, PL.x_or1f, PL.x_andV, PL.x_orV, PL.x_andV1t, PL.x_andV1f, PL.x_orV1t, PL.x_orV1f, PL.x_ifE, PL.x_ifE1t, PL.x_ifE1f, PL.x_chainD, PL.x_ch1, PL.x_ch2, PL.x_ch3t, PL.x_ch3f, PL.x_nilA, PL.x_consA, PL.x_cons1, PL.x_cons2, PL.x_few, PL.x_mk1, PL.x_tupD, PL.x_lstD, PL.x_lstO, PL.x_dctO0, PL.x_frO, PL.x_cb, PL.x_noP, PL.x_iOf, PL.x_someP, PL.x_sl31, PL.x_sl32, PL.x_sl3, PL.x_slK1, PL.x_slK, PL.x_frF, PL.x_frS, PL.x_cal1, PL.x_callF, PL.x_callO, PL.x_FMof, PL.x_cm1, PL.x_cm2, PL.x_cm3, PL.x_callM, PL.x_FMO, PL.x_cmo1, PL.x_cmo2, PL.x_callMO, PL.x_frzR, PL.x_itF, PL.x_rngF, PL.x_OLof, PL.x_lc2, PL.x_lc1, PL.x_lcO, PL.x_cat1, PL.x_catO, PL.x_cp1, PL.x_cp2, PL.x_cp3, PL.x_catPO, PL.x_SBn, PL.x_SBr, PL.x_skipS, PL.x_badS, PL.x_seqS, PL.x_nxO, PL.x_set1, PL.x_setS, PL.x_setO1f, PL.x_setO1l, PL.x_setO1d, PL.x_setOS, PL.x_ret1, PL.x_retO1, PL.x_exp1, PL.x_retS, PL.x_retOS, PL.x_exprS, PL.x_ifS, PL.x_if1t, PL.x_if1f, PL.x_asg1, PL.x_asgS, PL.x_argsP0, PL.x_ap1f, PL.x_ap1l, PL.x_ap1d, PL.x_ap2, PL.x_argsP, PL.x_par1, PL.x_parP, PL.x_putP0, PL.x_pp1, PL.x_putP, PL.x_app1, PL.x_app2, PL.x_nxB, PL.x_app3, PL.x_appS, PL.x_dp1, PL.x_dp2, PL.x_dp3, PL.x_dp4, PL.x_dputS, PL.x_keyI, PL.x_keyS, PL.x_up1, PL.x_up2, PL.x_up3, PL.x_updS, PL.x_for1, PL.x_forS, PL.x_RTr, PL.x_RTn, PL.x_rf1, PL.x_runF, PL.x_RMr, PL.x_RMn, PL.x_MIo, PL.x_ioOf, PL.x_rm1, PL.x_runM, PL.x_putR, PL.x_putR0f, PL.x_putR0l, PL.x_putR0d, PL.x_putR0n, PL.x_noIof, PL.x_noIol, PL.x_noIod, PL.x_noIon, PL.x_tgN, PL.x_tgT, PL.x_putAll0, PL.x_pa1, PL.x_putAll, PL.x_dAt, PL.x_dSlo, PL.x_dSli, PL.x_dPut, PL.x_dPuo, PL.x_dPui, PL.x_lAt, PL.x_lSl, PL.x_envOf, PL.x_envM, PL.x_toDl, PL.x_toDd, PL.x_toDf, PL.x_nof, PL.x_nol, PL.x_nod, PL.x_okW, PL.x_wipe0, PL.x_wipe, PL.x_yesT, PL.n_add, PL.n_mul, PL.n_mod, PL.n_div, PL.n_sub, PL.n_lt, PL.n_le, PL.n_eq, PL.d_t, PL.d_f, PL.y_add, PL.y_sub, PL.y_mod, PL.y_div, PL.y_mulL, PL.y_mulR, PL.y_lt, PL.y_le, PL.y_gt, PL.y_ge, PL.y_cmp, PL.y_eq, PL.y_ne, PL.y_int, PL.y_notD, PL.y_truB, PL.y_neg, PL.y_isi_n, PL.y_isi_b, PL.y_isi_i, PL.y_isi_s, PL.y_isi_l, PL.y_isi_t, PL.y_isi_d, PL.y_isi_c, PL.l_len, PL.l_lenT, PL.l_it, PL.l_itT, PL.l_tuple, PL.l_list, PL.l_listL, PL.l_ix, PL.l_ixT, PL.l_sum, PL.l_eq, PL.l_ne, PL.l_eq0, PL.l_ne0, PL.l_eqT, PL.l_in, PL.l_nin, PL.l_cat, PL.l_catT, PL.l_stp, PL.l_rng1, PL.l_rng2, PL.x_fb, PL.x_fb1, PL.l_eq00, PL.l_ne00, PL.l_eq01, PL.l_ne01, PL.l_lenS, PL.x_ODof, PL.x_dc2, PL.x_dc1, PL.x_dcO, PL.l_nin_tk, PL.l_in_tk, PL.l_min, PL.l_slT, PL.l_slL, PL.l_rng3, PL.x_rgl2, PL.x_rgl1, PL.x_rgList, PL.x_rgTup, PL.x_gp3, PL.x_gp2, PL.x_gp1, PL.x_getP, PL.x_mt2, PL.x_mt1, PL.x_meth1, PL.l_isL, PL.x_XRo, PL.x_XRe, PL.x_calX, PL.x_calXe, PL.x_callX, PL.x_rai1, PL.x_rai, PL.x_try3, PL.x_try2, PL.x_try2f, PL.x_try1, PL.x_try1r, PL.x_try1n, PL.x_tryR, PL.x_exu1, PL.x_exb1, PL.x_exc1, PL.x_exc2, PL.x_exm1, PL.x_exSB, PL.x_exr1, PL.x_exe1, PL.x_exi1, PL.x_exRT, List.getElem?_cons_zero, List.getElem?_cons_succ, List.set_cons_zero, List.set_cons_succ, List.length_cons, List.length_nil, List.map_cons, List.map_nil, List.replicate_succ, List.replicate_zero, List.cons_append, List.nil_append, Nat.zero_add, Nat.add_zero, Nat.reduceAdd, Nat.reduceSub, Nat.reduceMul, Nat.reduceLT, Nat.reduceEqDiff, Bool.not_true, Bool.not_false, Bool.true_and, Bool.false_and, Bool.and_true, Bool.and_false, Bool.true_or, Bool.false_or, Bool.or_true, Bool.or_false, List.all_cons, List.all_nil, PL.nl_len, List.length_map, List.length_range, isiT, tyD, Option.map_some, Option.map_none, ne_eq, not_false_eq_true, not_true_eq_false, decide_true, decide_false, eq_self, implies_true, gt_iff_lt, ge_iff_le, m_power, b_power, h]
abbrev M60 : Nat := 10 ^ 60
theorem m60_lt : M60 < 2 ^ 200 := by decide +kernel
theorem step_two {b width : Nat} (hb : 2 ≤ b) (hw : 1 ≤ width) : 2 ≤ b ^ width := by
  have : b ^ 1 ≤ b ^ width := Nat.pow_le_pow_right (by omega) hw
  rw [Nat.pow_one] at this
  omega
theorem block_sum_ok {b width x : Nat} {w : Int} (hb : 2 ≤ b ∧ b ≤ 1000) (hd : 1 ≤ width ∧ width ≤ 400) (hw : -1000 ≤ w ∧ w ≤ 1000) (hx : x ≤ 10 ^ 60) : m_block_sum [.int b, .int width, .int w, .int x] = .ok (.fr (.int (bsR (b ^ width) w 200 x))) := by
  have h1 := power_ok hb hd.2
  have h2 := need_base_ok hb
  have h3 := between_ok (v := (width : Int)) (lo := ((1 : Nat) : Int)) (hi := ((400 : Nat) : Int)) ⟨by omega, by omega⟩
  have h4 := weight_ok hw
  have h5 := between_ok (v := (x : Int)) (lo := ((0 : Nat) : Int)) (hi := ((1000000000000000000000000000000000000000000000000000000000000 : Nat) : Int)) ⟨by omega, by omega⟩
  have hS := step_two hb.1 hd.1
  have hS2 : b ^ width < 2 ^ 4010 := Nat.lt_of_lt_of_le (pow_2 hb.2 (by omega)) (Nat.pow_le_pow_right (by omega) (by omega))
  generalize b ^ width = S at h1 hS hS2 ⊢
  obtain ⟨f', h6⟩ := bs_loop (b := b) (width := width) (W := (x : Int)) hS hS2 hw 200 x ((1 : Nat) : Int) ((0 : Nat) : Int) 1000000 (Nat.lt_of_le_of_lt hx m60_lt) (by omega) (by decide) (by omega)
  have e : ((0 : Nat) : Int) + ((1 : Nat) : Int) * bsR S w 200 x = bsR S w 200 x := by simp
  rw [e] at h6
  have h6' := h6
  generalize bsR S w 200 x = R at h6' ⊢
  simp -implicitDefEqProofs (disch := (first | omega | assumption)) only [PL.x_Rof, PL.x_cst, PL.x_var, PL.x_var1f, PL.x_var1l, PL.x_var1d, PL.x_pk, PL.x_pk1f, PL.x_pk1l, PL.x_pk1d, PL.x_pk1i, PL.x_pkF, PL.x_un1, PL.x_un, PL.x_truF, PL.x_bOf, PL.x_tstF, PL.x_notT, PL.x_bin1, PL.x_bin, PL.x_bp3, PL.x_bp2, PL.x_bp1, PL.x_binP, PL.x_andT, PL.x_orT, PL.x_and1t, PL.x_and1f, PL.x_or1t, PL.x_or1f, PL.x_andV, PL.x_orV, PL.x_andV1t, PL.x_andV1f, PL.x_orV1t, PL.x_orV1f, PL.x_ifE, PL.x_ifE1t, PL.x_ifE1f, PL.x_chainD, PL.x_ch1, PL.x_ch2, PL.x_ch3t, PL.x_ch3f, PL.x_nilA, PL.x_consA, PL.x_cons1, PL.x_cons2, PL.x_few, PL.x_mk1, PL.x_tupD, PL.x_lstD, PL.x_lstO, PL.x_dctO0, PL.x_frO, PL.x_cb, PL.x_noP, PL.x_iOf, PL.x_someP, PL.x_sl31, PL.x_sl32, PL.x_sl3, PL.x_slK1, PL.x_slK, PL.x_frF, PL.x_frS, PL.x_cal1, PL.x_callF, PL.x_callO, PL.x_FMof, PL.x_cm1, PL.x_cm2, PL.x_cm3, PL.x_callM, PL.x_FMO, PL.x_cmo1, PL.x_cmo2, PL.x_callMO, PL.x_frzR, PL.x_itF, PL.x_rngF, PL.x_OLof, PL.x_lc2, PL.x_lc1, PL.x_lcO, PL.x_cat1, PL.x_catO, PL.x_cp1, PL.x_cp2, PL.x_cp3, PL.x_catPO, PL.x_SBn, PL.x_SBr, PL.x_skipS, PL.x_badS, PL.x_seqS, PL.x_nxO, PL.x_set1, PL.x_setS, PL.x_setO1f, PL.x_setO1l, PL.x_setO1d, PL.x_setOS, PL.x_ret1, PL.x_retO1, PL.x_exp1, PL.x_retS, PL.x_retOS, PL.x_exprS, PL.x_ifS, PL.x_if1t, PL.x_if1f, PL.x_asg1, PL.x_asgS, PL.x_argsP0, PL.x_ap1f, PL.x_ap1l, PL.x_ap1d, PL.x_ap2, PL.x_argsP, PL.x_par1, PL.x_parP, PL.x_putP0, PL.x_pp1, PL.x_putP, PL.x_app1, PL.x_app2, PL.x_nxB, PL.x_app3, PL.x_appS, PL.x_dp1, PL.x_dp2, PL.x_dp3, PL.x_dp4, PL.x_dputS, PL.x_keyI, PL.x_keyS, PL.x_up1, PL.x_up2, PL.x_up3, PL.x_updS, PL.x_for1, PL.x_forS, PL.x_RTr, PL.x_RTn, PL.x_rf1, PL.x_runF, PL.x_RMr, PL.x_RMn, PL.x_MIo, PL.x_ioOf, PL.x_rm1, PL.x_runM, PL.x_putR, PL.x_putR0f, PL.x_putR0l, PL.x_putR0d, PL.x_putR0n, PL.x_noIof, PL.x_noIol, PL.x_noIod, PL.x_noIon, PL.x_tgN, PL.x_tgT, PL.x_putAll0, PL.x_pa1, PL.x_putAll, PL.x_dAt, PL.x_dSlo, PL.x_dSli, PL.x_dPut, PL.x_dPuo, PL.x_dPui, PL.x_lAt, PL.x_lSl, PL.x_envOf, PL.x_envM, PL.x_toDl, PL.x_toDd, PL.x_toDf, PL.x_nof, PL.x_nol, PL.x_nod, PL.x_okW, PL.x_wipe0, PL.x_wipe, PL.x_yesT, PL.n_add, PL.n_mul, PL.n_mod, PL.n_div, PL.n_sub, PL.n_lt, PL.n_le, PL.n_eq, PL.d_t, PL.d_f, PL.y_add, PL.y_sub, PL.y_mod, PL.y_div, PL.y_mulL, PL.y_mulR, PL.y_lt, PL.y_le, PL.y_gt, PL.y_ge, PL.y_cmp, PL.y_eq, PL.y_ne, PL.y_int, PL.y_notD, PL.y_truB, PL.y_neg, PL.y_isi_n, PL.y_isi_b, PL.y_isi_i, PL.y_isi_s, PL.y_isi_l, PL.y_isi_t, PL.y_isi_d, PL.y_isi_c, PL.l_len, PL.l_lenT, PL.l_it, PL.l_itT, PL.l_tuple, PL.l_list, PL.l_listL, PL.l_ix, PL.l_ixT, PL.l_sum, PL.l_eq, PL.l_ne, PL.l_eq0, PL.l_ne0, PL.l_eqT, PL.l_in, PL.l_nin, PL.l_cat, PL.l_catT, PL.l_stp, PL.l_rng1, PL.l_rng2, PL.x_fb, PL.x_fb1, PL.l_eq00, PL.l_ne00, PL.l_eq01, PL.l_ne01, PL.l_lenS, PL.x_ODof, PL.x_dc2, PL.x_dc1, PL.x_dcO, PL.l_nin_tk, PL.l_in_tk, PL.l_min, PL.l_slT, PL.l_slL, PL.l_rng3, PL.x_rgl2, PL.x_rgl1, PL.x_rgList, PL.x_rgTup, PL.x_gp3, PL.x_gp2, PL.x_gp1, PL.x_getP, PL.x_mt2, PL.x_mt1, PL.x_meth1, PL.l_isL, PL.x_XRo, PL.x_XRe, PL.x_calX, PL.x_calXe, PL.x_callX, PL.x_rai1, PL.x_rai, PL.x_try3, PL.x_try2, PL.x_try2f, PL.x_try1, PL.x_try1r, PL.x_try1n, PL.x_tryR, PL.x_exu1, PL.x_exb1, PL.x_exc1, PL.x_exc2, PL.x_exm1, PL.x_exSB, PL.x_exr1, PL.x_exe1, PL.x_exi1, PL.x_exRT, List.getElem?_cons_zero, List.getElem?_cons_succ, List.set_cons_zero, List.set_cons_succ, List.length_cons, List.length_nil, List.map_cons, List.map_nil, List.replicate_succ, List.replicate_zero, List.cons_append, List.nil_append, Nat.zero_add, Nat.add_zero, Nat.reduceAdd, Nat.reduceSub, Nat.reduceMul, Nat.reduceLT, Nat.reduceEqDiff, Bool.not_true, Bool.not_false, Bool.true_and, Bool.false_and, Bool.and_true, Bool.and_false, Bool.true_or, Bool.false_or, Bool.or_true, Bool.or_false, List.all_cons, List.all_nil, PL.nl_len, List.length_map, List.length_range, isiT, tyD, Option.map_some, Option.map_none, ne_eq, not_false_eq_true, not_true_eq_false, decide_true, decide_false, eq_self, implies_true, gt_iff_lt, ge_iff_le, m_block_sum, b_block_sum, h1, h2, h3, h4, h5, h6']
theorem keeps_ok {b width n : Nat} {w : Int} (hb : 2 ≤ b ∧ b ≤ 1000) (hd : 1 ≤ width ∧ width ≤ 400) (hw : -1000 ≤ w ∧ w ≤ 1000) (hn : 1 ≤ n ∧ n ≤ 5000) : m_keeps_remainders [.int b, .int n, .int width, .int w] = .ok (.fr (.bl (decide ((((b ^ width % n : Nat) : Int) - w) % (n : Int) = 0)))) := by
  have h1 := need_base_ok hb
  have h2 := need_denominator_ok hn
  have h3 := between_ok (v := (width : Int)) (lo := ((1 : Nat) : Int)) (hi := ((400 : Nat) : Int)) ⟨by omega, by omega⟩
  have h4 := weight_ok hw
  have h5 := power_rest_ok (b := b) (t := width) (n := n) ⟨by omega, by omega⟩ (Nat.lt_of_lt_of_le (show width < 2 ^ 9 by omega) (Nat.pow_le_pow_right (by omega) (by omega)))
  have h6 := y_mod (b := n) (((b ^ width % n : Nat) : Int) - w) (by omega)
  generalize b ^ width % n = r at h5 h6 ⊢
  simp -implicitDefEqProofs (disch := (first | omega | assumption)) only [PL.x_Rof, PL.x_cst, PL.x_var, PL.x_var1f, PL.x_var1l, PL.x_var1d, PL.x_pk, PL.x_pk1f, PL.x_pk1l, PL.x_pk1d, PL.x_pk1i, PL.x_pkF, PL.x_un1, PL.x_un, PL.x_truF, PL.x_bOf, PL.x_tstF, PL.x_notT, PL.x_bin1, PL.x_bin, PL.x_bp3, PL.x_bp2, PL.x_bp1, PL.x_binP, PL.x_andT, PL.x_orT, PL.x_and1t, PL.x_and1f, PL.x_or1t, PL.x_or1f, PL.x_andV, PL.x_orV, PL.x_andV1t, PL.x_andV1f, PL.x_orV1t, PL.x_orV1f, PL.x_ifE, PL.x_ifE1t, PL.x_ifE1f, PL.x_chainD, PL.x_ch1, PL.x_ch2, PL.x_ch3t, PL.x_ch3f, PL.x_nilA, PL.x_consA, PL.x_cons1, PL.x_cons2, PL.x_few, PL.x_mk1, PL.x_tupD, PL.x_lstD, PL.x_lstO, PL.x_dctO0, PL.x_frO, PL.x_cb, PL.x_noP, PL.x_iOf, PL.x_someP, PL.x_sl31, PL.x_sl32, PL.x_sl3, PL.x_slK1, PL.x_slK, PL.x_frF, PL.x_frS, PL.x_cal1, PL.x_callF, PL.x_callO, PL.x_FMof, PL.x_cm1, PL.x_cm2, PL.x_cm3, PL.x_callM, PL.x_FMO, PL.x_cmo1, PL.x_cmo2, PL.x_callMO, PL.x_frzR, PL.x_itF, PL.x_rngF, PL.x_OLof, PL.x_lc2, PL.x_lc1, PL.x_lcO, PL.x_cat1, PL.x_catO, PL.x_cp1, PL.x_cp2, PL.x_cp3, PL.x_catPO, PL.x_SBn, PL.x_SBr, PL.x_skipS, PL.x_badS, PL.x_seqS, PL.x_nxO, PL.x_set1, PL.x_setS, PL.x_setO1f, PL.x_setO1l, PL.x_setO1d, PL.x_setOS, PL.x_ret1, PL.x_retO1, PL.x_exp1, PL.x_retS, PL.x_retOS, PL.x_exprS, PL.x_ifS, PL.x_if1t, PL.x_if1f, PL.x_asg1, PL.x_asgS, PL.x_argsP0, PL.x_ap1f, PL.x_ap1l, PL.x_ap1d, PL.x_ap2, PL.x_argsP, PL.x_par1, PL.x_parP, PL.x_putP0, PL.x_pp1, PL.x_putP, PL.x_app1, PL.x_app2, PL.x_nxB, PL.x_app3, PL.x_appS, PL.x_dp1, PL.x_dp2, PL.x_dp3, PL.x_dp4, PL.x_dputS, PL.x_keyI, PL.x_keyS, PL.x_up1, PL.x_up2, PL.x_up3, PL.x_updS, PL.x_for1, PL.x_forS, PL.x_RTr, PL.x_RTn, PL.x_rf1, PL.x_runF, PL.x_RMr, PL.x_RMn, PL.x_MIo, PL.x_ioOf, PL.x_rm1, PL.x_runM, PL.x_putR, PL.x_putR0f, PL.x_putR0l, PL.x_putR0d, PL.x_putR0n, PL.x_noIof, PL.x_noIol, PL.x_noIod, PL.x_noIon, PL.x_tgN, PL.x_tgT, PL.x_putAll0, PL.x_pa1, PL.x_putAll, PL.x_dAt, PL.x_dSlo, PL.x_dSli, PL.x_dPut, PL.x_dPuo, PL.x_dPui, PL.x_lAt, PL.x_lSl, PL.x_envOf, PL.x_envM, PL.x_toDl, PL.x_toDd, PL.x_toDf, PL.x_nof, PL.x_nol, PL.x_nod, PL.x_okW, PL.x_wipe0, PL.x_wipe, PL.x_yesT, PL.n_add, PL.n_mul, PL.n_mod, PL.n_div, PL.n_sub, PL.n_lt, PL.n_le, PL.n_eq, PL.d_t, PL.d_f, PL.y_add, PL.y_sub, PL.y_mod, PL.y_div, PL.y_mulL, PL.y_mulR, PL.y_lt, PL.y_le, PL.y_gt, PL.y_ge, PL.y_cmp, PL.y_eq, PL.y_ne, PL.y_int, PL.y_notD, PL.y_truB, PL.y_neg, PL.y_isi_n, PL.y_isi_b, PL.y_isi_i, PL.y_isi_s, PL.y_isi_l, PL.y_isi_t, PL.y_isi_d, PL.y_isi_c, PL.l_len, PL.l_lenT, PL.l_it, PL.l_itT, PL.l_tuple, PL.l_list, PL.l_listL, PL.l_ix, PL.l_ixT, PL.l_sum, PL.l_eq, PL.l_ne, PL.l_eq0, PL.l_ne0, PL.l_eqT, PL.l_in, PL.l_nin, PL.l_cat, PL.l_catT, PL.l_stp, PL.l_rng1, PL.l_rng2, PL.x_fb, PL.x_fb1, PL.l_eq00, PL.l_ne00, PL.l_eq01, PL.l_ne01, PL.l_lenS, PL.x_ODof, PL.x_dc2, PL.x_dc1, PL.x_dcO, PL.l_nin_tk, PL.l_in_tk, PL.l_min, PL.l_slT, PL.l_slL, PL.l_rng3, PL.x_rgl2, PL.x_rgl1, PL.x_rgList, PL.x_rgTup, PL.x_gp3, PL.x_gp2, PL.x_gp1, PL.x_getP, PL.x_mt2, PL.x_mt1, PL.x_meth1, PL.l_isL, PL.x_XRo, PL.x_XRe, PL.x_calX, PL.x_calXe, PL.x_callX, PL.x_rai1, PL.x_rai, PL.x_try3, PL.x_try2, PL.x_try2f, PL.x_try1, PL.x_try1r, PL.x_try1n, PL.x_tryR, PL.x_exu1, PL.x_exb1, PL.x_exc1, PL.x_exc2, PL.x_exm1, PL.x_exSB, PL.x_exr1, PL.x_exe1, PL.x_exi1, PL.x_exRT, List.getElem?_cons_zero, List.getElem?_cons_succ, List.set_cons_zero, List.set_cons_succ, List.length_cons, List.length_nil, List.map_cons, List.map_nil, List.replicate_succ, List.replicate_zero, List.cons_append, List.nil_append, Nat.zero_add, Nat.add_zero, Nat.reduceAdd, Nat.reduceSub, Nat.reduceMul, Nat.reduceLT, Nat.reduceEqDiff, Bool.not_true, Bool.not_false, Bool.true_and, Bool.false_and, Bool.and_true, Bool.and_false, Bool.true_or, Bool.false_or, Bool.or_true, Bool.or_false, List.all_cons, List.all_nil, PL.nl_len, List.length_map, List.length_range, isiT, tyD, Option.map_some, Option.map_none, ne_eq, not_false_eq_true, not_true_eq_false, decide_true, decide_false, eq_self, implies_true, gt_iff_lt, ge_iff_le, m_keeps_remainders, b_keeps_remainders, h1, h2, h3, h4, h5, h6]
  rfl
/-! the law's own sums of blocks -/
theorem l_rev (ds : List Dt) : revA (.lst ds) = some (.lst ds.reverse) := rfl
theorem rng3c {L c : Nat} (hc : 1 ≤ c) (hc2 : c < 2 ^ 20) (hL : L < 2 ^ 20) : rngD3 [.int (0 : Nat), .int (L : Nat), .int (c : Nat)] = some (nl ((List.range ((L + c - 1) / c)).map fun i => i * c)) := by
  unfold rngD3
  dsimp only
  rw [if_pos ⟨by omega, by omega, by omega, by omega, by omega, by omega⟩]
  have e : (if ((0 : Nat) : Int) < ((L : Nat) : Int) then (((L : Nat) : Int) - ((0 : Nat) : Int) - 1) / (c : Int) + 1 else 0).toNat = (L + c - 1) / c := by
    by_cases h : 0 < L
    · rw [if_pos (by omega)]
      have e1 : ((L : Nat) : Int) - ((0 : Nat) : Int) - 1 = ((L - 1 : Nat) : Int) := by omega
      rw [e1]
      show ((((L - 1) / c : Nat) : Int) + 1).toNat = _
      have e2 : L + c - 1 = (L - 1) + c := by omega
      rw [e2, Nat.add_div_right _ (by omega)]
      rfl
    · have : L = 0 := by omega
      subst this
      rw [if_neg (by omega), Nat.zero_add, Nat.div_eq_of_lt (by omega)]
      rfl
  rw [e]
  unfold nl
  rw [List.map_map]
  congr 1
  refine List.map_congr_left fun i _ => ?_
  show Dt.int (((0 : Nat) : Int) + (i : Int) * (c : Int)) = Dt.int ((i * c : Nat) : Int)
  congr 1
  rw [n_mul]
  omega
abbrev hv (b : Nat) (l : List Nat) (B : Nat) : Nat := l.foldl (fun B d => B * b + d) B
theorem hv_lin (b : Nat) : ∀ (l : List Nat) (B : Nat), hv b l B = B * b ^ l.length + hv b l 0
  | [], B => by show B = B * b ^ 0 + 0; rw [Nat.pow_zero]; omega
  | d :: l, B => by
    show hv b l (B * b + d) = _
    have h1 := hv_lin b l (B * b + d)
    have h2 := hv_lin b l (0 * b + d)
    show hv b l (B * b + d) = B * b ^ (l.length + 1) + hv b l (0 * b + d)
    rw [h1, h2, Nat.pow_succ, Nat.add_mul, Nat.add_mul, Nat.zero_mul, Nat.zero_mul, Nat.mul_assoc B, Nat.mul_comm b]
    omega
abbrev dgl (b x n : Nat) : List Nat := (List.range n).map fun i => x / b ^ i % b
theorem hv_rev (b y : Nat) : ∀ c, hv b (dgl b y c).reverse 0 = y % b ^ c
  | 0 => by show 0 = y % b ^ 0; rw [Nat.pow_zero, Nat.mod_one]
  | c + 1 => by
    show hv b ((List.range (c + 1)).map fun i => y / b ^ i % b).reverse 0 = _
    rw [List.range_succ, List.map_append, List.reverse_append]
    show hv b (dgl b y c).reverse (0 * b + y / b ^ c % b) = _
    rw [hv_lin, hv_rev b y c, List.length_reverse, List.length_map, List.length_range, Nat.zero_mul, Nat.zero_add, Nat.mod_pow_succ, Nat.mul_comm (b ^ c)]
    omega
theorem dgl_cut (b x len i c : Nat) : ((dgl b x len).drop i).take c = dgl b (x / b ^ i) (min c (len - i)) := by
  refine List.ext_getElem? fun j => ?_
  rw [List.getElem?_take, List.getElem?_drop, List.getElem?_map, List.getElem?_map]
  by_cases hj : j < c
  · rw [if_pos hj]
    by_cases h2 : i + j < len
    · rw [List.getElem?_range h2, List.getElem?_range (show j < min c (len - i) by omega)]
      show some (x / b ^ (i + j) % b) = some (x / b ^ i / b ^ j % b)
      rw [Nat.pow_add, Nat.div_div_eq_div_mul]
    · rw [List.getElem?_eq_none (by rw [List.length_range]; omega), List.getElem?_eq_none (by rw [List.length_range]; omega)]
      rfl
  · rw [if_neg hj, List.getElem?_eq_none (by rw [List.length_range]; omega)]
    rfl
/-- the sum of the first blocks -/
def fsB (S : Nat) (w : Int) (x : Nat) : Nat → Int
  | 0 => 0
  | i + 1 => fsB S w x i + w ^ i * ((x / S ^ i % S : Nat) : Int)
theorem bsR_sum (S : Nat) (w : Int) (x : Nat) : ∀ (i K : Nat), i ≤ K → bsR S w K x = fsB S w x i + w ^ i * bsR S w (K - i) (x / S ^ i)
  | 0, K, _ => by
    show _ = 0 + w ^ 0 * bsR S w K (x / S ^ 0)
    rw [Nat.pow_zero, Nat.div_one, Int.pow_zero, Int.one_mul, Int.zero_add]
  | i + 1, K, h => by
    have ih := bsR_sum S w x i K (by omega)
    obtain ⟨k, hk⟩ : ∃ k, K - i = k + 1 := ⟨K - i - 1, by omega⟩
    rw [hk, bsR_step, Nat.div_div_eq_div_mul, ← Nat.pow_succ] at ih
    rw [show K - (i + 1) = k by omega, ih]
    show _ = fsB S w x i + w ^ i * ((x / S ^ i % S : Nat) : Int) + w ^ (i + 1) * bsR S w k (x / S ^ (i + 1))
    rw [Int.mul_add, ← Int.mul_assoc, ← Int.pow_succ, Int.add_assoc]
theorem bsR_end {S : Nat} {w : Int} {x i K : Nat} (h : i ≤ K) (h0 : x / S ^ i = 0) : bsR S w K x = fsB S w x i := by
  rw [bsR_sum S w x i K h, h0, bsR_zero, Int.mul_zero, Int.add_zero]
theorem block_val {b c x len i : Nat} (hb : 2 ≤ b) (h0 : x / b ^ len = 0) : hv b (((dgl b x len).drop (i * c)).take c).reverse 0 = x / (b ^ c) ^ i % b ^ c := by
  rw [dgl_cut, hv_rev, ← Nat.pow_mul, Nat.mul_comm c i]
  by_cases h : c ≤ len - i * c
  · rw [Nat.min_eq_left h]
  · rw [Nat.min_eq_right (by omega)]
    have hx : x < b ^ len := by
      rcases Nat.div_eq_zero_iff.mp h0 with z | z
      · have := Nat.pow_pos (n := len) (show 0 < b by omega)
        omega
      · exact z
    by_cases h2 : i * c ≤ len
    · have h3 : x / b ^ (i * c) < b ^ (len - i * c) := by
        rw [Nat.div_lt_iff_lt_mul (Nat.pow_pos (by omega)), ← Nat.pow_add, show len - i * c + i * c = len by omega]
        exact hx
      rw [Nat.mod_eq_of_lt h3, Nat.mod_eq_of_lt (Nat.lt_of_lt_of_le h3 (Nat.pow_le_pow_right (by omega) (by omega)))]
    · have h3 : x / b ^ (i * c) = 0 := Nat.div_eq_of_lt (Nat.lt_of_lt_of_le hx (Nat.pow_le_pow_right (by omega) (by omega)))
      rw [h3, Nat.zero_mod, Nat.zero_mod]
theorem lsum_ok {b c x : Nat} {w : Int} (hb : 2 ≤ b ∧ b ≤ 1000) (hc : 1 ≤ c ∧ c ≤ 6) (hw : -1000 ≤ w ∧ w ≤ 1000) (hx : x ≤ 10 ^ 60) : m__law_sum [.int b, .int c, .int w, .int x] = .ok (.fr (.int (bsR (b ^ c) w 200 x))) := by
  obtain ⟨ρ', h1, len, hlen, h0, rfl⟩ := wh_P (c := tstF (bin gtD (var 6) (cst (.int (0 : Nat))))) (bd := seqS (appS 5 (bin modD (un intD (pkF 6)) (pkF 0))) (setS 6 (bin fdivD (var 6) (pkF 0))))
    (fun q ρ => ∃ j, x / b ^ j < 2 ^ q ∧ j + q ≤ 200 ∧ ρ = [I b, I c, I w, I x, none, some (.ol (nl (dgl b x j))), I (x / b ^ j : Nat), none, none, none, none])
    (fun ρ => ∃ len, len ≤ 200 ∧ x / b ^ len = 0 ∧ ρ = [I b, I c, I w, I x, none, some (.ol (nl (dgl b x len))), I (0 : Nat), none, none, none, none])
    (by
      rintro q ρ ⟨j, h1, h2, rfl⟩
      by_cases hz : x / b ^ j = 0
      · rw [hz]
        exact .inl ⟨_, by simp -implicitDefEqProofs (disch := (first | omega | assumption)) only [PL.x_Rof, PL.x_cst, PL.x_var, PL.x_var1f, PL.x_var1l, PL.x_var1d, PL.x_pk, PL.x_pk1f, PL.x_pk1l, PL.x_pk1d, PL.x_pk1i, PL.x_pkF, PL.x_un1, PL.x_un, PL.x_truF, PL.x_bOf, PL.x_tstF, PL.x_notT, PL.x_bin1, PL.x_bin, PL.x_bp3, PL.x_bp2, PL.x_bp1, PL.x_binP, PL.x_andT, PL.x_orT, PL.x_and1t, PL.x_and1f, PL.x_or1t, PL.x_or1f, PL.x_andV, PL.x_orV, PL.x_andV1t, PL.x_andV1f, PL.x_orV1t, PL.x_orV1f, PL.x_ifE, PL.x_ifE1t, PL.x_ifE1f, PL.x_chainD, PL.x_ch1, PL.x_ch2, PL.x_ch3t, PL.x_ch3f, PL.x_nilA, PL.x_consA, PL.x_cons1, PL.x_cons2, PL.x_few, PL.x_mk1, PL.x_tupD, PL.x_lstD, PL.x_lstO, PL.x_dctO0, PL.x_frO, PL.x_cb, PL.x_noP, PL.x_iOf, PL.x_someP, PL.x_sl31, PL.x_sl32, PL.x_sl3, PL.x_slK1, PL.x_slK, PL.x_frF, PL.x_frS, PL.x_cal1, PL.x_callF, PL.x_callO, PL.x_FMof, PL.x_cm1, PL.x_cm2, PL.x_cm3, PL.x_callM, PL.x_FMO, PL.x_cmo1, PL.x_cmo2, PL.x_callMO, PL.x_frzR, PL.x_itF, PL.x_rngF, PL.x_OLof, PL.x_lc2, PL.x_lc1, PL.x_lcO, PL.x_cat1, PL.x_catO, PL.x_cp1, PL.x_cp2, PL.x_cp3, PL.x_catPO, PL.x_SBn, PL.x_SBr, PL.x_skipS, PL.x_badS, PL.x_seqS, PL.x_nxO, PL.x_set1, PL.x_setS, PL.x_setO1f, PL.x_setO1l, PL.x_setO1d, PL.x_setOS, PL.x_ret1, PL.x_retO1, PL.x_exp1, PL.x_retS, PL.x_retOS, PL.x_exprS, PL.x_ifS, PL.x_if1t, PL.x_if1f, PL.x_asg1, PL.x_asgS, PL.x_argsP0, PL.x_ap1f, PL.x_ap1l, PL.x_ap1d, PL.x_ap2, PL.x_argsP, PL.x_par1, PL.x_parP, PL.x_putP0, PL.x_pp1, PL.x_putP, PL.x_app1, PL.x_app2, PL.x_nxB, PL.x_app3, PL.x_appS, PL.x_dp1, PL.x_dp2, PL.x_dp3, PL.x_dp4, PL.x_dputS, PL.x_keyI, PL.x_keyS, PL.x_up1, PL.x_up2, PL.x_up3, PL.x_updS, PL.x_for1, PL.x_forS, PL.x_RTr, PL.x_RTn, PL.x_rf1, PL.x_runF, PL.x_RMr, PL.x_RMn, PL.x_MIo, PL.x_ioOf, PL.x_rm1, PL.x_runM, PL.x_putR, PL.x_putR0f, PL.x_putR0l, PL.x_putR0d, PL.x_putR0n, PL.x_noIof, PL.x_noIol, PL.x_noIod, PL.x_noIon, PL.x_tgN, PL.x_tgT, PL.x_putAll0, PL.x_pa1, PL.x_putAll, PL.x_dAt, PL.x_dSlo, PL.x_dSli, PL.x_dPut, PL.x_dPuo, PL.x_dPui, PL.x_lAt, PL.x_lSl, PL.x_envOf, PL.x_envM, PL.x_toDl, PL.x_toDd, PL.x_toDf, PL.x_nof, PL.x_nol, PL.x_nod, PL.x_okW, PL.x_wipe0, PL.x_wipe, PL.x_yesT, PL.n_add, PL.n_mul, PL.n_mod, PL.n_div, PL.n_sub, PL.n_lt, PL.n_le, PL.n_eq, PL.d_t, PL.d_f, PL.y_add, PL.y_sub, PL.y_mod, PL.y_div, PL.y_mulL, PL.y_mulR, PL.y_lt, PL.y_le, PL.y_gt, PL.y_ge, PL.y_cmp, PL.y_eq, PL.y_ne, PL.y_int, PL.y_notD, PL.y_truB, PL.y_neg, PL.y_isi_n, PL.y_isi_b, PL.y_isi_i, PL.y_isi_s, PL.y_isi_l, PL.y_isi_t, PL.y_isi_d, PL.y_isi_c, PL.l_len, PL.l_lenT, PL.l_it, PL.l_itT, PL.l_tuple, PL.l_list, PL.l_listL, PL.l_ix, PL.l_ixT, PL.l_sum, PL.l_eq, PL.l_ne, PL.l_eq0, PL.l_ne0, PL.l_eqT, PL.l_in, PL.l_nin, PL.l_cat, PL.l_catT, PL.l_stp, PL.l_rng1, PL.l_rng2, PL.x_fb, PL.x_fb1, PL.l_eq00, PL.l_ne00, PL.l_eq01, PL.l_ne01, PL.l_lenS, PL.x_ODof, PL.x_dc2, PL.x_dc1, PL.x_dcO, PL.l_nin_tk, PL.l_in_tk, PL.l_min, PL.l_slT, PL.l_slL, PL.l_rng3, PL.x_rgl2, PL.x_rgl1, PL.x_rgList, PL.x_rgTup, PL.x_gp3, PL.x_gp2, PL.x_gp1, PL.x_getP, PL.x_mt2, PL.x_mt1, PL.x_meth1, PL.l_isL, PL.x_XRo, PL.x_XRe, PL.x_calX, PL.x_calXe, PL.x_callX, PL.x_rai1, PL.x_rai, PL.x_try3, PL.x_try2, PL.x_try2f, PL.x_try1, PL.x_try1r, PL.x_try1n, PL.x_tryR, PL.x_exu1, PL.x_exb1, PL.x_exc1, PL.x_exc2, PL.x_exm1, PL.x_exSB, PL.x_exr1, PL.x_exe1, PL.x_exi1, PL.x_exRT, List.getElem?_cons_zero, List.getElem?_cons_succ, List.set_cons_zero, List.set_cons_succ, List.length_cons, List.length_nil, List.map_cons, List.map_nil, List.replicate_succ, List.replicate_zero, List.cons_append, List.nil_append, Nat.zero_add, Nat.add_zero, Nat.reduceAdd, Nat.reduceSub, Nat.reduceMul, Nat.reduceLT, Nat.reduceEqDiff, Bool.not_true, Bool.not_false, Bool.true_and, Bool.false_and, Bool.and_true, Bool.and_false, Bool.true_or, Bool.false_or, Bool.or_true, Bool.or_false, List.all_cons, List.all_nil, PL.nl_len, List.length_map, List.length_range, isiT, tyD, Option.map_some, Option.map_none, ne_eq, not_false_eq_true, not_true_eq_false, decide_true, decide_false, eq_self, implies_true, gt_iff_lt, ge_iff_le], j, by omega, hz, rfl⟩
      · obtain ⟨q, rfl⟩ : ∃ q', q = q' + 1 := ⟨q - 1, by
          have : q ≠ 0 := fun z => by
            subst z
            rw [Nat.pow_zero] at h1
            exact hz (Nat.lt_one_iff.mp h1)
          omega⟩
        have h3 : nl (dgl b x j) ++ [.int (x / b ^ j % b : Nat)] = nl (dgl b x (j + 1)) := by
          show _ = nl ((List.range (j + 1)).map fun i => x / b ^ i % b)
          rw [List.range_succ, List.map_append, nl_app]
          rfl
        have h4 : x / b ^ j / b = x / b ^ (j + 1) := by rw [Nat.div_div_eq_div_mul, Nat.pow_succ]
        have h5 : (dgl b x j).length = j := by rw [List.length_map, List.length_range]
        have h6 := div_half hb.1 h1
        rw [h4] at h6
        refine .inr ⟨q, [I b, I c, I w, I x, none, some (.ol (nl (dgl b x j))), I (x / b ^ j : Nat), none, none, none, none], [I b, I c, I w, I x, none, some (.ol (nl (dgl b x (j + 1)))), I (x / b ^ (j + 1) : Nat), none, none, none, none], ?_, ?_, ⟨j + 1, h6, by omega, rfl⟩, by omega⟩
        · generalize x / b ^ j = y at hz ⊢
          generalize dgl b x j = ds
          simp -implicitDefEqProofs (disch := (first | omega | assumption)) only [PL.x_Rof, PL.x_cst, PL.x_var, PL.x_var1f, PL.x_var1l, PL.x_var1d, PL.x_pk, PL.x_pk1f, PL.x_pk1l, PL.x_pk1d, PL.x_pk1i, PL.x_pkF, PL.x_un1, PL.x_un, PL.x_truF, PL.x_bOf, PL.x_tstF, PL.x_notT, PL.x_bin1, PL.x_bin, PL.x_bp3, PL.x_bp2, PL.x_bp1, PL.x_binP, PL.x_andT, PL.x_orT, PL.x_and1t, PL.x_and1f, PL.x_or1t, PL.x_or1f, PL.x_andV, PL.x_orV, PL.x_andV1t, PL.x_andV1f, PL.x_orV1t, PL.x_orV1f, PL.x_ifE, PL.x_ifE1t, PL.x_ifE1f, PL.x_chainD, PL.x_ch1, PL.x_ch2, PL.x_ch3t, PL.x_ch3f, PL.x_nilA, PL.x_consA, PL.x_cons1, PL.x_cons2, PL.x_few, PL.x_mk1, PL.x_tupD, PL.x_lstD, PL.x_lstO, PL.x_dctO0, PL.x_frO, PL.x_cb, PL.x_noP, PL.x_iOf, PL.x_someP, PL.x_sl31, PL.x_sl32, PL.x_sl3, PL.x_slK1, PL.x_slK, PL.x_frF, PL.x_frS, PL.x_cal1, PL.x_callF, PL.x_callO, PL.x_FMof, PL.x_cm1, PL.x_cm2, PL.x_cm3, PL.x_callM, PL.x_FMO, PL.x_cmo1, PL.x_cmo2, PL.x_callMO, PL.x_frzR, PL.x_itF, PL.x_rngF, PL.x_OLof, PL.x_lc2, PL.x_lc1, PL.x_lcO, PL.x_cat1, PL.x_catO, PL.x_cp1, PL.x_cp2, PL.x_cp3, PL.x_catPO, PL.x_SBn, PL.x_SBr, PL.x_skipS, PL.x_badS, PL.x_seqS, PL.x_nxO, PL.x_set1, PL.x_setS, PL.x_setO1f, PL.x_setO1l, PL.x_setO1d, PL.x_setOS, PL.x_ret1, PL.x_retO1, PL.x_exp1, PL.x_retS, PL.x_retOS, PL.x_exprS, PL.x_ifS, PL.x_if1t, PL.x_if1f, PL.x_asg1, PL.x_asgS, PL.x_argsP0, PL.x_ap1f, PL.x_ap1l, PL.x_ap1d, PL.x_ap2, PL.x_argsP, PL.x_par1, PL.x_parP, PL.x_putP0, PL.x_pp1, PL.x_putP, PL.x_app1, PL.x_app2, PL.x_nxB, PL.x_app3, PL.x_appS, PL.x_dp1, PL.x_dp2, PL.x_dp3, PL.x_dp4, PL.x_dputS, PL.x_keyI, PL.x_keyS, PL.x_up1, PL.x_up2, PL.x_up3, PL.x_updS, PL.x_for1, PL.x_forS, PL.x_RTr, PL.x_RTn, PL.x_rf1, PL.x_runF, PL.x_RMr, PL.x_RMn, PL.x_MIo, PL.x_ioOf, PL.x_rm1, PL.x_runM, PL.x_putR, PL.x_putR0f, PL.x_putR0l, PL.x_putR0d, PL.x_putR0n, PL.x_noIof, PL.x_noIol, PL.x_noIod, PL.x_noIon, PL.x_tgN, PL.x_tgT, PL.x_putAll0, PL.x_pa1, PL.x_putAll, PL.x_dAt, PL.x_dSlo, PL.x_dSli, PL.x_dPut, PL.x_dPuo, PL.x_dPui, PL.x_lAt, PL.x_lSl, PL.x_envOf, PL.x_envM, PL.x_toDl, PL.x_toDd, PL.x_toDf, PL.x_nof, PL.x_nol, PL.x_nod, PL.x_okW, PL.x_wipe0, PL.x_wipe, PL.x_yesT, PL.n_add, PL.n_mul, PL.n_mod, PL.n_div, PL.n_sub, PL.n_lt, PL.n_le, PL.n_eq, PL.d_t, PL.d_f, PL.y_add, PL.y_sub, PL.y_mod, PL.y_div, PL.y_mulL, PL.y_mulR, PL.y_lt, PL.y_le, PL.y_gt, PL.y_ge, PL.y_cmp, PL.y_eq, PL.y_ne, PL.y_int, PL.y_notD, PL.y_truB, PL.y_neg, PL.y_isi_n, PL.y_isi_b, PL.y_isi_i, PL.y_isi_s, PL.y_isi_l, PL.y_isi_t, PL.y_isi_d, PL.y_isi_c, PL.l_len, PL.l_lenT, PL.l_it, PL.l_itT, PL.l_tuple, PL.l_list, PL.l_listL, PL.l_ix, PL.l_ixT, PL.l_sum, PL.l_eq, PL.l_ne, PL.l_eq0, PL.l_ne0, PL.l_eqT, PL.l_in, PL.l_nin, PL.l_cat, PL.l_catT, PL.l_stp, PL.l_rng1, PL.l_rng2, PL.x_fb, PL.x_fb1, PL.l_eq00, PL.l_ne00, PL.l_eq01, PL.l_ne01, PL.l_lenS, PL.x_ODof, PL.x_dc2, PL.x_dc1, PL.x_dcO, PL.l_nin_tk, PL.l_in_tk, PL.l_min, PL.l_slT, PL.l_slL, PL.l_rng3, PL.x_rgl2, PL.x_rgl1, PL.x_rgList, PL.x_rgTup, PL.x_gp3, PL.x_gp2, PL.x_gp1, PL.x_getP, PL.x_mt2, PL.x_mt1, PL.x_meth1, PL.l_isL, PL.x_XRo, PL.x_XRe, PL.x_calX, PL.x_calXe, PL.x_callX, PL.x_rai1, PL.x_rai, PL.x_try3, PL.x_try2, PL.x_try2f, PL.x_try1, PL.x_try1r, PL.x_try1n, PL.x_tryR, PL.x_exu1, PL.x_exb1, PL.x_exc1, PL.x_exc2, PL.x_exm1, PL.x_exSB, PL.x_exr1, PL.x_exe1, PL.x_exi1, PL.x_exRT, List.getElem?_cons_zero, List.getElem?_cons_succ, List.set_cons_zero, List.set_cons_succ, List.length_cons, List.length_nil, List.map_cons, List.map_nil, List.replicate_succ, List.replicate_zero, List.cons_append, List.nil_append, Nat.zero_add, Nat.add_zero, Nat.reduceAdd, Nat.reduceSub, Nat.reduceMul, Nat.reduceLT, Nat.reduceEqDiff, Bool.not_true, Bool.not_false, Bool.true_and, Bool.false_and, Bool.and_true, Bool.and_false, Bool.true_or, Bool.false_or, Bool.or_true, Bool.or_false, List.all_cons, List.all_nil, PL.nl_len, List.length_map, List.length_range, isiT, tyD, Option.map_some, Option.map_none, ne_eq, not_false_eq_true, not_true_eq_false, decide_true, decide_false, eq_self, implies_true, gt_iff_lt, ge_iff_le]
        · rw [← h4]
          generalize x / b ^ j = y at h3 ⊢
          generalize nl (dgl b x (j + 1)) = D2 at h3 ⊢
          generalize dgl b x j = ds at h3 h5
          simp -implicitDefEqProofs (disch := (first | omega | assumption)) only [PL.x_Rof, PL.x_cst, PL.x_var, PL.x_var1f, PL.x_var1l, PL.x_var1d, PL.x_pk, PL.x_pk1f, PL.x_pk1l, PL.x_pk1d, PL.x_pk1i, PL.x_pkF, PL.x_un1, PL.x_un, PL.x_truF, PL.x_bOf, PL.x_tstF, PL.x_notT, PL.x_bin1, PL.x_bin, PL.x_bp3, PL.x_bp2, PL.x_bp1, PL.x_binP, PL.x_andT, PL.x_orT, PL.x_and1t, PL.x_and1f, PL.x_or1t, PL.x_or1f, PL.x_andV, PL.x_orV, PL.x_andV1t, PL.x_andV1f, PL.x_orV1t, PL.x_orV1f, PL.x_ifE, PL.x_ifE1t, PL.x_ifE1f, PL.x_chainD, PL.x_ch1, PL.x_ch2, PL.x_ch3t, PL.x_ch3f, PL.x_nilA, PL.x_consA, PL.x_cons1, PL.x_cons2, PL.x_few, PL.x_mk1, PL.x_tupD, PL.x_lstD, PL.x_lstO, PL.x_dctO0, PL.x_frO, PL.x_cb, PL.x_noP, PL.x_iOf, PL.x_someP, PL.x_sl31, PL.x_sl32, PL.x_sl3, PL.x_slK1, PL.x_slK, PL.x_frF, PL.x_frS, PL.x_cal1, PL.x_callF, PL.x_callO, PL.x_FMof, PL.x_cm1, PL.x_cm2, PL.x_cm3, PL.x_callM, PL.x_FMO, PL.x_cmo1, PL.x_cmo2, PL.x_callMO, PL.x_frzR, PL.x_itF, PL.x_rngF, PL.x_OLof, PL.x_lc2, PL.x_lc1, PL.x_lcO, PL.x_cat1, PL.x_catO, PL.x_cp1, PL.x_cp2, PL.x_cp3, PL.x_catPO, PL.x_SBn, PL.x_SBr, PL.x_skipS, PL.x_badS, PL.x_seqS, PL.x_nxO, PL.x_set1, PL.x_setS, PL.x_setO1f, PL.x_setO1l, PL.x_setO1d, PL.x_setOS, PL.x_ret1, PL.x_retO1, PL.x_exp1, PL.x_retS, PL.x_retOS, PL.x_exprS, PL.x_ifS, PL.x_if1t, PL.x_if1f, PL.x_asg1, PL.x_asgS, PL.x_argsP0, PL.x_ap1f, PL.x_ap1l, PL.x_ap1d, PL.x_ap2, PL.x_argsP, PL.x_par1, PL.x_parP, PL.x_putP0, PL.x_pp1, PL.x_putP, PL.x_app1, PL.x_app2, PL.x_nxB, PL.x_app3, PL.x_appS, PL.x_dp1, PL.x_dp2, PL.x_dp3, PL.x_dp4, PL.x_dputS, PL.x_keyI, PL.x_keyS, PL.x_up1, PL.x_up2, PL.x_up3, PL.x_updS, PL.x_for1, PL.x_forS, PL.x_RTr, PL.x_RTn, PL.x_rf1, PL.x_runF, PL.x_RMr, PL.x_RMn, PL.x_MIo, PL.x_ioOf, PL.x_rm1, PL.x_runM, PL.x_putR, PL.x_putR0f, PL.x_putR0l, PL.x_putR0d, PL.x_putR0n, PL.x_noIof, PL.x_noIol, PL.x_noIod, PL.x_noIon, PL.x_tgN, PL.x_tgT, PL.x_putAll0, PL.x_pa1, PL.x_putAll, PL.x_dAt, PL.x_dSlo, PL.x_dSli, PL.x_dPut, PL.x_dPuo, PL.x_dPui, PL.x_lAt, PL.x_lSl, PL.x_envOf, PL.x_envM, PL.x_toDl, PL.x_toDd, PL.x_toDf, PL.x_nof, PL.x_nol, PL.x_nod, PL.x_okW, PL.x_wipe0, PL.x_wipe, PL.x_yesT, PL.n_add, PL.n_mul, PL.n_mod, PL.n_div, PL.n_sub, PL.n_lt, PL.n_le, PL.n_eq, PL.d_t, PL.d_f, PL.y_add, PL.y_sub, PL.y_mod, PL.y_div, PL.y_mulL, PL.y_mulR, PL.y_lt, PL.y_le, PL.y_gt, PL.y_ge, PL.y_cmp, PL.y_eq, PL.y_ne, PL.y_int, PL.y_notD, PL.y_truB, PL.y_neg, PL.y_isi_n, PL.y_isi_b, PL.y_isi_i, PL.y_isi_s, PL.y_isi_l, PL.y_isi_t, PL.y_isi_d, PL.y_isi_c, PL.l_len, PL.l_lenT, PL.l_it, PL.l_itT, PL.l_tuple, PL.l_list, PL.l_listL, PL.l_ix, PL.l_ixT, PL.l_sum, PL.l_eq, PL.l_ne, PL.l_eq0, PL.l_ne0, PL.l_eqT, PL.l_in, PL.l_nin, PL.l_cat, PL.l_catT, PL.l_stp, PL.l_rng1, PL.l_rng2, PL.x_fb, PL.x_fb1, PL.l_eq00, PL.l_ne00, PL.l_eq01, PL.l_ne01, PL.l_lenS, PL.x_ODof, PL.x_dc2, PL.x_dc1, PL.x_dcO, PL.l_nin_tk, PL.l_in_tk, PL.l_min, PL.l_slT, PL.l_slL, PL.l_rng3, PL.x_rgl2, PL.x_rgl1, PL.x_rgList, PL.x_rgTup, PL.x_gp3, PL.x_gp2, PL.x_gp1, PL.x_getP, PL.x_mt2, PL.x_mt1, PL.x_meth1, PL.l_isL, PL.x_XRo, PL.x_XRe, PL.x_calX, PL.x_calXe, PL.x_callX, PL.x_rai1, PL.x_rai, PL.x_try3, PL.x_try2, PL.x_try2f, PL.x_try1, PL.x_try1r, PL.x_try1n, PL.x_tryR, PL.x_exu1, PL.x_exb1, PL.x_exc1, PL.x_exc2, PL.x_exm1, PL.x_exSB, PL.x_exr1, PL.x_exe1, PL.x_exi1, PL.x_exRT, List.getElem?_cons_zero, List.getElem?_cons_succ, List.set_cons_zero, List.set_cons_succ, List.length_cons, List.length_nil, List.map_cons, List.map_nil, List.replicate_succ, List.replicate_zero, List.cons_append, List.nil_append, Nat.zero_add, Nat.add_zero, Nat.reduceAdd, Nat.reduceSub, Nat.reduceMul, Nat.reduceLT, Nat.reduceEqDiff, Bool.not_true, Bool.not_false, Bool.true_and, Bool.false_and, Bool.and_true, Bool.and_false, Bool.true_or, Bool.false_or, Bool.or_true, Bool.or_false, List.all_cons, List.all_nil, PL.nl_len, List.length_map, List.length_range, isiT, tyD, Option.map_some, Option.map_none, ne_eq, not_false_eq_true, not_true_eq_false, decide_true, decide_false, eq_self, implies_true, gt_iff_lt, ge_iff_le, h3])
    1000000 200 [I b, I c, I w, I x, none, some (.ol (nl (dgl b x 0))), I (x / b ^ 0 : Nat), none, none, none, none] ⟨0, by rw [Nat.pow_zero, Nat.div_one]; exact Nat.lt_of_le_of_lt hx m60_lt, by omega, rfl⟩ (by omega)
  rw [Nat.pow_zero, Nat.div_one, show nl (dgl b x 0) = [] from rfl] at h1
  have hr := rng3c (L := len) (c := c) hc.1 (by omega) (by omega)
  have hll : (nl (dgl b x len)).length = len := by rw [nl_len, List.length_map, List.length_range]
  have hS63 : b ^ c < 2 ^ 63 := by
    have h1 : b ^ c ≤ 1000 ^ c := Nat.pow_le_pow_left hb.2 c
    have h2 : 1000 ^ c ≤ 1000 ^ 6 := Nat.pow_le_pow_right (by omega) hc.2
    have h3 : (1000 : Nat) ^ 6 < 2 ^ 63 := by decide
    omega
  have hSp : 0 < b ^ c := Nat.pow_pos (by omega)
  have hn : x / (b ^ c) ^ ((len + c - 1) / c) = 0 := by
    rw [← Nat.pow_mul]
    have h3 : len ≤ c * ((len + c - 1) / c) := by
      have := Nat.mod_add_div (len + c - 1) c
      have h4 := Nat.mod_lt (len + c - 1) (show 0 < c by omega)
      omega
    refine Nat.div_eq_of_lt ?_
    rcases Nat.div_eq_zero_iff.mp h0 with z | z
    · have := Nat.pow_pos (n := len) (show 0 < b by omega)
      omega
    · exact Nat.lt_of_lt_of_le z (Nat.pow_le_pow_right (by omega) h3)
  have hcount : (len + c - 1) / c ≤ 200 := by
    have : (len + c - 1) / c ≤ len := by
      by_cases hz : len = 0
      · subst hz
        rw [Nat.zero_add, Nat.div_eq_of_lt (by omega)]
        omega
      · refine Nat.div_le_of_le_mul ?_
        have : c * len ≥ c + len - 1 := by
          obtain ⟨c', rfl⟩ : ∃ c', c = c' + 1 := ⟨c - 1, by omega⟩
          obtain ⟨l', rfl⟩ : ∃ l', len = l' + 1 := ⟨len - 1, by omega⟩
          rw [Nat.succ_mul, Nat.mul_succ]
          omega
        omega
    omega
  rw [bsR_end hcount hn]
  have hval := fun i => block_val (c := c) (i := i) hb.1 h0
  have hblk : ∀ i, x / (b ^ c) ^ i % b ^ c < 2 ^ 63 := fun i => Nat.lt_trans (Nat.mod_lt _ hSp) hS63
  have hm2 : ∀ f : Int, mulD (.int f) (.int w) = some (.int (f * w)) := fun f => o_mulR (by omega) (by omega)
  have hfs : ∀ i, fsB (b ^ c) w x (i + 1) = fsB (b ^ c) w x i + w ^ i * ((x / (b ^ c) ^ i % b ^ c : Nat) : Int) := fun i => rfl
  have hf0 : fsB (b ^ c) w x 0 = ((0 : Nat) : Int) := rfl
  generalize fsB (b ^ c) w x = fs at hfs hf0 ⊢
  generalize b ^ c = S at hval hblk hfs
  generalize hds : dgl b x len = ds at h1 hll hval
  have hcut : ∀ i, cutD (nl ds) (some (((i * c : Nat) : Int))) (some (((i * c + c : Nat) : Int))) = nl ((ds.drop (i * c)).take c) := fun i => by
    rw [cut_nn, nl_drop, nl_take, Nat.add_sub_cancel_left]
  have hinner : ∀ (l : List Nat) (B : Nat) (a0 a1 a2 a3 a4 a5 a6 a7 a8 e10 : Option Sl), a0 = I b → ∃ e10', forL (tgN 10) (setS 9 (bin addD (bin mulD (var 9) (pkF 0)) (pkF 10))) (nl l) [a0, a1, a2, a3, a4, a5, a6, a7, a8, I B, e10] = .nx [a0, a1, a2, a3, a4, a5, a6, a7, a8, I (hv b l B : Nat), e10'] := by
    intro l
    induction l with
    | nil => exact fun B a0 a1 a2 a3 a4 a5 a6 a7 a8 e10 _ => ⟨e10, rfl⟩
    | cons d l ih =>
      intro B a0 a1 a2 a3 a4 a5 a6 a7 a8 e10 ha
      subst ha
      obtain ⟨e10', h⟩ := ih (B * b + d) (I b) a1 a2 a3 a4 a5 a6 a7 a8 (I d) rfl
      refine ⟨e10', ?_⟩
      rw [nl_cons, forL_cons (ρ' := [I b, a1, a2, a3, a4, a5, a6, a7, a8, I (B * b + d : Nat), I d])]
      · exact h
      · simp -implicitDefEqProofs (disch := (first | omega | assumption)) only [PL.x_Rof, PL.x_cst, PL.x_var, PL.x_var1f, PL.x_var1l, PL.x_var1d, PL.x_pk, PL.x_pk1f, PL.x_pk1l, PL.x_pk1d, PL.x_pk1i, PL.x_pkF, PL.x_un1, PL.x_un, PL.x_truF, PL.x_bOf, PL.x_tstF, PL.x_notT, PL.x_bin1, PL.x_bin, PL.x_bp3, PL.x_bp2, PL.x_bp1, PL.x_binP, PL.x_andT, PL.x_orT, PL.x_and1t, PL.x_and1f, PL.x_or1t, PL.x_or1f, PL.x_andV, PL.x_orV, PL.x_andV1t, PL.x_andV1f, PL.x_orV1t, PL.x_orV1f, PL.x_ifE, PL.x_ifE1t, PL.x_ifE1f, PL.x_chainD, PL.x_ch1, PL.x_ch2, PL.x_ch3t, PL.x_ch3f, PL.x_nilA, PL.x_consA, PL.x_cons1, PL.x_cons2, PL.x_few, PL.x_mk1, PL.x_tupD, PL.x_lstD, PL.x_lstO, PL.x_dctO0, PL.x_frO, PL.x_cb, PL.x_noP, PL.x_iOf, PL.x_someP, PL.x_sl31, PL.x_sl32, PL.x_sl3, PL.x_slK1, PL.x_slK, PL.x_frF, PL.x_frS, PL.x_cal1, PL.x_callF, PL.x_callO, PL.x_FMof, PL.x_cm1, PL.x_cm2, PL.x_cm3, PL.x_callM, PL.x_FMO, PL.x_cmo1, PL.x_cmo2, PL.x_callMO, PL.x_frzR, PL.x_itF, PL.x_rngF, PL.x_OLof, PL.x_lc2, PL.x_lc1, PL.x_lcO, PL.x_cat1, PL.x_catO, PL.x_cp1, PL.x_cp2, PL.x_cp3, PL.x_catPO, PL.x_SBn, PL.x_SBr, PL.x_skipS, PL.x_badS, PL.x_seqS, PL.x_nxO, PL.x_set1, PL.x_setS, PL.x_setO1f, PL.x_setO1l, PL.x_setO1d, PL.x_setOS, PL.x_ret1, PL.x_retO1, PL.x_exp1, PL.x_retS, PL.x_retOS, PL.x_exprS, PL.x_ifS, PL.x_if1t, PL.x_if1f, PL.x_asg1, PL.x_asgS, PL.x_argsP0, PL.x_ap1f, PL.x_ap1l, PL.x_ap1d, PL.x_ap2, PL.x_argsP, PL.x_par1, PL.x_parP, PL.x_putP0, PL.x_pp1, PL.x_putP, PL.x_app1, PL.x_app2, PL.x_nxB, PL.x_app3, PL.x_appS, PL.x_dp1, PL.x_dp2, PL.x_dp3, PL.x_dp4, PL.x_dputS, PL.x_keyI, PL.x_keyS, PL.x_up1, PL.x_up2, PL.x_up3, PL.x_updS, PL.x_for1, PL.x_forS, PL.x_RTr, PL.x_RTn, PL.x_rf1, PL.x_runF, PL.x_RMr, PL.x_RMn, PL.x_MIo, PL.x_ioOf, PL.x_rm1, PL.x_runM, PL.x_putR, PL.x_putR0f, PL.x_putR0l, PL.x_putR0d, PL.x_putR0n, PL.x_noIof, PL.x_noIol, PL.x_noIod, PL.x_noIon, PL.x_tgN, PL.x_tgT, PL.x_putAll0, PL.x_pa1, PL.x_putAll, PL.x_dAt, PL.x_dSlo, PL.x_dSli, PL.x_dPut, PL.x_dPuo, PL.x_dPui, PL.x_lAt, PL.x_lSl, PL.x_envOf, PL.x_envM, PL.x_toDl, PL.x_toDd, PL.x_toDf, PL.x_nof, PL.x_nol, PL.x_nod, PL.x_okW, PL.x_wipe0, PL.x_wipe, PL.x_yesT, PL.n_add, PL.n_mul, PL.n_mod, PL.n_div, PL.n_sub, PL.n_lt, PL.n_le, PL.n_eq, PL.d_t, PL.d_f, PL.y_add, PL.y_sub, PL.y_mod, PL.y_div, PL.y_mulL, PL.y_mulR, PL.y_lt, PL.y_le, PL.y_gt, PL.y_ge, PL.y_cmp, PL.y_eq, PL.y_ne, PL.y_int, PL.y_notD, PL.y_truB, PL.y_neg, PL.y_isi_n, PL.y_isi_b, PL.y_isi_i, PL.y_isi_s, PL.y_isi_l, PL.y_isi_t, PL.y_isi_d, PL.y_isi_c, PL.l_len, PL.l_lenT, PL.l_it, PL.l_itT, PL.l_tuple, PL.l_list, PL.l_listL, PL.l_ix, PL.l_ixT, PL.l_sum, PL.l_eq, PL.l_ne, PL.l_eq0, PL.l_ne0, PL.l_eqT, PL.l_in, PL.l_nin, PL.l_cat, PL.l_catT, PL.l_stp, PL.l_rng1, PL.l_rng2, PL.x_fb, PL.x_fb1, PL.l_eq00, PL.l_ne00, PL.l_eq01, PL.l_ne01, PL.l_lenS, PL.x_ODof, PL.x_dc2, PL.x_dc1, PL.x_dcO, PL.l_nin_tk, PL.l_in_tk, PL.l_min, PL.l_slT, PL.l_slL, PL.l_rng3, PL.x_rgl2, PL.x_rgl1, PL.x_rgList, PL.x_rgTup, PL.x_gp3, PL.x_gp2, PL.x_gp1, PL.x_getP, PL.x_mt2, PL.x_mt1, PL.x_meth1, PL.l_isL, PL.x_XRo, PL.x_XRe, PL.x_calX, PL.x_calXe, PL.x_callX, PL.x_rai1, PL.x_rai, PL.x_try3, PL.x_try2, PL.x_try2f, PL.x_try1, PL.x_try1r, PL.x_try1n, PL.x_tryR, PL.x_exu1, PL.x_exb1, PL.x_exc1, PL.x_exc2, PL.x_exm1, PL.x_exSB, PL.x_exr1, PL.x_exe1, PL.x_exi1, PL.x_exRT, List.getElem?_cons_zero, List.getElem?_cons_succ, List.set_cons_zero, List.set_cons_succ, List.length_cons, List.length_nil, List.map_cons, List.map_nil, List.replicate_succ, List.replicate_zero, List.cons_append, List.nil_append, Nat.zero_add, Nat.add_zero, Nat.reduceAdd, Nat.reduceSub, Nat.reduceMul, Nat.reduceLT, Nat.reduceEqDiff, Bool.not_true, Bool.not_false, Bool.true_and, Bool.false_and, Bool.and_true, Bool.and_false, Bool.true_or, Bool.false_or, Bool.or_true, Bool.or_false, List.all_cons, List.all_nil, PL.nl_len, List.length_map, List.length_range, isiT, tyD, Option.map_some, Option.map_none, ne_eq, not_false_eq_true, not_true_eq_false, decide_true, decide_false, eq_self, implies_true, gt_iff_lt, ge_iff_le, x_fb, x_fb1]
  simp -implicitDefEqProofs (disch := (first | omega | assumption)) only [PL.x_Rof, PL.x_cst, PL.x_var, PL.x_var1f, PL.x_var1l, PL.x_var1d, PL.x_pk, PL.x_pk1f, PL.x_pk1l, PL.x_pk1d, PL.x_pk1i, PL.x_pkF, PL.x_un1, PL.x_un, PL.x_truF, PL.x_bOf, PL.x_tstF, PL.x_notT, PL.x_bin1, PL.x_bin, PL.x_bp3, PL.x_bp2, PL.x_bp1, PL.x_binP, PL.x_andT, PL.x_orT, PL.x_and1t, PL.x_and1f, PL.x_or1t, PL.x_or1f, PL.x_andV, PL.x_orV, PL.x_andV1t, PL.x_andV1f, PL.x_orV1t, PL.x_orV1f, PL.x_ifE, PL.x_ifE1t, PL.x_ifE1f, PL.x_chainD, PL.x_ch1, PL.x_ch2, PL.x_ch3t, PL.x_ch3f, PL.x_nilA, PL.x_consA, PL.x_cons1, PL.x_cons2, PL.x_few, PL.x_mk1, PL.x_tupD, PL.x_lstD, PL.x_lstO, PL.x_dctO0, PL.x_frO, PL.x_cb, PL.x_noP, PL.x_iOf, PL.x_someP, PL.x_sl31, PL.x_sl32, PL.x_sl3, PL.x_slK1, PL.x_slK, PL.x_frF, PL.x_frS, PL.x_cal1, PL.x_callF, PL.x_callO, PL.x_FMof, PL.x_cm1, PL.x_cm2, PL.x_cm3, PL.x_callM, PL.x_FMO, PL.x_cmo1, PL.x_cmo2, PL.x_callMO, PL.x_frzR, PL.x_itF, PL.x_rngF, PL.x_OLof, PL.x_lc2, PL.x_lc1, PL.x_lcO, PL.x_cat1, PL.x_catO, PL.x_cp1, PL.x_cp2, PL.x_cp3, PL.x_catPO, PL.x_SBn, PL.x_SBr, PL.x_skipS, PL.x_badS, PL.x_seqS, PL.x_nxO, PL.x_set1, PL.x_setS, PL.x_setO1f, PL.x_setO1l, PL.x_setO1d, PL.x_setOS, PL.x_ret1, PL.x_retO1, PL.x_exp1, PL.x_retS, PL.x_retOS, PL.x_exprS, PL.x_ifS, PL.x_if1t, PL.x_if1f, PL.x_asg1, PL.x_asgS, PL.x_argsP0, PL.x_ap1f, PL.x_ap1l, PL.x_ap1d, PL.x_ap2, PL.x_argsP, PL.x_par1, PL.x_parP, PL.x_putP0, PL.x_pp1, PL.x_putP, PL.x_app1, PL.x_app2, PL.x_nxB, PL.x_app3, PL.x_appS, PL.x_dp1, PL.x_dp2, PL.x_dp3, PL.x_dp4, PL.x_dputS, PL.x_keyI, PL.x_keyS, PL.x_up1, PL.x_up2, PL.x_up3, PL.x_updS, PL.x_for1, PL.x_forS, PL.x_RTr, PL.x_RTn, PL.x_rf1, PL.x_runF, PL.x_RMr, PL.x_RMn, PL.x_MIo, PL.x_ioOf, PL.x_rm1, PL.x_runM, PL.x_putR, PL.x_putR0f, PL.x_putR0l, PL.x_putR0d, PL.x_putR0n, PL.x_noIof, PL.x_noIol, PL.x_noIod, PL.x_noIon, PL.x_tgN, PL.x_tgT, PL.x_putAll0, PL.x_pa1, PL.x_putAll, PL.x_dAt, PL.x_dSlo, PL.x_dSli, PL.x_dPut, PL.x_dPuo, PL.x_dPui, PL.x_lAt, PL.x_lSl, PL.x_envOf, PL.x_envM, PL.x_toDl, PL.x_toDd, PL.x_toDf, PL.x_nof, PL.x_nol, PL.x_nod, PL.x_okW, PL.x_wipe0, PL.x_wipe, PL.x_yesT, PL.n_add, PL.n_mul, PL.n_mod, PL.n_div, PL.n_sub, PL.n_lt, PL.n_le, PL.n_eq, PL.d_t, PL.d_f, PL.y_add, PL.y_sub, PL.y_mod, PL.y_div, PL.y_mulL, PL.y_mulR, PL.y_lt, PL.y_le, PL.y_gt, PL.y_ge, PL.y_cmp, PL.y_eq, PL.y_ne, PL.y_int, PL.y_notD, PL.y_truB, PL.y_neg, PL.y_isi_n, PL.y_isi_b, PL.y_isi_i, PL.y_isi_s, PL.y_isi_l, PL.y_isi_t, PL.y_isi_d, PL.y_isi_c, PL.l_len, PL.l_lenT, PL.l_it, PL.l_itT, PL.l_tuple, PL.l_list, PL.l_listL, PL.l_ix, PL.l_ixT, PL.l_sum, PL.l_eq, PL.l_ne, PL.l_eq0, PL.l_ne0, PL.l_eqT, PL.l_in, PL.l_nin, PL.l_cat, PL.l_catT, PL.l_stp, PL.l_rng1, PL.l_rng2, PL.x_fb, PL.x_fb1, PL.l_eq00, PL.l_ne00, PL.l_eq01, PL.l_ne01, PL.l_lenS, PL.x_ODof, PL.x_dc2, PL.x_dc1, PL.x_dcO, PL.l_nin_tk, PL.l_in_tk, PL.l_min, PL.l_slT, PL.l_slL, PL.l_rng3, PL.x_rgl2, PL.x_rgl1, PL.x_rgList, PL.x_rgTup, PL.x_gp3, PL.x_gp2, PL.x_gp1, PL.x_getP, PL.x_mt2, PL.x_mt1, PL.x_meth1, PL.l_isL, PL.x_XRo, PL.x_XRe, PL.x_calX, PL.x_calXe, PL.x_callX, PL.x_rai1, PL.x_rai, PL.x_try3, PL.x_try2, PL.x_try2f, PL.x_try1, PL.x_try1r, PL.x_try1n, PL.x_tryR, PL.x_exu1, PL.x_exb1, PL.x_exc1, PL.x_exc2, PL.x_exm1, PL.x_exSB, PL.x_exr1, PL.x_exe1, PL.x_exi1, PL.x_exRT, List.getElem?_cons_zero, List.getElem?_cons_succ, List.set_cons_zero, List.set_cons_succ, List.length_cons, List.length_nil, List.map_cons, List.map_nil, List.replicate_succ, List.replicate_zero, List.cons_append, List.nil_append, Nat.zero_add, Nat.add_zero, Nat.reduceAdd, Nat.reduceSub, Nat.reduceMul, Nat.reduceLT, Nat.reduceEqDiff, Bool.not_true, Bool.not_false, Bool.true_and, Bool.false_and, Bool.and_true, Bool.and_false, Bool.true_or, Bool.false_or, Bool.or_true, Bool.or_false, List.all_cons, List.all_nil, PL.nl_len, List.length_map, List.length_range, isiT, tyD, Option.map_some, Option.map_none, ne_eq, not_false_eq_true, not_true_eq_false, decide_true, decide_false, eq_self, implies_true, gt_iff_lt, ge_iff_le, m__law_sum, b__law_sum]
  rw [h1]
  simp -implicitDefEqProofs (disch := (first | omega | assumption)) only [PL.x_Rof, PL.x_cst, PL.x_var, PL.x_var1f, PL.x_var1l, PL.x_var1d, PL.x_pk, PL.x_pk1f, PL.x_pk1l, PL.x_pk1d, PL.x_pk1i, PL.x_pkF, PL.x_un1, PL.x_un, PL.x_truF, PL.x_bOf, PL.x_tstF, PL.x_notT, PL.x_bin1, PL.x_bin, PL.x_bp3, PL.x_bp2, PL.x_bp1, PL.x_binP, PL.x_andT, PL.x_orT, PL.x_and1t, PL.x_and1f, PL.x_or1t, PL.x_or1f, PL.x_andV, PL.x_orV, PL.x_andV1t, PL.x_andV1f, PL.x_orV1t, PL.x_orV1f, PL.x_ifE, PL.x_ifE1t, PL.x_ifE1f, PL.x_chainD, PL.x_ch1, PL.x_ch2, PL.x_ch3t, PL.x_ch3f, PL.x_nilA, PL.x_consA, PL.x_cons1, PL.x_cons2, PL.x_few, PL.x_mk1, PL.x_tupD, PL.x_lstD, PL.x_lstO, PL.x_dctO0, PL.x_frO, PL.x_cb, PL.x_noP, PL.x_iOf, PL.x_someP, PL.x_sl31, PL.x_sl32, PL.x_sl3, PL.x_slK1, PL.x_slK, PL.x_frF, PL.x_frS, PL.x_cal1, PL.x_callF, PL.x_callO, PL.x_FMof, PL.x_cm1, PL.x_cm2, PL.x_cm3, PL.x_callM, PL.x_FMO, PL.x_cmo1, PL.x_cmo2, PL.x_callMO, PL.x_frzR, PL.x_itF, PL.x_rngF, PL.x_OLof, PL.x_lc2, PL.x_lc1, PL.x_lcO, PL.x_cat1, PL.x_catO, PL.x_cp1, PL.x_cp2, PL.x_cp3, PL.x_catPO, PL.x_SBn, PL.x_SBr, PL.x_skipS, PL.x_badS, PL.x_seqS, PL.x_nxO, PL.x_set1, PL.x_setS, PL.x_setO1f, PL.x_setO1l, PL.x_setO1d, PL.x_setOS, PL.x_ret1, PL.x_retO1, PL.x_exp1, PL.x_retS, PL.x_retOS, PL.x_exprS, PL.x_ifS, PL.x_if1t, PL.x_if1f, PL.x_asg1, PL.x_asgS, PL.x_argsP0, PL.x_ap1f, PL.x_ap1l, PL.x_ap1d, PL.x_ap2, PL.x_argsP, PL.x_par1, PL.x_parP, PL.x_putP0, PL.x_pp1, PL.x_putP, PL.x_app1, PL.x_app2, PL.x_nxB, PL.x_app3, PL.x_appS, PL.x_dp1, PL.x_dp2, PL.x_dp3, PL.x_dp4, PL.x_dputS, PL.x_keyI, PL.x_keyS, PL.x_up1, PL.x_up2, PL.x_up3, PL.x_updS, PL.x_for1, PL.x_forS, PL.x_RTr, PL.x_RTn, PL.x_rf1, PL.x_runF, PL.x_RMr, PL.x_RMn, PL.x_MIo, PL.x_ioOf, PL.x_rm1, PL.x_runM, PL.x_putR, PL.x_putR0f, PL.x_putR0l, PL.x_putR0d, PL.x_putR0n, PL.x_noIof, PL.x_noIol, PL.x_noIod, PL.x_noIon, PL.x_tgN, PL.x_tgT, PL.x_putAll0, PL.x_pa1, PL.x_putAll, PL.x_dAt, PL.x_dSlo, PL.x_dSli, PL.x_dPut, PL.x_dPuo, PL.x_dPui, PL.x_lAt, PL.x_lSl, PL.x_envOf, PL.x_envM, PL.x_toDl, PL.x_toDd, PL.x_toDf, PL.x_nof, PL.x_nol, PL.x_nod, PL.x_okW, PL.x_wipe0, PL.x_wipe, PL.x_yesT, PL.n_add, PL.n_mul, PL.n_mod, PL.n_div, PL.n_sub, PL.n_lt, PL.n_le, PL.n_eq, PL.d_t, PL.d_f, PL.y_add, PL.y_sub, PL.y_mod, PL.y_div, PL.y_mulL, PL.y_mulR, PL.y_lt, PL.y_le, PL.y_gt, PL.y_ge, PL.y_cmp, PL.y_eq, PL.y_ne, PL.y_int, PL.y_notD, PL.y_truB, PL.y_neg, PL.y_isi_n, PL.y_isi_b, PL.y_isi_i, PL.y_isi_s, PL.y_isi_l, PL.y_isi_t, PL.y_isi_d, PL.y_isi_c, PL.l_len, PL.l_lenT, PL.l_it, PL.l_itT, PL.l_tuple, PL.l_list, PL.l_listL, PL.l_ix, PL.l_ixT, PL.l_sum, PL.l_eq, PL.l_ne, PL.l_eq0, PL.l_ne0, PL.l_eqT, PL.l_in, PL.l_nin, PL.l_cat, PL.l_catT, PL.l_stp, PL.l_rng1, PL.l_rng2, PL.x_fb, PL.x_fb1, PL.l_eq00, PL.l_ne00, PL.l_eq01, PL.l_ne01, PL.l_lenS, PL.x_ODof, PL.x_dc2, PL.x_dc1, PL.x_dcO, PL.l_nin_tk, PL.l_in_tk, PL.l_min, PL.l_slT, PL.l_slL, PL.l_rng3, PL.x_rgl2, PL.x_rgl1, PL.x_rgList, PL.x_rgTup, PL.x_gp3, PL.x_gp2, PL.x_gp1, PL.x_getP, PL.x_mt2, PL.x_mt1, PL.x_meth1, PL.l_isL, PL.x_XRo, PL.x_XRe, PL.x_calX, PL.x_calXe, PL.x_callX, PL.x_rai1, PL.x_rai, PL.x_try3, PL.x_try2, PL.x_try2f, PL.x_try1, PL.x_try1r, PL.x_try1n, PL.x_tryR, PL.x_exu1, PL.x_exb1, PL.x_exc1, PL.x_exc2, PL.x_exm1, PL.x_exSB, PL.x_exr1, PL.x_exe1, PL.x_exi1, PL.x_exRT, List.getElem?_cons_zero, List.getElem?_cons_succ, List.set_cons_zero, List.set_cons_succ, List.length_cons, List.length_nil, List.map_cons, List.map_nil, List.replicate_succ, List.replicate_zero, List.cons_append, List.nil_append, Nat.zero_add, Nat.add_zero, Nat.reduceAdd, Nat.reduceSub, Nat.reduceMul, Nat.reduceLT, Nat.reduceEqDiff, Bool.not_true, Bool.not_false, Bool.true_and, Bool.false_and, Bool.and_true, Bool.and_false, Bool.true_or, Bool.false_or, Bool.or_true, Bool.or_false, List.all_cons, List.all_nil, PL.nl_len, List.length_map, List.length_range, isiT, tyD, Option.map_some, Option.map_none, ne_eq, not_false_eq_true, not_true_eq_false, decide_true, decide_false, eq_self, implies_true, gt_iff_lt, ge_iff_le, hll, hr]
  refine rt_for (fun i ρ => ∃ (s5 e4 e9 e10 : Option Sl), (s5 = some (.ol (nl ds)) ∨ s5 = V (.lst (nl ds))) ∧ ρ = [I b, I c, I w, I x, e4, s5, I (0 : Nat), I (fs i), I (w ^ i), e9, e10]) ⟨_, none, none, none, .inl rfl, by rw [hf0, Int.pow_zero]; rfl⟩ ?_ ?_
  · rintro i t ρ hi ⟨s5, e4, e9, e10, hs5, rfl⟩
    have ht : t = i * c := by
      rw [List.getElem?_map] at hi
      obtain ⟨j, q1, q2⟩ := Option.map_eq_some_iff.mp hi
      have q3 := (List.getElem?_eq_some_iff.mp q1).2
      rw [List.getElem_range] at q3
      rw [← q2, q3]
    subst ht
    have hc1 := hcut i
    have hv1 := hval i
    have hb1 := hblk i
    have hf1 := hfs i
    rw [hf1]
    have hm1 : mulD (.int (w ^ i)) (.int (hv b ((ds.drop (i * c)).take c).reverse 0 : Nat)) = some (.int (w ^ i * ((hv b ((ds.drop (i * c)).take c).reverse 0 : Nat) : Int))) := o_mulR (by omega) (by rw [hv1]; omega)
    have hm3 := hm2 (w ^ i)
    rw [← hv1]
    generalize (ds.drop (i * c)).take c = l at hc1 hv1 hm1 ⊢
    have hrv : (nl l).reverse = nl l.reverse := by unfold nl; rw [List.map_reverse]
    obtain ⟨f10, hin⟩ := hinner l.reverse 0 (I b) (I c) (I w) (I x) (I (i * c : Nat)) (V (.lst (nl ds))) (I (0 : Nat)) (I (fs i)) (I (w ^ i)) e10 rfl
    rw [Int.pow_succ]
    generalize hv b l.reverse 0 = Bv at hin hm1 ⊢
    generalize nl l.reverse = lr at hin hrv
    generalize nl l = ll at hc1 hrv
    generalize nl ds = D at hc1 hin hs5 ⊢
    generalize w ^ i = f at hm1 hm3 hin ⊢
    generalize fs i = F at hin ⊢
    refine ⟨[I b, I c, I w, I x, I (i * c : Nat), V (.lst D), I (0 : Nat), I (F + f * (Bv : Int)), I (f * w), I Bv, f10], ?_, V (.lst D), _, _, _, .inr rfl, rfl⟩
    rcases hs5 with rfl | rfl
    · simp -implicitDefEqProofs (disch := (first | omega | assumption)) only [PL.x_Rof, PL.x_cst, PL.x_var, PL.x_var1f, PL.x_var1l, PL.x_var1d, PL.x_pk, PL.x_pk1f, PL.x_pk1l, PL.x_pk1d, PL.x_pk1i, PL.x_pkF, PL.x_un1, PL.x_un, PL.x_truF, PL.x_bOf, PL.x_tstF, PL.x_notT, PL.x_bin1, PL.x_bin, PL.x_bp3, PL.x_bp2, PL.x_bp1, PL.x_binP, PL.x_andT, PL.x_orT, PL.x_and1t, PL.x_and1f, PL.x_or1t, PL.x_or1f, PL.x_andV, PL.x_orV, PL.x_andV1t, PL.x_andV1f, PL.x_orV1t, PL.x_orV1f, PL.x_ifE, PL.x_ifE1t, PL.x_ifE1f, PL.x_chainD, PL.x_ch1, PL.x_ch2, PL.x_ch3t, PL.x_ch3f, PL.x_nilA, PL.x_consA, PL.x_cons1, PL.x_cons2, PL.x_few, PL.x_mk1, PL.x_tupD, PL.x_lstD, PL.x_lstO, PL.x_dctO0, PL.x_frO, PL.x_cb, PL.x_noP, PL.x_iOf, PL.x_someP, PL.x_sl31, PL.x_sl32, PL.x_sl3, PL.x_slK1, PL.x_slK, PL.x_frF, PL.x_frS, PL.x_cal1, PL.x_callF, PL.x_callO, PL.x_FMof, PL.x_cm1, PL.x_cm2, PL.x_cm3, PL.x_callM, PL.x_FMO, PL.x_cmo1, PL.x_cmo2, PL.x_callMO, PL.x_frzR, PL.x_itF, PL.x_rngF, PL.x_OLof, PL.x_lc2, PL.x_lc1, PL.x_lcO, PL.x_cat1, PL.x_catO, PL.x_cp1, PL.x_cp2, PL.x_cp3, PL.x_catPO, PL.x_SBn, PL.x_SBr, PL.x_skipS, PL.x_badS, PL.x_seqS, PL.x_nxO, PL.x_set1, PL.x_setS, PL.x_setO1f, PL.x_setO1l, PL.x_setO1d, PL.x_setOS, PL.x_ret1, PL.x_retO1, PL.x_exp1, PL.x_retS, PL.x_retOS, PL.x_exprS, PL.x_ifS, PL.x_if1t, PL.x_if1f, PL.x_asg1, PL.x_asgS, PL.x_argsP0, PL.x_ap1f, PL.x_ap1l, PL.x_ap1d, PL.x_ap2, PL.x_argsP, PL.x_par1, PL.x_parP, PL.x_putP0, PL.x_pp1, PL.x_putP, PL.x_app1, PL.x_app2, PL.x_nxB, PL.x_app3, PL.x_appS, PL.x_dp1, PL.x_dp2, PL.x_dp3, PL.x_dp4, PL.x_dputS, PL.x_keyI, PL.x_keyS, PL.x_up1, PL.x_up2, PL.x_up3, PL.x_updS, PL.x_for1, PL.x_forS, PL.x_RTr, PL.x_RTn, PL.x_rf1, PL.x_runF, PL.x_RMr, PL.x_RMn, PL.x_MIo, PL.x_ioOf, PL.x_rm1, PL.x_runM, PL.x_putR, PL.x_putR0f, PL.x_putR0l, PL.x_putR0d, PL.x_putR0n, PL.x_noIof, PL.x_noIol, PL.x_noIod, PL.x_noIon, PL.x_tgN, PL.x_tgT, PL.x_putAll0, PL.x_pa1, PL.x_putAll, PL.x_dAt, PL.x_dSlo, PL.x_dSli, PL.x_dPut, PL.x_dPuo, PL.x_dPui, PL.x_lAt, PL.x_lSl, PL.x_envOf, PL.x_envM, PL.x_toDl, PL.x_toDd, PL.x_toDf, PL.x_nof, PL.x_nol, PL.x_nod, PL.x_okW, PL.x_wipe0, PL.x_wipe, PL.x_yesT, PL.n_add, PL.n_mul, PL.n_mod, PL.n_div, PL.n_sub, PL.n_lt, PL.n_le, PL.n_eq, PL.d_t, PL.d_f, PL.y_add, PL.y_sub, PL.y_mod, PL.y_div, PL.y_mulL, PL.y_mulR, PL.y_lt, PL.y_le, PL.y_gt, PL.y_ge, PL.y_cmp, PL.y_eq, PL.y_ne, PL.y_int, PL.y_notD, PL.y_truB, PL.y_neg, PL.y_isi_n, PL.y_isi_b, PL.y_isi_i, PL.y_isi_s, PL.y_isi_l, PL.y_isi_t, PL.y_isi_d, PL.y_isi_c, PL.l_len, PL.l_lenT, PL.l_it, PL.l_itT, PL.l_tuple, PL.l_list, PL.l_listL, PL.l_ix, PL.l_ixT, PL.l_sum, PL.l_eq, PL.l_ne, PL.l_eq0, PL.l_ne0, PL.l_eqT, PL.l_in, PL.l_nin, PL.l_cat, PL.l_catT, PL.l_stp, PL.l_rng1, PL.l_rng2, PL.x_fb, PL.x_fb1, PL.l_eq00, PL.l_ne00, PL.l_eq01, PL.l_ne01, PL.l_lenS, PL.x_ODof, PL.x_dc2, PL.x_dc1, PL.x_dcO, PL.l_nin_tk, PL.l_in_tk, PL.l_min, PL.l_slT, PL.l_slL, PL.l_rng3, PL.x_rgl2, PL.x_rgl1, PL.x_rgList, PL.x_rgTup, PL.x_gp3, PL.x_gp2, PL.x_gp1, PL.x_getP, PL.x_mt2, PL.x_mt1, PL.x_meth1, PL.l_isL, PL.x_XRo, PL.x_XRe, PL.x_calX, PL.x_calXe, PL.x_callX, PL.x_rai1, PL.x_rai, PL.x_try3, PL.x_try2, PL.x_try2f, PL.x_try1, PL.x_try1r, PL.x_try1n, PL.x_tryR, PL.x_exu1, PL.x_exb1, PL.x_exc1, PL.x_exc2, PL.x_exm1, PL.x_exSB, PL.x_exr1, PL.x_exe1, PL.x_exi1, PL.x_exRT, List.getElem?_cons_zero, List.getElem?_cons_succ, List.set_cons_zero, List.set_cons_succ, List.length_cons, List.length_nil, List.map_cons, List.map_nil, List.replicate_succ, List.replicate_zero, List.cons_append, List.nil_append, Nat.zero_add, Nat.add_zero, Nat.reduceAdd, Nat.reduceSub, Nat.reduceMul, Nat.reduceLT, Nat.reduceEqDiff, Bool.not_true, Bool.not_false, Bool.true_and, Bool.false_and, Bool.and_true, Bool.and_false, Bool.true_or, Bool.false_or, Bool.or_true, Bool.or_false, List.all_cons, List.all_nil, PL.nl_len, List.length_map, List.length_range, isiT, tyD, Option.map_some, Option.map_none, ne_eq, not_false_eq_true, not_true_eq_false, decide_true, decide_false, eq_self, implies_true, gt_iff_lt, ge_iff_le, x_fb, x_fb1, l_slL, hc1, l_rev, hrv, hin, hm1, hm3]
    · simp -implicitDefEqProofs (disch := (first | omega | assumption)) only [PL.x_Rof, PL.x_cst, PL.x_var, PL.x_var1f, PL.x_var1l, PL.x_var1d, PL.x_pk, PL.x_pk1f, PL.x_pk1l, PL.x_pk1d, PL.x_pk1i, PL.x_pkF, PL.x_un1, PL.x_un, PL.x_truF, PL.x_bOf, PL.x_tstF, PL.x_notT, PL.x_bin1, PL.x_bin, PL.x_bp3, PL.x_bp2, PL.x_bp1, PL.x_binP, PL.x_andT, PL.x_orT, PL.x_and1t, PL.x_and1f, PL.x_or1t, PL.x_or1f, PL.x_andV, PL.x_orV, PL.x_andV1t, PL.x_andV1f, PL.x_orV1t, PL.x_orV1f, PL.x_ifE, PL.x_ifE1t, PL.x_ifE1f, PL.x_chainD, PL.x_ch1, PL.x_ch2, PL.x_ch3t, PL.x_ch3f, PL.x_nilA, PL.x_consA, PL.x_cons1, PL.x_cons2, PL.x_few, PL.x_mk1, PL.x_tupD, PL.x_lstD, PL.x_lstO, PL.x_dctO0, PL.x_frO, PL.x_cb, PL.x_noP, PL.x_iOf, PL.x_someP, PL.x_sl31, PL.x_sl32, PL.x_sl3, PL.x_slK1, PL.x_slK, PL.x_frF, PL.x_frS, PL.x_cal1, PL.x_callF, PL.x_callO, PL.x_FMof, PL.x_cm1, PL.x_cm2, PL.x_cm3, PL.x_callM, PL.x_FMO, PL.x_cmo1, PL.x_cmo2, PL.x_callMO, PL.x_frzR, PL.x_itF, PL.x_rngF, PL.x_OLof, PL.x_lc2, PL.x_lc1, PL.x_lcO, PL.x_cat1, PL.x_catO, PL.x_cp1, PL.x_cp2, PL.x_cp3, PL.x_catPO, PL.x_SBn, PL.x_SBr, PL.x_skipS, PL.x_badS, PL.x_seqS, PL.x_nxO, PL.x_set1, PL.x_setS, PL.x_setO1f, PL.x_setO1l, PL.x_setO1d, PL.x_setOS, PL.x_ret1, PL.x_retO1, PL.x_exp1, PL.x_retS, PL.x_retOS, PL.x_exprS, PL.x_ifS, PL.x_if1t, PL.x_if1f, PL.x_asg1, PL.x_asgS, PL.x_argsP0, PL.x_ap1f, PL.x_ap1l, PL.x_ap1d, PL.x_ap2, PL.x_argsP, PL.x_par1, PL.x_parP, PL.x_putP0, PL.x_pp1, PL.x_putP, PL.x_app1, PL.x_app2, PL.x_nxB, PL.x_app3, PL.x_appS, PL.x_dp1, PL.x_dp2, PL.x_dp3, PL.x_dp4, PL.x_dputS, PL.x_keyI, PL.x_keyS, PL.x_up1, PL.x_up2, PL.x_up3, PL.x_updS, PL.x_for1, PL.x_forS, PL.x_RTr, PL.x_RTn, PL.x_rf1, PL.x_runF, PL.x_RMr, PL.x_RMn, PL.x_MIo, PL.x_ioOf, PL.x_rm1, PL.x_runM, PL.x_putR, PL.x_putR0f, PL.x_putR0l, PL.x_putR0d, PL.x_putR0n, PL.x_noIof, PL.x_noIol, PL.x_noIod, PL.x_noIon, PL.x_tgN, PL.x_tgT, PL.x_putAll0, PL.x_pa1, PL.x_putAll, PL.x_dAt, PL.x_dSlo, PL.x_dSli, PL.x_dPut, PL.x_dPuo, PL.x_dPui, PL.x_lAt, PL.x_lSl, PL.x_envOf, PL.x_envM, PL.x_toDl, PL.x_toDd, PL.x_toDf, PL.x_nof, PL.x_nol, PL.x_nod, PL.x_okW, PL.x_wipe0, PL.x_wipe, PL.x_yesT, PL.n_add, PL.n_mul, PL.n_mod, PL.n_div, PL.n_sub, PL.n_lt, PL.n_le, PL.n_eq, PL.d_t, PL.d_f, PL.y_add, PL.y_sub, PL.y_mod, PL.y_div, PL.y_mulL, PL.y_mulR, PL.y_lt, PL.y_le, PL.y_gt, PL.y_ge, PL.y_cmp, PL.y_eq, PL.y_ne, PL.y_int, PL.y_notD, PL.y_truB, PL.y_neg, PL.y_isi_n, PL.y_isi_b, PL.y_isi_i, PL.y_isi_s, PL.y_isi_l, PL.y_isi_t, PL.y_isi_d, PL.y_isi_c, PL.l_len, PL.l_lenT, PL.l_it, PL.l_itT, PL.l_tuple, PL.l_list, PL.l_listL, PL.l_ix, PL.l_ixT, PL.l_sum, PL.l_eq, PL.l_ne, PL.l_eq0, PL.l_ne0, PL.l_eqT, PL.l_in, PL.l_nin, PL.l_cat, PL.l_catT, PL.l_stp, PL.l_rng1, PL.l_rng2, PL.x_fb, PL.x_fb1, PL.l_eq00, PL.l_ne00, PL.l_eq01, PL.l_ne01, PL.l_lenS, PL.x_ODof, PL.x_dc2, PL.x_dc1, PL.x_dcO, PL.l_nin_tk, PL.l_in_tk, PL.l_min, PL.l_slT, PL.l_slL, PL.l_rng3, PL.x_rgl2, PL.x_rgl1, PL.x_rgList, PL.x_rgTup, PL.x_gp3, PL.x_gp2, PL.x_gp1, PL.x_getP, PL.x_mt2, PL.x_mt1, PL.x_meth1, PL.l_isL, PL.x_XRo, PL.x_XRe, PL.x_calX, PL.x_calXe, PL.x_callX, PL.x_rai1, PL.x_rai, PL.x_try3, PL.x_try2, PL.x_try2f, PL.x_try1, PL.x_try1r, PL.x_try1n, PL.x_tryR, PL.x_exu1, PL.x_exb1, PL.x_exc1, PL.x_exc2, PL.x_exm1, PL.x_exSB, PL.x_exr1, PL.x_exe1, PL.x_exi1, PL.x_exRT, List.getElem?_cons_zero, List.getElem?_cons_succ, List.set_cons_zero, List.set_cons_succ, List.length_cons, List.length_nil, List.map_cons, List.map_nil, List.replicate_succ, List.replicate_zero, List.cons_append, List.nil_append, Nat.zero_add, Nat.add_zero, Nat.reduceAdd, Nat.reduceSub, Nat.reduceMul, Nat.reduceLT, Nat.reduceEqDiff, Bool.not_true, Bool.not_false, Bool.true_and, Bool.false_and, Bool.and_true, Bool.and_false, Bool.true_or, Bool.false_or, Bool.or_true, Bool.or_false, List.all_cons, List.all_nil, PL.nl_len, List.length_map, List.length_range, isiT, tyD, Option.map_some, Option.map_none, ne_eq, not_false_eq_true, not_true_eq_false, decide_true, decide_false, eq_self, implies_true, gt_iff_lt, ge_iff_le, x_fb, x_fb1, l_slL, hc1, l_rev, hrv, hin, hm1, hm3]
  · rintro ρ ⟨s5, e4, e9, e10, hs5, rfl⟩
    rw [List.length_map, List.length_range]
    simp -implicitDefEqProofs (disch := (first | omega | assumption)) only [PL.x_Rof, PL.x_cst, PL.x_var, PL.x_var1f, PL.x_var1l, PL.x_var1d, PL.x_pk, PL.x_pk1f, PL.x_pk1l, PL.x_pk1d, PL.x_pk1i, PL.x_pkF, PL.x_un1, PL.x_un, PL.x_truF, PL.x_bOf, PL.x_tstF, PL.x_notT, PL.x_bin1, PL.x_bin, PL.x_bp3, PL.x_bp2, PL.x_bp1, PL.x_binP, PL.x_andT, PL.x_orT, PL.x_and1t, PL.x_and1f, PL.x_or1t, PL.x_or1f, PL.x_andV, PL.x_orV, PL.x_andV1t, PL.x_andV1f, PL.x_orV1t, PL.x_orV1f, PL.x_ifE, PL.x_ifE1t, PL.x_ifE1f, PL.x_chainD, PL.x_ch1, PL.x_ch2, PL.x_ch3t, PL.x_ch3f, PL.x_nilA, PL.x_consA, PL.x_cons1, PL.x_cons2, PL.x_few, PL.x_mk1, PL.x_tupD, PL.x_lstD, PL.x_lstO, PL.x_dctO0, PL.x_frO, PL.x_cb, PL.x_noP, PL.x_iOf, PL.x_someP, PL.x_sl31, PL.x_sl32, PL.x_sl3, PL.x_slK1, PL.x_slK, PL.x_frF, PL.x_frS, PL.x_cal1, PL.x_callF, PL.x_callO, PL.x_FMof, PL.x_cm1, PL.x_cm2, PL.x_cm3, PL.x_callM, PL.x_FMO, PL.x_cmo1, PL.x_cmo2, PL.x_callMO, PL.x_frzR, PL.x_itF, PL.x_rngF, PL.x_OLof, PL.x_lc2, PL.x_lc1, PL.x_lcO, PL.x_cat1, PL.x_catO, PL.x_cp1, PL.x_cp2, PL.x_cp3, PL.x_catPO, PL.x_SBn, PL.x_SBr, PL.x_skipS, PL.x_badS, PL.x_seqS, PL.x_nxO, PL.x_set1, PL.x_setS, PL.x_setO1f, PL.x_setO1l, PL.x_setO1d, PL.x_setOS, PL.x_ret1, PL.x_retO1, PL.x_exp1, PL.x_retS, PL.x_retOS, PL.x_exprS, PL.x_ifS, PL.x_if1t, PL.x_if1f, PL.x_asg1, PL.x_asgS, PL.x_argsP0, PL.x_ap1f, PL.x_ap1l, PL.x_ap1d, PL.x_ap2, PL.x_argsP, PL.x_par1, PL.x_parP, PL.x_putP0, PL.x_pp1, PL.x_putP, PL.x_app1, PL.x_app2, PL.x_nxB, PL.x_app3, PL.x_appS, PL.x_dp1, PL.x_dp2, PL.x_dp3, PL.x_dp4, PL.x_dputS, PL.x_keyI, PL.x_keyS, PL.x_up1, PL.x_up2, PL.x_up3, PL.x_updS, PL.x_for1, PL.x_forS, PL.x_RTr, PL.x_RTn, PL.x_rf1, PL.x_runF, PL.x_RMr, PL.x_RMn, PL.x_MIo, PL.x_ioOf, PL.x_rm1, PL.x_runM, PL.x_putR, PL.x_putR0f, PL.x_putR0l, PL.x_putR0d, PL.x_putR0n, PL.x_noIof, PL.x_noIol, PL.x_noIod, PL.x_noIon, PL.x_tgN, PL.x_tgT, PL.x_putAll0, PL.x_pa1, PL.x_putAll, PL.x_dAt, PL.x_dSlo, PL.x_dSli, PL.x_dPut, PL.x_dPuo, PL.x_dPui, PL.x_lAt, PL.x_lSl, PL.x_envOf, PL.x_envM, PL.x_toDl, PL.x_toDd, PL.x_toDf, PL.x_nof, PL.x_nol, PL.x_nod, PL.x_okW, PL.x_wipe0, PL.x_wipe, PL.x_yesT, PL.n_add, PL.n_mul, PL.n_mod, PL.n_div, PL.n_sub, PL.n_lt, PL.n_le, PL.n_eq, PL.d_t, PL.d_f, PL.y_add, PL.y_sub, PL.y_mod, PL.y_div, PL.y_mulL, PL.y_mulR, PL.y_lt, PL.y_le, PL.y_gt, PL.y_ge, PL.y_cmp, PL.y_eq, PL.y_ne, PL.y_int, PL.y_notD, PL.y_truB, PL.y_neg, PL.y_isi_n, PL.y_isi_b, PL.y_isi_i, PL.y_isi_s, PL.y_isi_l, PL.y_isi_t, PL.y_isi_d, PL.y_isi_c, PL.l_len, PL.l_lenT, PL.l_it, PL.l_itT, PL.l_tuple, PL.l_list, PL.l_listL, PL.l_ix, PL.l_ixT, PL.l_sum, PL.l_eq, PL.l_ne, PL.l_eq0, PL.l_ne0, PL.l_eqT, PL.l_in, PL.l_nin, PL.l_cat, PL.l_catT, PL.l_stp, PL.l_rng1, PL.l_rng2, PL.x_fb, PL.x_fb1, PL.l_eq00, PL.l_ne00, PL.l_eq01, PL.l_ne01, PL.l_lenS, PL.x_ODof, PL.x_dc2, PL.x_dc1, PL.x_dcO, PL.l_nin_tk, PL.l_in_tk, PL.l_min, PL.l_slT, PL.l_slL, PL.l_rng3, PL.x_rgl2, PL.x_rgl1, PL.x_rgList, PL.x_rgTup, PL.x_gp3, PL.x_gp2, PL.x_gp1, PL.x_getP, PL.x_mt2, PL.x_mt1, PL.x_meth1, PL.l_isL, PL.x_XRo, PL.x_XRe, PL.x_calX, PL.x_calXe, PL.x_callX, PL.x_rai1, PL.x_rai, PL.x_try3, PL.x_try2, PL.x_try2f, PL.x_try1, PL.x_try1r, PL.x_try1n, PL.x_tryR, PL.x_exu1, PL.x_exb1, PL.x_exc1, PL.x_exc2, PL.x_exm1, PL.x_exSB, PL.x_exr1, PL.x_exe1, PL.x_exi1, PL.x_exRT, List.getElem?_cons_zero, List.getElem?_cons_succ, List.set_cons_zero, List.set_cons_succ, List.length_cons, List.length_nil, List.map_cons, List.map_nil, List.replicate_succ, List.replicate_zero, List.cons_append, List.nil_append, Nat.zero_add, Nat.add_zero, Nat.reduceAdd, Nat.reduceSub, Nat.reduceMul, Nat.reduceLT, Nat.reduceEqDiff, Bool.not_true, Bool.not_false, Bool.true_and, Bool.false_and, Bool.and_true, Bool.and_false, Bool.true_or, Bool.false_or, Bool.or_true, Bool.or_false, List.all_cons, List.all_nil, PL.nl_len, List.length_map, List.length_range, isiT, tyD, Option.map_some, Option.map_none, ne_eq, not_false_eq_true, not_true_eq_false, decide_true, decide_false, eq_self, implies_true, gt_iff_lt, ge_iff_le]
/-! a turn of the law -/
theorem reprW_of {d : Dt} {S : Str} (h : reprD d = some (.str S)) : reprW d = some (.str S) := by
  unfold reprD at h
  split at h
  · rename_i hk
    unfold reprW
    rw [if_pos hk]
    exact h
  · cases h
theorem reprW_ints {ns : List Int} (h : wideOk ns = true) : reprW (.lst (ns.map .int)) = some (.str (toPy (.lst (ns.map .int))).shown) := by
  unfold reprW
  split
  · rfl
  · show (intsOf (ns.map .int)).bind _ = _
    rw [DW.intsOf_map]
    show (if wideOk ns = true then _ else none) = _
    rw [if_pos h]
theorem bsR_abs {S : Nat} {w : Int} (hw : -1000 ≤ w ∧ w ≤ 1000) : ∀ (k x : Nat), (bsR S w k x).natAbs ≤ x * 1001 ^ k
  | 0, x => by show (0 : Int).natAbs ≤ _; simp
  | k + 1, x => by
    rw [bsR_step]
    have ih := bsR_abs (S := S) hw k (x / S)
    have h1 : ((x % S : Nat) : Int).natAbs ≤ x := Nat.mod_le _ _
    have h2 : (w * bsR S w k (x / S)).natAbs ≤ 1000 * (x * 1001 ^ k) := by
      rw [Int.natAbs_mul]
      refine Nat.mul_le_mul (by omega) (Nat.le_trans ih (Nat.mul_le_mul_right _ (Nat.div_le_self _ _)))
    have h3 : (((x % S : Nat) : Int) + w * bsR S w k (x / S)).natAbs ≤ x + 1000 * (x * 1001 ^ k) := Nat.le_trans (Int.natAbs_add_le _ _) (Nat.add_le_add h1 h2)
    have h4 : x * 1001 ^ (k + 1) = 1000 * (x * 1001 ^ k) + x * 1001 ^ k := by
      rw [Nat.pow_succ, ← Nat.mul_assoc]
      omega
    have h5 : x * 1 ≤ x * 1001 ^ k := Nat.mul_le_mul_left _ (Nat.pow_pos (by omega))
    omega
theorem bsR_wide {S x : Nat} {w : Int} (hw : -1000 ≤ w ∧ w ≤ 1000) (hx : x ≤ 10 ^ 60) : wideOk [bsR S w 200 x, bsR S w 200 x] = true := by
  have h1 := bsR_abs (S := S) hw 200 x
  have h2 : x * 1001 ^ 200 ≤ 10 ^ 60 * 1001 ^ 200 := Nat.mul_le_mul_right _ hx
  have h3 : (10 : Nat) ^ 60 * 1001 ^ 200 < 2 ^ 3000 := by decide +kernel
  have h4 : (bsR S w 200 x).natAbs < 2 ^ 3000 := Nat.lt_of_le_of_lt (Nat.le_trans h1 h2) h3
  have h5 : (bsR S w 200 x).natAbs.log2 < 14000 := Nat.lt_trans (log_lt h4 (by omega)) (by omega)
  unfold wideOk
  simp only [List.isEmpty_cons, Bool.not_false, List.length_cons, List.length_nil, List.all_cons, List.all_nil, decide_eq_true h5, Bool.and_self, Bool.true_and]
  rfl
theorem neS (S : Str) : neD (.str S) (.str S) = some (.bl false) := by
  show some (Dt.bl (!decide (S = S))) = _
  rw [decide_eq_true rfl]
  rfl
theorem ne_bl (x : Bool) : neD (.bl x) (.bl x) = some (.bl false) := by cases x <;> kernel_rfl
theorem pw6 : powD (.int (10 : Nat)) (.int (6 : Nat)) = some (.int (10 ^ 6 : Nat)) ∧ powD (.int (10 : Nat)) (.int (12 : Nat)) = some (.int (10 ^ 12 : Nat)) ∧ powD (.int (10 : Nat)) (.int (30 : Nat)) = some (.int (10 ^ 30 : Nat)) ∧ powD (.int (10 : Nat)) (.int (60 : Nat)) = some (.int (M60 : Nat)) := ⟨by kernel_rfl, by kernel_rfl, by kernel_rfl, by kernel_rfl⟩
theorem div60 (a : Int) {m : Nat} (h0 : 0 < m) (h : m ≤ 10 ^ 60) : fdivD (.int a) (.int (m : Nat)) = some (.int (a / (m : Nat))) := by
  refine if_pos ⟨by omega, ?_⟩
  show m.log2 < 9000
  exact Nat.lt_trans (log_lt (Nat.lt_of_le_of_lt h m60_lt) (by omega)) (by omega)
theorem emod_w (S n : Nat) (w : Int) (hn : 0 < n) : (((S % n : Nat) : Int) - w) % (n : Int) = ((S : Int) - w) % (n : Int) := by
  have e : (S : Int) - w = (((S % n : Nat) : Int) - w) + (n : Int) * ((S / n : Nat) : Int) := by
    have h := Nat.mod_add_div S n
    have h2 : ((S % n : Nat) : Int) + (n : Int) * ((S / n : Nat) : Int) = (S : Int) := by exact_mod_cast h
    omega
  rw [e, Int.add_mul_emod_self_left]
theorem emod_neg (a : Int) (n : Nat) : (-a) % (n : Int) = 0 ↔ a % (n : Int) = 0 := by
  constructor
  · intro h
    have := Int.dvd_neg.mpr (Int.dvd_of_emod_eq_zero h)
    rw [Int.neg_neg] at this
    exact Int.emod_eq_zero_of_dvd this
  · intro h
    exact Int.emod_eq_zero_of_dvd (Int.dvd_neg.mpr (Int.dvd_of_emod_eq_zero h))
theorem l_min2 (x y : Nat) : min2D [.int (x : Nat), .int (y : Nat)] = some (.int (min x y : Nat)) := by
  show some (Dt.int (if (y : Int) < (x : Int) then (y : Int) else (x : Int))) = _
  congr 2
  split <;> omega
abbrev turnB : Rho → SR := seqS (setS 9 (callM m__law_draw 0 (consA (callM m__law_of 0 (consA (lstD (consA (cst (.int (20 : Nat))) (consA (bin powD (cst (.int (10 : Nat))) (cst (.int (6 : Nat)))) (consA (bin powD (cst (.int (10 : Nat))) (cst (.int (12 : Nat)))) (consA (bin powD (cst (.int (10 : Nat))) (cst (.int (30 : Nat)))) (consA (bin powD (cst (.int (10 : Nat))) (cst (.int (60 : Nat)))) (nilA))))))) (nilA))) (nilA)))) (seqS (setS 9 (callM m__law_of 0 (consA (lstD (consA (var 9) (consA (var 9) (consA (bin subD (bin powD (cst (.int (10 : Nat))) (cst (.int (60 : Nat)))) (pkF 9)) (nilA))))) (nilA)))) (seqS (setS 10 (callF m__law_sum (consA (var 6) (consA (var 7) (consA (var 1) (consA (var 9) (nilA))))))) (seqS (ifS (tstF (bin neD (un reprW (lstD (consA (callF m_block_sum (consA (var 6) (consA (var 7) (consA (var 1) (consA (var 9) (nilA)))))) (consA (callF m_block_sum (consA (var 6) (consA (var 7) (consA (var 1) (consA (var 9) (nilA)))))) (nilA))))) (un reprW (lstD (consA (var 10) (consA (var 10) (nilA))))))) (retS (cst (.bl false))) (skipS)) (ifS (andT (truF (pkF 3)) (tstF (bin neD (bin modD (un intD (bin subD (var 10) (pkF 9))) (pkF 8)) (cst (.int (0 : Nat)))))) (retS (cst (.bl false))) (skipS)))))
theorem turn_ok {b c n : Nat} {w : Int} {so : Bool} {r t : Nat} {cs : List Int} {l sd p : Nat} (hc : cs ≠ []) (hs : sd < 2 ^ 31) (hp : p < 2 ^ 18) (hb : 2 ≤ b ∧ b ≤ 1000) (hcc : 1 ≤ c ∧ c ≤ 6) (hn : 1 ≤ n ∧ n ≤ 300) (hw : -1000 ≤ w ∧ w ≤ 1000) (hso : so = true → (((b ^ c : Nat) : Int) - w) % (n : Int) = 0) (e4 e5 e9 e10 : Option Sl) :
    ∃ l' p' : Nat, ∃ e9' e10', p' ≤ p + 3 ∧ fb (tgN 4) turnB (.int (t : Nat)) [some (.io (ms2 l sd cs p)), I w, I r, V (.bl so), e4, e5, I b, I c, I n, e9, e10, none, none] = .nx [some (.io (ms2 l' sd cs p')), I w, I r, V (.bl so), I t, e5, I b, I c, I n, e9', e10', none, none] := by
  obtain ⟨q6, q12, q30, q60⟩ := pw6
  obtain ⟨lm, l1, p1, a1, a2, a3⟩ := of2_nl (l := l) (p := p) (ns := [20, 10 ^ 6, 10 ^ 12, 10 ^ 30, M60]) hc hs (by omega) (by simp) (by simp)
  have hlm : 0 < lm ∧ lm ≤ M60 := by
    simp only [List.mem_cons, List.not_mem_nil, or_false] at a2
    rcases a2 with rfl | rfl | rfl | rfl | rfl <;> exact ⟨by decide, by decide⟩
  have a1' : m__law_of (ms2 l sd cs p) [.lst [.int (20 : Nat), .int (10 ^ 6 : Nat), .int (10 ^ 12 : Nat), .int (10 ^ 30 : Nat), .int (M60 : Nat)]] = _ := a1
  obtain ⟨x, l2, p2, b1, b2, b3⟩ := draw2_ok (l := l1) (p := p1) (lim := lm) hc hs (by omega) hlm.1 (fun a => div60 a hlm.1 hlm.2)
  have hx : x ≤ M60 := by omega
  obtain ⟨y, l3, p3, c1, c2, c3⟩ := of2_nl (l := l2) (p := p2) (ns := [x, x, M60 - x]) hc hs (by omega) (by simp) (by simp)
  have hy : y ≤ 10 ^ 60 := by
    simp only [List.mem_cons, List.not_mem_nil, or_false] at c2
    show y ≤ M60
    omega
  have c1' : m__law_of (ms2 l2 sd cs p2) [.lst [.int (x : Nat), .int (x : Nat), .int (M60 - x : Nat)]] = _ := c1
  have d1 := lsum_ok (x := y) hb hcc hw hy
  have d2 := block_sum_ok (x := y) hb (show 1 ≤ c ∧ c ≤ 400 by omega) hw hy
  have d3 := reprW_ints (bsR_wide (S := b ^ c) (x := y) hw hy)
  have d4 := fun h => bsR_mod (S := b ^ c) (n := n) (w := w) (hso h) (step_two hb.1 hcc.1) 200 y (Nat.lt_of_le_of_lt hy m60_lt)
  generalize bsR (b ^ c) w 200 y = R at d1 d2 d3 d4
  rw [show [R, R].map Dt.int = [Dt.int R, Dt.int R] from rfl] at d3
  have d5 := neS (toPy (.lst [.int R, .int R])).shown
  generalize (toPy (.lst [.int R, .int R])).shown = T at d3 d5
  have d6 := y_mod (b := n) (R - (y : Int)) (by omega)
  generalize hMx : M60 - x = z at c1'
  have hz : (M60 : Int) - (x : Int) = (z : Int) := by omega
  have d7 : subD (.int (M60 : Nat)) (.int (x : Nat)) = some (.int (z : Nat)) := by rw [y_sub, hz]
  generalize 10 ^ 6 = m6 at q6 a1'
  generalize 10 ^ 12 = m12 at q12 a1'
  generalize 10 ^ 30 = m30 at q30 a1'
  generalize M60 = m60 at q60 a1' d7
  refine ⟨l3, p3, I y, I R, by omega, ?_⟩
  cases so with
  | true =>
    have d8 : neD (.int ((R - (y : Int)) % (n : Int))) (.int (0 : Nat)) = some (.bl false) := by
      rw [d4 rfl]
      rfl
    simp -implicitDefEqProofs (disch := (first | omega | assumption)) only [PL.x_Rof, PL.x_cst, PL.x_var, PL.x_var1f, PL.x_var1l, PL.x_var1d, PL.x_pk, PL.x_pk1f, PL.x_pk1l, PL.x_pk1d, PL.x_pk1i, PL.x_pkF, PL.x_un1, PL.x_un, PL.x_truF, PL.x_bOf, PL.x_tstF, PL.x_notT, PL.x_bin1, PL.x_bin, PL.x_bp3, PL.x_bp2, PL.x_bp1, PL.x_binP, PL.x_andT, PL.x_orT, PL.x_and1t, PL.x_and1f, PL.x_or1t, PL.x_or1f, PL.x_andV, PL.x_orV, PL.x_andV1t, PL.x_andV1f, PL.x_orV1t, PL.x_orV1f, PL.x_ifE, PL.x_ifE1t, PL.x_ifE1f, PL.x_chainD, PL.x_ch1, PL.x_ch2, PL.x_ch3t, PL.x_ch3f, PL.x_nilA, PL.x_consA, PL.x_cons1, PL.x_cons2, PL.x_few, PL.x_mk1, PL.x_tupD, PL.x_lstD, PL.x_lstO, PL.x_dctO0, PL.x_frO, PL.x_cb, PL.x_noP, PL.x_iOf, PL.x_someP, PL.x_sl31, PL.x_sl32, PL.x_sl3, PL.x_slK1, PL.x_slK, PL.x_frF, PL.x_frS, PL.x_cal1, PL.x_callF, PL.x_callO, PL.x_FMof, PL.x_cm1, PL.x_cm2, PL.x_cm3, PL.x_callM, PL.x_FMO, PL.x_cmo1, PL.x_cmo2, PL.x_callMO, PL.x_frzR, PL.x_itF, PL.x_rngF, PL.x_OLof, PL.x_lc2, PL.x_lc1, PL.x_lcO, PL.x_cat1, PL.x_catO, PL.x_cp1, PL.x_cp2, PL.x_cp3, PL.x_catPO, PL.x_SBn, PL.x_SBr, PL.x_skipS, PL.x_badS, PL.x_seqS, PL.x_nxO, PL.x_set1, PL.x_setS, PL.x_setO1f, PL.x_setO1l, PL.x_setO1d, PL.x_setOS, PL.x_ret1, PL.x_retO1, PL.x_exp1, PL.x_retS, PL.x_retOS, PL.x_exprS, PL.x_ifS, PL.x_if1t, PL.x_if1f, PL.x_asg1, PL.x_asgS, PL.x_argsP0, PL.x_ap1f, PL.x_ap1l, PL.x_ap1d, PL.x_ap2, PL.x_argsP, PL.x_par1, PL.x_parP, PL.x_putP0, PL.x_pp1, PL.x_putP, PL.x_app1, PL.x_app2, PL.x_nxB, PL.x_app3, PL.x_appS, PL.x_dp1, PL.x_dp2, PL.x_dp3, PL.x_dp4, PL.x_dputS, PL.x_keyI, PL.x_keyS, PL.x_up1, PL.x_up2, PL.x_up3, PL.x_updS, PL.x_for1, PL.x_forS, PL.x_RTr, PL.x_RTn, PL.x_rf1, PL.x_runF, PL.x_RMr, PL.x_RMn, PL.x_MIo, PL.x_ioOf, PL.x_rm1, PL.x_runM, PL.x_putR, PL.x_putR0f, PL.x_putR0l, PL.x_putR0d, PL.x_putR0n, PL.x_noIof, PL.x_noIol, PL.x_noIod, PL.x_noIon, PL.x_tgN, PL.x_tgT, PL.x_putAll0, PL.x_pa1, PL.x_putAll, PL.x_dAt, PL.x_dSlo, PL.x_dSli, PL.x_dPut, PL.x_dPuo, PL.x_dPui, PL.x_lAt, PL.x_lSl, PL.x_envOf, PL.x_envM, PL.x_toDl, PL.x_toDd, PL.x_toDf, PL.x_nof, PL.x_nol, PL.x_nod, PL.x_okW, PL.x_wipe0, PL.x_wipe, PL.x_yesT, PL.n_add, PL.n_mul, PL.n_mod, PL.n_div, PL.n_sub, PL.n_lt, PL.n_le, PL.n_eq, PL.d_t, PL.d_f, PL.y_add, PL.y_sub, PL.y_mod, PL.y_div, PL.y_mulL, PL.y_mulR, PL.y_lt, PL.y_le, PL.y_gt, PL.y_ge, PL.y_cmp, PL.y_eq, PL.y_ne, PL.y_int, PL.y_notD, PL.y_truB, PL.y_neg, PL.y_isi_n, PL.y_isi_b, PL.y_isi_i, PL.y_isi_s, PL.y_isi_l, PL.y_isi_t, PL.y_isi_d, PL.y_isi_c, PL.l_len, PL.l_lenT, PL.l_it, PL.l_itT, PL.l_tuple, PL.l_list, PL.l_listL, PL.l_ix, PL.l_ixT, PL.l_sum, PL.l_eq, PL.l_ne, PL.l_eq0, PL.l_ne0, PL.l_eqT, PL.l_in, PL.l_nin, PL.l_cat, PL.l_catT, PL.l_stp, PL.l_rng1, PL.l_rng2, PL.x_fb, PL.x_fb1, PL.l_eq00, PL.l_ne00, PL.l_eq01, PL.l_ne01, PL.l_lenS, PL.x_ODof, PL.x_dc2, PL.x_dc1, PL.x_dcO, PL.l_nin_tk, PL.l_in_tk, PL.l_min, PL.l_slT, PL.l_slL, PL.l_rng3, PL.x_rgl2, PL.x_rgl1, PL.x_rgList, PL.x_rgTup, PL.x_gp3, PL.x_gp2, PL.x_gp1, PL.x_getP, PL.x_mt2, PL.x_mt1, PL.x_meth1, PL.l_isL, PL.x_XRo, PL.x_XRe, PL.x_calX, PL.x_calXe, PL.x_callX, PL.x_rai1, PL.x_rai, PL.x_try3, PL.x_try2, PL.x_try2f, PL.x_try1, PL.x_try1r, PL.x_try1n, PL.x_tryR, PL.x_exu1, PL.x_exb1, PL.x_exc1, PL.x_exc2, PL.x_exm1, PL.x_exSB, PL.x_exr1, PL.x_exe1, PL.x_exi1, PL.x_exRT, List.getElem?_cons_zero, List.getElem?_cons_succ, List.set_cons_zero, List.set_cons_succ, List.length_cons, List.length_nil, List.map_cons, List.map_nil, List.replicate_succ, List.replicate_zero, List.cons_append, List.nil_append, Nat.zero_add, Nat.add_zero, Nat.reduceAdd, Nat.reduceSub, Nat.reduceMul, Nat.reduceLT, Nat.reduceEqDiff, Bool.not_true, Bool.not_false, Bool.true_and, Bool.false_and, Bool.and_true, Bool.and_false, Bool.true_or, Bool.false_or, Bool.or_true, Bool.or_false, List.all_cons, List.all_nil, PL.nl_len, List.length_map, List.length_range, isiT, tyD, Option.map_some, Option.map_none, ne_eq, not_false_eq_true, not_true_eq_false, decide_true, decide_false, eq_self, implies_true, gt_iff_lt, ge_iff_le, x_fb, x_fb1, q6, q12, q30, q60, a1', b1, c1', d7, d1, d2, d3, d5, d6, d8]
  | false =>
    simp -implicitDefEqProofs (disch := (first | omega | assumption)) only [PL.x_Rof, PL.x_cst, PL.x_var, PL.x_var1f, PL.x_var1l, PL.x_var1d, PL.x_pk, PL.x_pk1f, PL.x_pk1l, PL.x_pk1d, PL.x_pk1i, PL.x_pkF, PL.x_un1, PL.x_un, PL.x_truF, PL.x_bOf, PL.x_tstF, PL.x_notT, PL.x_bin1, PL.x_bin, PL.x_bp3, PL.x_bp2, PL.x_bp1, PL.x_binP, PL.x_andT, PL.x_orT, PL.x_and1t, PL.x_and1f, PL.x_or1t, PL.x_or1f, PL.x_andV, PL.x_orV, PL.x_andV1t, PL.x_andV1f, PL.x_orV1t, PL.x_orV1f, PL.x_ifE, PL.x_ifE1t, PL.x_ifE1f, PL.x_chainD, PL.x_ch1, PL.x_ch2, PL.x_ch3t, PL.x_ch3f, PL.x_nilA, PL.x_consA, PL.x_cons1, PL.x_cons2, PL.x_few, PL.x_mk1, PL.x_tupD, PL.x_lstD, PL.x_lstO, PL.x_dctO0, PL.x_frO, PL.x_cb, PL.x_noP, PL.x_iOf, PL.x_someP, PL.x_sl31, PL.x_sl32, PL.x_sl3, PL.x_slK1, PL.x_slK, PL.x_frF, PL.x_frS, PL.x_cal1, PL.x_callF, PL.x_callO, PL.x_FMof, PL.x_cm1, PL.x_cm2, PL.x_cm3, PL.x_callM, PL.x_FMO, PL.x_cmo1, PL.x_cmo2, PL.x_callMO, PL.x_frzR, PL.x_itF, PL.x_rngF, PL.x_OLof, PL.x_lc2, PL.x_lc1, PL.x_lcO, PL.x_cat1, PL.x_catO, PL.x_cp1, PL.x_cp2, PL.x_cp3, PL.x_catPO, PL.x_SBn, PL.x_SBr, PL.x_skipS, PL.x_badS, PL.x_seqS, PL.x_nxO, PL.x_set1, PL.x_setS, PL.x_setO1f, PL.x_setO1l, PL.x_setO1d, PL.x_setOS, PL.x_ret1, PL.x_retO1, PL.x_exp1, PL.x_retS, PL.x_retOS, PL.x_exprS, PL.x_ifS, PL.x_if1t, PL.x_if1f, PL.x_asg1, PL.x_asgS, PL.x_argsP0, PL.x_ap1f, PL.x_ap1l, PL.x_ap1d, PL.x_ap2, PL.x_argsP, PL.x_par1, PL.x_parP, PL.x_putP0, PL.x_pp1, PL.x_putP, PL.x_app1, PL.x_app2, PL.x_nxB, PL.x_app3, PL.x_appS, PL.x_dp1, PL.x_dp2, PL.x_dp3, PL.x_dp4, PL.x_dputS, PL.x_keyI, PL.x_keyS, PL.x_up1, PL.x_up2, PL.x_up3, PL.x_updS, PL.x_for1, PL.x_forS, PL.x_RTr, PL.x_RTn, PL.x_rf1, PL.x_runF, PL.x_RMr, PL.x_RMn, PL.x_MIo, PL.x_ioOf, PL.x_rm1, PL.x_runM, PL.x_putR, PL.x_putR0f, PL.x_putR0l, PL.x_putR0d, PL.x_putR0n, PL.x_noIof, PL.x_noIol, PL.x_noIod, PL.x_noIon, PL.x_tgN, PL.x_tgT, PL.x_putAll0, PL.x_pa1, PL.x_putAll, PL.x_dAt, PL.x_dSlo, PL.x_dSli, PL.x_dPut, PL.x_dPuo, PL.x_dPui, PL.x_lAt, PL.x_lSl, PL.x_envOf, PL.x_envM, PL.x_toDl, PL.x_toDd, PL.x_toDf, PL.x_nof, PL.x_nol, PL.x_nod, PL.x_okW, PL.x_wipe0, PL.x_wipe, PL.x_yesT, PL.n_add, PL.n_mul, PL.n_mod, PL.n_div, PL.n_sub, PL.n_lt, PL.n_le, PL.n_eq, PL.d_t, PL.d_f, PL.y_add, PL.y_sub, PL.y_mod, PL.y_div, PL.y_mulL, PL.y_mulR, PL.y_lt, PL.y_le, PL.y_gt, PL.y_ge, PL.y_cmp, PL.y_eq, PL.y_ne, PL.y_int, PL.y_notD, PL.y_truB, PL.y_neg, PL.y_isi_n, PL.y_isi_b, PL.y_isi_i, PL.y_isi_s, PL.y_isi_l, PL.y_isi_t, PL.y_isi_d, PL.y_isi_c, PL.l_len, PL.l_lenT, PL.l_it, PL.l_itT, PL.l_tuple, PL.l_list, PL.l_listL, PL.l_ix, PL.l_ixT, PL.l_sum, PL.l_eq, PL.l_ne, PL.l_eq0, PL.l_ne0, PL.l_eqT, PL.l_in, PL.l_nin, PL.l_cat, PL.l_catT, PL.l_stp, PL.l_rng1, PL.l_rng2, PL.x_fb, PL.x_fb1, PL.l_eq00, PL.l_ne00, PL.l_eq01, PL.l_ne01, PL.l_lenS, PL.x_ODof, PL.x_dc2, PL.x_dc1, PL.x_dcO, PL.l_nin_tk, PL.l_in_tk, PL.l_min, PL.l_slT, PL.l_slL, PL.l_rng3, PL.x_rgl2, PL.x_rgl1, PL.x_rgList, PL.x_rgTup, PL.x_gp3, PL.x_gp2, PL.x_gp1, PL.x_getP, PL.x_mt2, PL.x_mt1, PL.x_meth1, PL.l_isL, PL.x_XRo, PL.x_XRe, PL.x_calX, PL.x_calXe, PL.x_callX, PL.x_rai1, PL.x_rai, PL.x_try3, PL.x_try2, PL.x_try2f, PL.x_try1, PL.x_try1r, PL.x_try1n, PL.x_tryR, PL.x_exu1, PL.x_exb1, PL.x_exc1, PL.x_exc2, PL.x_exm1, PL.x_exSB, PL.x_exr1, PL.x_exe1, PL.x_exi1, PL.x_exRT, List.getElem?_cons_zero, List.getElem?_cons_succ, List.set_cons_zero, List.set_cons_succ, List.length_cons, List.length_nil, List.map_cons, List.map_nil, List.replicate_succ, List.replicate_zero, List.cons_append, List.nil_append, Nat.zero_add, Nat.add_zero, Nat.reduceAdd, Nat.reduceSub, Nat.reduceMul, Nat.reduceLT, Nat.reduceEqDiff, Bool.not_true, Bool.not_false, Bool.true_and, Bool.false_and, Bool.and_true, Bool.and_false, Bool.true_or, Bool.false_or, Bool.or_true, Bool.or_false, List.all_cons, List.all_nil, PL.nl_len, List.length_map, List.length_range, isiT, tyD, Option.map_some, Option.map_none, ne_eq, not_false_eq_true, not_true_eq_false, decide_true, decide_false, eq_self, implies_true, gt_iff_lt, ge_iff_le, x_fb, x_fb1, q6, q12, q30, q60, a1', b1, c1', d7, d1, d2, d3, d5]
theorem right_ok {cs : List Int} {l sd p : Nat} (hc : cs ≠ []) (hs : sd < 2 ^ 31) (hp : p < 2 ^ 17) : ∃ l' p' : Nat, m__law_right (ms2 l sd cs p) [] = .ok (.fr (.bl true)) (ms2 l' sd cs p') := by
  obtain ⟨x, l1, p1, a1, a2, a3⟩ := draw2 (l := l) (p := p) (lim := 999) hc hs (by omega) (by omega) (by omega)
  obtain ⟨b, l2, p2, b1, b2, b3⟩ := of2_nl (l := l1) (p := p1) (ns := [2, 3, 10, 12, 2 + x]) hc hs (by omega) (by simp) (by simp)
  have b1' : m__law_of (ms2 l1 sd cs p1) [.lst [.int (2 : Nat), .int (3 : Nat), .int (10 : Nat), .int (12 : Nat), .int (2 + x : Nat)]] = _ := b1
  have hb : 2 ≤ b ∧ b ≤ 1000 := by
    simp only [List.mem_cons, List.not_mem_nil, or_false] at b2
    omega
  obtain ⟨y, l3, p3, c1, c2, c3⟩ := draw2 (l := l2) (p := p2) (lim := 6) hc hs (by omega) (by omega) (by omega)
  obtain ⟨z, l4, p4, d1, d2, d3⟩ := draw2 (l := l3) (p := p3) (lim := 300) hc hs (by omega) (by omega) (by omega)
  obtain ⟨v, l5, p5, f1, f2, f3⟩ := draw2 (l := l4) (p := p4) (lim := 2001) hc hs (by omega) (by omega) (by omega)
  have s1 : subD (.int (v : Nat)) (.int (1000 : Nat)) = some (.int ((v : Int) - ((1000 : Nat) : Int))) := rfl
  obtain ⟨wd, l6, p6, g1, g2, g3⟩ := of2 (l := l5) (p := p5) (ds := [.int (1 : Nat), .int (-((1 : Nat) : Int)), .int (0 : Nat), .int (2 : Nat), .int (-((3 : Nat) : Int)), .int ((v : Int) - ((1000 : Nat) : Int))]) hc hs (by omega) (by simp) (by simp)
  obtain ⟨w0, hw0, hw0b⟩ : ∃ w0 : Int, wd = .int w0 ∧ -1000 ≤ w0 ∧ w0 ≤ 1000 := by
    simp only [List.mem_cons, List.not_mem_nil, or_false] at g2
    rcases g2 with rfl | rfl | rfl | rfl | rfl | rfl
    · exact ⟨_, rfl, by omega, by omega⟩
    · exact ⟨_, rfl, by omega, by omega⟩
    · exact ⟨_, rfl, by omega, by omega⟩
    · exact ⟨_, rfl, by omega, by omega⟩
    · exact ⟨_, rfl, by omega, by omega⟩
    · exact ⟨_, rfl, by omega, by omega⟩
  subst hw0
  have hn : 1 ≤ 1 + z ∧ 1 + z ≤ 300 := by omega
  have hcc : 1 ≤ 1 + y ∧ 1 + y ≤ 6 := by omega
  generalize hN : 1 + z = n at hn
  generalize hC : 1 + y = c at hcc
  have hr := lraised_ok (b := b) (t := c) (n := n) ⟨by omega, by omega⟩ (Nat.lt_of_lt_of_le (show c < 2 ^ 3 by omega) (Nat.pow_le_pow_right (by omega) (by omega)))
  have hrl : b ^ c % n < n := Nat.mod_lt _ (by omega)
  obtain ⟨u, l7, p7, h1, h2, h3⟩ := draw2 (l := l6) (p := p6) (lim := 2) hc hs (by omega) (by omega) (by omega)
  obtain ⟨u3, l8, p8, i1, i2, i3⟩ := draw2 (l := l7) (p := p7) (lim := 3) hc hs (by omega) (by omega) (by omega)
  -- the weight
  obtain ⟨w, l9, p9, hw, hp9, hif⟩ : ∃ (w : Int) (l9 p9 : Nat), (-1000 ≤ w ∧ w ≤ 1000) ∧ p9 ≤ p + 10 ∧ ifS (tstF (bin eqD (callM m__law_draw 0 (consA (cst (.int (2 : Nat))) (nilA))) (cst (.int (0 : Nat))))) (setS 1 (bin subD (var 2) (bin mulD (var 8) (callM m__law_draw 0 (consA (cst (.int (3 : Nat))) (nilA)))))) (skipS) [some (.io (ms2 l6 sd cs p6)), I w0, I (b ^ c % n : Nat), none, none, none, I b, I c, I n, none, none, none, none] = .nx [some (.io (ms2 l9 sd cs p9)), I w, I (b ^ c % n : Nat), none, none, none, I b, I c, I n, none, none, none, none] := by
    by_cases hu : u = 0
    · subst hu
      have hnm : n * u3 ≤ 300 * 2 := Nat.mul_le_mul hn.2 (by omega)
      refine ⟨((b ^ c % n : Nat) : Int) - ((n * u3 : Nat) : Int), l8, p8, ⟨by omega, by omega⟩, by omega, ?_⟩
      have s2 : subD (.int ((b ^ c % n : Nat) : Int)) (.int (n * u3 : Nat)) = some (.int (((b ^ c % n : Nat) : Int) - ((n * u3 : Nat) : Int))) := rfl
      generalize b ^ c % n = r at s2 ⊢
      generalize ((r : Nat) : Int) - ((n * u3 : Nat) : Int) = W at s2 ⊢
      simp -implicitDefEqProofs (disch := (first | omega | assumption)) only [PL.x_Rof, PL.x_cst, PL.x_var, PL.x_var1f, PL.x_var1l, PL.x_var1d, PL.x_pk, PL.x_pk1f, PL.x_pk1l, PL.x_pk1d, PL.x_pk1i, PL.x_pkF, PL.x_un1, PL.x_un, PL.x_truF, PL.x_bOf, PL.x_tstF, PL.x_notT, PL.x_bin1, PL.x_bin, PL.x_bp3, PL.x_bp2, PL.x_bp1, PL.x_binP, PL.x_andT, PL.x_orT, PL.x_and1t, PL.x_and1f, PL.x_or1t, PL.x_or1f, PL.x_andV, PL.x_orV, PL.x_andV1t, PL.x_andV1f, PL.x_orV1t, PL.x_orV1f, PL.x_ifE, PL.x_ifE1t, PL.x_ifE1f, PL.x_chainD, PL.x_ch1, PL.x_ch2, PL.x_ch3t, PL.x_ch3f, PL.x_nilA, PL.x_consA, PL.x_cons1, PL.x_cons2, PL.x_few, PL.x_mk1, PL.x_tupD, PL.x_lstD, PL.x_lstO, PL.x_dctO0, PL.x_frO, PL.x_cb, PL.x_noP, PL.x_iOf, PL.x_someP, PL.x_sl31, PL.x_sl32, PL.x_sl3, PL.x_slK1, PL.x_slK, PL.x_frF, PL.x_frS, PL.x_cal1, PL.x_callF, PL.x_callO, PL.x_FMof, PL.x_cm1, PL.x_cm2, PL.x_cm3, PL.x_callM, PL.x_FMO, PL.x_cmo1, PL.x_cmo2, PL.x_callMO, PL.x_frzR, PL.x_itF, PL.x_rngF, PL.x_OLof, PL.x_lc2, PL.x_lc1, PL.x_lcO, PL.x_cat1, PL.x_catO, PL.x_cp1, PL.x_cp2, PL.x_cp3, PL.x_catPO, PL.x_SBn, PL.x_SBr, PL.x_skipS, PL.x_badS, PL.x_seqS, PL.x_nxO, PL.x_set1, PL.x_setS, PL.x_setO1f, PL.x_setO1l, PL.x_setO1d, PL.x_setOS, PL.x_ret1, PL.x_retO1, PL.x_exp1, PL.x_retS, PL.x_retOS, PL.x_exprS, PL.x_ifS, PL.x_if1t, PL.x_if1f, PL.x_asg1, PL.x_asgS, PL.x_argsP0, PL.x_ap1f, PL.x_ap1l, PL.x_ap1d, PL.x_ap2, PL.x_argsP, PL.x_par1, PL.x_parP, PL.x_putP0, PL.x_pp1, PL.x_putP, PL.x_app1, PL.x_app2, PL.x_nxB, PL.x_app3, PL.x_appS, PL.x_dp1, PL.x_dp2, PL.x_dp3, PL.x_dp4, PL.x_dputS, PL.x_keyI, PL.x_keyS, PL.x_up1, PL.x_up2, PL.x_up3, PL.x_updS, PL.x_for1, PL.x_forS, PL.x_RTr, PL.x_RTn, PL.x_rf1, PL.x_runF, PL.x_RMr, PL.x_RMn, PL.x_MIo, PL.x_ioOf, PL.x_rm1, PL.x_runM, PL.x_putR, PL.x_putR0f, PL.x_putR0l, PL.x_putR0d, PL.x_putR0n, PL.x_noIof, PL.x_noIol, PL.x_noIod, PL.x_noIon, PL.x_tgN, PL.x_tgT, PL.x_putAll0, PL.x_pa1, PL.x_putAll, PL.x_dAt, PL.x_dSlo, PL.x_dSli, PL.x_dPut, PL.x_dPuo, PL.x_dPui, PL.x_lAt, PL.x_lSl, PL.x_envOf, PL.x_envM, PL.x_toDl, PL.x_toDd, PL.x_toDf, PL.x_nof, PL.x_nol, PL.x_nod, PL.x_okW, PL.x_wipe0, PL.x_wipe, PL.x_yesT, PL.n_add, PL.n_mul, PL.n_mod, PL.n_div, PL.n_sub, PL.n_lt, PL.n_le, PL.n_eq, PL.d_t, PL.d_f, PL.y_add, PL.y_sub, PL.y_mod, PL.y_div, PL.y_mulL, PL.y_mulR, PL.y_lt, PL.y_le, PL.y_gt, PL.y_ge, PL.y_cmp, PL.y_eq, PL.y_ne, PL.y_int, PL.y_notD, PL.y_truB, PL.y_neg, PL.y_isi_n, PL.y_isi_b, PL.y_isi_i, PL.y_isi_s, PL.y_isi_l, PL.y_isi_t, PL.y_isi_d, PL.y_isi_c, PL.l_len, PL.l_lenT, PL.l_it, PL.l_itT, PL.l_tuple, PL.l_list, PL.l_listL, PL.l_ix, PL.l_ixT, PL.l_sum, PL.l_eq, PL.l_ne, PL.l_eq0, PL.l_ne0, PL.l_eqT, PL.l_in, PL.l_nin, PL.l_cat, PL.l_catT, PL.l_stp, PL.l_rng1, PL.l_rng2, PL.x_fb, PL.x_fb1, PL.l_eq00, PL.l_ne00, PL.l_eq01, PL.l_ne01, PL.l_lenS, PL.x_ODof, PL.x_dc2, PL.x_dc1, PL.x_dcO, PL.l_nin_tk, PL.l_in_tk, PL.l_min, PL.l_slT, PL.l_slL, PL.l_rng3, PL.x_rgl2, PL.x_rgl1, PL.x_rgList, PL.x_rgTup, PL.x_gp3, PL.x_gp2, PL.x_gp1, PL.x_getP, PL.x_mt2, PL.x_mt1, PL.x_meth1, PL.l_isL, PL.x_XRo, PL.x_XRe, PL.x_calX, PL.x_calXe, PL.x_callX, PL.x_rai1, PL.x_rai, PL.x_try3, PL.x_try2, PL.x_try2f, PL.x_try1, PL.x_try1r, PL.x_try1n, PL.x_tryR, PL.x_exu1, PL.x_exb1, PL.x_exc1, PL.x_exc2, PL.x_exm1, PL.x_exSB, PL.x_exr1, PL.x_exe1, PL.x_exi1, PL.x_exRT, List.getElem?_cons_zero, List.getElem?_cons_succ, List.set_cons_zero, List.set_cons_succ, List.length_cons, List.length_nil, List.map_cons, List.map_nil, List.replicate_succ, List.replicate_zero, List.cons_append, List.nil_append, Nat.zero_add, Nat.add_zero, Nat.reduceAdd, Nat.reduceSub, Nat.reduceMul, Nat.reduceLT, Nat.reduceEqDiff, Bool.not_true, Bool.not_false, Bool.true_and, Bool.false_and, Bool.and_true, Bool.and_false, Bool.true_or, Bool.false_or, Bool.or_true, Bool.or_false, List.all_cons, List.all_nil, PL.nl_len, List.length_map, List.length_range, isiT, tyD, Option.map_some, Option.map_none, ne_eq, not_false_eq_true, not_true_eq_false, decide_true, decide_false, eq_self, implies_true, gt_iff_lt, ge_iff_le, h1, i1, s2]
    · refine ⟨w0, l7, p7, hw0b, by omega, ?_⟩
      simp -implicitDefEqProofs (disch := (first | omega | assumption)) only [PL.x_Rof, PL.x_cst, PL.x_var, PL.x_var1f, PL.x_var1l, PL.x_var1d, PL.x_pk, PL.x_pk1f, PL.x_pk1l, PL.x_pk1d, PL.x_pk1i, PL.x_pkF, PL.x_un1, PL.x_un, PL.x_truF, PL.x_bOf, PL.x_tstF, PL.x_notT, PL.x_bin1, PL.x_bin, PL.x_bp3, PL.x_bp2, PL.x_bp1, PL.x_binP, PL.x_andT, PL.x_orT, PL.x_and1t, PL.x_and1f, PL.x_or1t, PL.x_or1f, PL.x_andV, PL.x_orV, PL.x_andV1t, PL.x_andV1f, PL.x_orV1t, PL.x_orV1f, PL.x_ifE, PL.x_ifE1t, PL.x_ifE1f, PL.x_chainD, PL.x_ch1, PL.x_ch2, PL.x_ch3t, PL.x_ch3f, PL.x_nilA, PL.x_consA, PL.x_cons1, PL.x_cons2, PL.x_few, PL.x_mk1, PL.x_tupD, PL.x_lstD, PL.x_lstO, PL.x_dctO0, PL.x_frO, PL.x_cb, PL.x_noP, PL.x_iOf, PL.x_someP, PL.x_sl31, PL.x_sl32, PL.x_sl3, PL.x_slK1, PL.x_slK, PL.x_frF, PL.x_frS, PL.x_cal1, PL.x_callF, PL.x_callO, PL.x_FMof, PL.x_cm1, PL.x_cm2, PL.x_cm3, PL.x_callM, PL.x_FMO, PL.x_cmo1, PL.x_cmo2, PL.x_callMO, PL.x_frzR, PL.x_itF, PL.x_rngF, PL.x_OLof, PL.x_lc2, PL.x_lc1, PL.x_lcO, PL.x_cat1, PL.x_catO, PL.x_cp1, PL.x_cp2, PL.x_cp3, PL.x_catPO, PL.x_SBn, PL.x_SBr, PL.x_skipS, PL.x_badS, PL.x_seqS, PL.x_nxO, PL.x_set1, PL.x_setS, PL.x_setO1f, PL.x_setO1l, PL.x_setO1d, PL.x_setOS, PL.x_ret1, PL.x_retO1, PL.x_exp1, PL.x_retS, PL.x_retOS, PL.x_exprS, PL.x_ifS, PL.x_if1t, PL.x_if1f, PL.x_asg1, PL.x_asgS, PL.x_argsP0, PL.x_ap1f, PL.x_ap1l, PL.x_ap1d, PL.x_ap2, PL.x_argsP, PL.x_par1, PL.x_parP, PL.x_putP0, PL.x_pp1, PL.x_putP, PL.x_app1, PL.x_app2, PL.x_nxB, PL.x_app3, PL.x_appS, PL.x_dp1, PL.x_dp2, PL.x_dp3, PL.x_dp4, PL.x_dputS, PL.x_keyI, PL.x_keyS, PL.x_up1, PL.x_up2, PL.x_up3, PL.x_updS, PL.x_for1, PL.x_forS, PL.x_RTr, PL.x_RTn, PL.x_rf1, PL.x_runF, PL.x_RMr, PL.x_RMn, PL.x_MIo, PL.x_ioOf, PL.x_rm1, PL.x_runM, PL.x_putR, PL.x_putR0f, PL.x_putR0l, PL.x_putR0d, PL.x_putR0n, PL.x_noIof, PL.x_noIol, PL.x_noIod, PL.x_noIon, PL.x_tgN, PL.x_tgT, PL.x_putAll0, PL.x_pa1, PL.x_putAll, PL.x_dAt, PL.x_dSlo, PL.x_dSli, PL.x_dPut, PL.x_dPuo, PL.x_dPui, PL.x_lAt, PL.x_lSl, PL.x_envOf, PL.x_envM, PL.x_toDl, PL.x_toDd, PL.x_toDf, PL.x_nof, PL.x_nol, PL.x_nod, PL.x_okW, PL.x_wipe0, PL.x_wipe, PL.x_yesT, PL.n_add, PL.n_mul, PL.n_mod, PL.n_div, PL.n_sub, PL.n_lt, PL.n_le, PL.n_eq, PL.d_t, PL.d_f, PL.y_add, PL.y_sub, PL.y_mod, PL.y_div, PL.y_mulL, PL.y_mulR, PL.y_lt, PL.y_le, PL.y_gt, PL.y_ge, PL.y_cmp, PL.y_eq, PL.y_ne, PL.y_int, PL.y_notD, PL.y_truB, PL.y_neg, PL.y_isi_n, PL.y_isi_b, PL.y_isi_i, PL.y_isi_s, PL.y_isi_l, PL.y_isi_t, PL.y_isi_d, PL.y_isi_c, PL.l_len, PL.l_lenT, PL.l_it, PL.l_itT, PL.l_tuple, PL.l_list, PL.l_listL, PL.l_ix, PL.l_ixT, PL.l_sum, PL.l_eq, PL.l_ne, PL.l_eq0, PL.l_ne0, PL.l_eqT, PL.l_in, PL.l_nin, PL.l_cat, PL.l_catT, PL.l_stp, PL.l_rng1, PL.l_rng2, PL.x_fb, PL.x_fb1, PL.l_eq00, PL.l_ne00, PL.l_eq01, PL.l_ne01, PL.l_lenS, PL.x_ODof, PL.x_dc2, PL.x_dc1, PL.x_dcO, PL.l_nin_tk, PL.l_in_tk, PL.l_min, PL.l_slT, PL.l_slL, PL.l_rng3, PL.x_rgl2, PL.x_rgl1, PL.x_rgList, PL.x_rgTup, PL.x_gp3, PL.x_gp2, PL.x_gp1, PL.x_getP, PL.x_mt2, PL.x_mt1, PL.x_meth1, PL.l_isL, PL.x_XRo, PL.x_XRe, PL.x_calX, PL.x_calXe, PL.x_callX, PL.x_rai1, PL.x_rai, PL.x_try3, PL.x_try2, PL.x_try2f, PL.x_try1, PL.x_try1r, PL.x_try1n, PL.x_tryR, PL.x_exu1, PL.x_exb1, PL.x_exc1, PL.x_exc2, PL.x_exm1, PL.x_exSB, PL.x_exr1, PL.x_exe1, PL.x_exi1, PL.x_exRT, List.getElem?_cons_zero, List.getElem?_cons_succ, List.set_cons_zero, List.set_cons_succ, List.length_cons, List.length_nil, List.map_cons, List.map_nil, List.replicate_succ, List.replicate_zero, List.cons_append, List.nil_append, Nat.zero_add, Nat.add_zero, Nat.reduceAdd, Nat.reduceSub, Nat.reduceMul, Nat.reduceLT, Nat.reduceEqDiff, Bool.not_true, Bool.not_false, Bool.true_and, Bool.false_and, Bool.and_true, Bool.and_false, Bool.true_or, Bool.false_or, Bool.or_true, Bool.or_false, List.all_cons, List.all_nil, PL.nl_len, List.length_map, List.length_range, isiT, tyD, Option.map_some, Option.map_none, ne_eq, not_false_eq_true, not_true_eq_false, decide_true, decide_false, eq_self, implies_true, gt_iff_lt, ge_iff_le, h1, hu]
  have hk := keeps_ok (b := b) (width := c) (n := n) (w := w) hb ⟨by omega, by omega⟩ hw ⟨by omega, by omega⟩
  have hym := y_mod (b := n) (((b ^ c % n : Nat) : Int) - w) (by omega)
  have hsub : subD (.int ((b ^ c % n : Nat) : Int)) (.int w) = some (.int (((b ^ c % n : Nat) : Int) - w)) := rfl
  have heq : eqD (.int ((((b ^ c % n : Nat) : Int) - w) % (n : Int))) (.int (0 : Nat)) = some (.bl (decide ((((b ^ c % n : Nat) : Int) - w) % (n : Int) = 0))) := rfl
  have hsoI : decide ((((b ^ c % n : Nat) : Int) - w) % (n : Int) = 0) = true → (((b ^ c : Nat) : Int) - w) % (n : Int) = 0 := fun z => by
    have := of_decide_eq_true z
    rwa [emod_w _ _ _ (by omega)] at this
  have hso2 : decide ((w - ((b ^ c : Nat) : Int)) % (n : Int) = 0) = decide ((((b ^ c % n : Nat) : Int) - w) % (n : Int) = 0) := by
    refine decide_eq_decide.mpr ?_
    rw [emod_w _ _ _ (by omega), ← emod_neg]
    rw [show -(w - ((b ^ c : Nat) : Int)) = ((b ^ c : Nat) : Int) - w by omega]
  have rr := reprW_of ((rok_lst (rok_cons (rok_bl (decide ((((b ^ c % n : Nat) : Int) - w) % (n : Int) = 0)) 0) (rok_cons (rok_bl (decide ((((b ^ c % n : Nat) : Int) - w) % (n : Int) = 0)) 0) (rok_nil 0)))).repr (by omega) (by omega))
  generalize hso : decide ((((b ^ c % n : Nat) : Int) - w) % (n : Int) = 0) = so at hk heq hsoI hso2 rr
  generalize (((b ^ c % n : Nat) : Int) - w) % (n : Int) = e0 at hym heq
  generalize ((b ^ c % n : Nat) : Int) - w = e1 at hsub hym
  generalize hrr : b ^ c % n = r at hr hrl hif hsub
  have rn := neS (toPy (.lst [.bl so, .bl so])).shown
  generalize (toPy (.lst [.bl so, .bl so])).shown = T at rr rn
  -- the five turns
  obtain ⟨ρ', j1, l10, p10, e4, e9, e10, hp10, rfl⟩ := for_nl (tg := tgN 4) (bd := turnB) (ns := List.range 5) (ρ := [some (.io (ms2 l9 sd cs p9)), I w, I r, V (.bl so), none, none, I b, I c, I n, none, none, none, none]) (fun i ρ => ∃ (l' p' : Nat) (e4 e9 e10 : Option Sl), p' ≤ p9 + 3 * i ∧ ρ = [some (.io (ms2 l' sd cs p')), I w, I r, V (.bl so), e4, none, I b, I c, I n, e9, e10, none, none]) ⟨l9, p9, none, none, none, by omega, rfl⟩ (by
    rintro i t ρ hi ⟨l', p', e4, e9, e10, hp', rfl⟩
    have hi5 : i < 5 := by have := (List.getElem?_eq_some_iff.mp hi).1; rwa [List.length_range] at this
    obtain ⟨l'', p'', e9', e10', q1, q2⟩ := turn_ok (b := b) (c := c) (n := n) (w := w) (so := so) (r := r) (t := t) (l := l') (p := p') hc hs (by omega) hb hcc hn hw hsoI e4 none e9 e10
    exact ⟨_, q2, l'', p'', I t, e9', e10', by omega, rfl⟩)
  -- the step
  obtain ⟨ρ', j2, f4, rfl⟩ := for_nl (tg := tgN 4) (bd := setS 5 (bin mulD (var 5) (pkF 6))) (ns := List.range c) (ρ := [some (.io (ms2 l10 sd cs p10)), I w, I r, V (.bl so), e4, I (1 : Nat), I b, I c, I n, e9, e10, none, none]) (fun i ρ => ∃ (f4 : Option Sl), ρ = [some (.io (ms2 l10 sd cs p10)), I w, I r, V (.bl so), f4, I (b ^ i : Nat), I b, I c, I n, e9, e10, none, none]) ⟨e4, by rw [Nat.pow_zero]⟩ (by
    rintro i t ρ hi ⟨f4, rfl⟩
    rw [Nat.pow_succ]
    generalize b ^ i = B
    exact ⟨_, by simp -implicitDefEqProofs (disch := (first | omega | assumption)) only [PL.x_Rof, PL.x_cst, PL.x_var, PL.x_var1f, PL.x_var1l, PL.x_var1d, PL.x_pk, PL.x_pk1f, PL.x_pk1l, PL.x_pk1d, PL.x_pk1i, PL.x_pkF, PL.x_un1, PL.x_un, PL.x_truF, PL.x_bOf, PL.x_tstF, PL.x_notT, PL.x_bin1, PL.x_bin, PL.x_bp3, PL.x_bp2, PL.x_bp1, PL.x_binP, PL.x_andT, PL.x_orT, PL.x_and1t, PL.x_and1f, PL.x_or1t, PL.x_or1f, PL.x_andV, PL.x_orV, PL.x_andV1t, PL.x_andV1f, PL.x_orV1t, PL.x_orV1f, PL.x_ifE, PL.x_ifE1t, PL.x_ifE1f, PL.x_chainD, PL.x_ch1, PL.x_ch2, PL.x_ch3t, PL.x_ch3f, PL.x_nilA, PL.x_consA, PL.x_cons1, PL.x_cons2, PL.x_few, PL.x_mk1, PL.x_tupD, PL.x_lstD, PL.x_lstO, PL.x_dctO0, PL.x_frO, PL.x_cb, PL.x_noP, PL.x_iOf, PL.x_someP, PL.x_sl31, PL.x_sl32, PL.x_sl3, PL.x_slK1, PL.x_slK, PL.x_frF, PL.x_frS, PL.x_cal1, PL.x_callF, PL.x_callO, PL.x_FMof, PL.x_cm1, PL.x_cm2, PL.x_cm3, PL.x_callM, PL.x_FMO, PL.x_cmo1, PL.x_cmo2, PL.x_callMO, PL.x_frzR, PL.x_itF, PL.x_rngF, PL.x_OLof, PL.x_lc2, PL.x_lc1, PL.x_lcO, PL.x_cat1, PL.x_catO, PL.x_cp1, PL.x_cp2, PL.x_cp3, PL.x_catPO, PL.x_SBn, PL.x_SBr, PL.x_skipS, PL.x_badS, PL.x_seqS, PL.x_nxO, PL.x_set1, PL.x_setS, PL.x_setO1f, PL.x_setO1l, PL.x_setO1d, PL.x_setOS, PL.x_ret1, PL.x_retO1, PL.x_exp1, PL.x_retS, PL.x_retOS, PL.x_exprS, PL.x_ifS, PL.x_if1t, PL.x_if1f, PL.x_asg1, PL.x_asgS, PL.x_argsP0, PL.x_ap1f, PL.x_ap1l, PL.x_ap1d, PL.x_ap2, PL.x_argsP, PL.x_par1, PL.x_parP, PL.x_putP0, PL.x_pp1, PL.x_putP, PL.x_app1, PL.x_app2, PL.x_nxB, PL.x_app3, PL.x_appS, PL.x_dp1, PL.x_dp2, PL.x_dp3, PL.x_dp4, PL.x_dputS, PL.x_keyI, PL.x_keyS, PL.x_up1, PL.x_up2, PL.x_up3, PL.x_updS, PL.x_for1, PL.x_forS, PL.x_RTr, PL.x_RTn, PL.x_rf1, PL.x_runF, PL.x_RMr, PL.x_RMn, PL.x_MIo, PL.x_ioOf, PL.x_rm1, PL.x_runM, PL.x_putR, PL.x_putR0f, PL.x_putR0l, PL.x_putR0d, PL.x_putR0n, PL.x_noIof, PL.x_noIol, PL.x_noIod, PL.x_noIon, PL.x_tgN, PL.x_tgT, PL.x_putAll0, PL.x_pa1, PL.x_putAll, PL.x_dAt, PL.x_dSlo, PL.x_dSli, PL.x_dPut, PL.x_dPuo, PL.x_dPui, PL.x_lAt, PL.x_lSl, PL.x_envOf, PL.x_envM, PL.x_toDl, PL.x_toDd, PL.x_toDf, PL.x_nof, PL.x_nol, PL.x_nod, PL.x_okW, PL.x_wipe0, PL.x_wipe, PL.x_yesT, PL.n_add, PL.n_mul, PL.n_mod, PL.n_div, PL.n_sub, PL.n_lt, PL.n_le, PL.n_eq, PL.d_t, PL.d_f, PL.y_add, PL.y_sub, PL.y_mod, PL.y_div, PL.y_mulL, PL.y_mulR, PL.y_lt, PL.y_le, PL.y_gt, PL.y_ge, PL.y_cmp, PL.y_eq, PL.y_ne, PL.y_int, PL.y_notD, PL.y_truB, PL.y_neg, PL.y_isi_n, PL.y_isi_b, PL.y_isi_i, PL.y_isi_s, PL.y_isi_l, PL.y_isi_t, PL.y_isi_d, PL.y_isi_c, PL.l_len, PL.l_lenT, PL.l_it, PL.l_itT, PL.l_tuple, PL.l_list, PL.l_listL, PL.l_ix, PL.l_ixT, PL.l_sum, PL.l_eq, PL.l_ne, PL.l_eq0, PL.l_ne0, PL.l_eqT, PL.l_in, PL.l_nin, PL.l_cat, PL.l_catT, PL.l_stp, PL.l_rng1, PL.l_rng2, PL.x_fb, PL.x_fb1, PL.l_eq00, PL.l_ne00, PL.l_eq01, PL.l_ne01, PL.l_lenS, PL.x_ODof, PL.x_dc2, PL.x_dc1, PL.x_dcO, PL.l_nin_tk, PL.l_in_tk, PL.l_min, PL.l_slT, PL.l_slL, PL.l_rng3, PL.x_rgl2, PL.x_rgl1, PL.x_rgList, PL.x_rgTup, PL.x_gp3, PL.x_gp2, PL.x_gp1, PL.x_getP, PL.x_mt2, PL.x_mt1, PL.x_meth1, PL.l_isL, PL.x_XRo, PL.x_XRe, PL.x_calX, PL.x_calXe, PL.x_callX, PL.x_rai1, PL.x_rai, PL.x_try3, PL.x_try2, PL.x_try2f, PL.x_try1, PL.x_try1r, PL.x_try1n, PL.x_tryR, PL.x_exu1, PL.x_exb1, PL.x_exc1, PL.x_exc2, PL.x_exm1, PL.x_exSB, PL.x_exr1, PL.x_exe1, PL.x_exi1, PL.x_exRT, List.getElem?_cons_zero, List.getElem?_cons_succ, List.set_cons_zero, List.set_cons_succ, List.length_cons, List.length_nil, List.map_cons, List.map_nil, List.replicate_succ, List.replicate_zero, List.cons_append, List.nil_append, Nat.zero_add, Nat.add_zero, Nat.reduceAdd, Nat.reduceSub, Nat.reduceMul, Nat.reduceLT, Nat.reduceEqDiff, Bool.not_true, Bool.not_false, Bool.true_and, Bool.false_and, Bool.and_true, Bool.and_false, Bool.true_or, Bool.false_or, Bool.or_true, Bool.or_false, List.all_cons, List.all_nil, PL.nl_len, List.length_map, List.length_range, isiT, tyD, Option.map_some, Option.map_none, ne_eq, not_false_eq_true, not_true_eq_false, decide_true, decide_false, eq_self, implies_true, gt_iff_lt, ge_iff_le, x_fb, x_fb1], I t, rfl⟩)
  rw [List.length_range] at j2
  have hS2 := step_two hb.1 hcc.1
  have hSl : b ^ c ≤ 10 ^ 60 := by
    have h1 : b ^ c ≤ 1000 ^ c := Nat.pow_le_pow_left hb.2 c
    have h2 : 1000 ^ c ≤ 1000 ^ 6 := Nat.pow_le_pow_right (by omega) hcc.2
    have h3 : (1000 : Nat) ^ 6 ≤ 10 ^ 60 := by decide
    omega
  have k1 := block_sum_ok (b := b) (width := c) (w := w) (x := b ^ c) hb ⟨by omega, by omega⟩ hw hSl
  rw [bsR_self hS2 (Nat.lt_of_le_of_lt hSl m60_lt)] at k1
  have k2 : ∀ k : Nat, k < b ^ c → k < 12 → m_block_sum [.int b, .int c, .int w, .int (k : Nat)] = .ok (.fr (.int (k : Nat))) := fun k q1 q2 => by
    have := block_sum_ok (b := b) (width := c) (w := w) (x := k) hb ⟨by omega, by omega⟩ hw (by omega)
    rwa [bsR_less q1 (Nat.lt_of_le_of_lt (show k ≤ 10 ^ 60 by omega) m60_lt)] at this
  have k3 := l_min2 (b ^ c) 12
  have k4 : subD (.int w) (.int (b ^ c : Nat)) = some (.int (w - ((b ^ c : Nat) : Int))) := rfl
  have k5 := y_mod (b := n) (w - ((b ^ c : Nat) : Int)) (by omega)
  have k6 : eqD (.int ((w - ((b ^ c : Nat) : Int)) % (n : Int))) (.int (0 : Nat)) = some (.bl so) := by
    rw [← hso2]
    rfl
  have k7 := ne_bl so
  generalize (w - ((b ^ c : Nat) : Int)) % (n : Int) = e2 at k5 k6
  generalize w - ((b ^ c : Nat) : Int) = e3 at k4 k5
  generalize b ^ c = S at j2 k1 k2 k3 k4
  have hneg1 : negD (.int (1 : Nat)) = some (.int (-((1 : Nat) : Int))) := rfl
  refine ⟨l10, p10, ?_⟩
  have s1' := s1
  generalize (v : Int) - ((1000 : Nat) : Int) = v1 at s1' g1
  simp -implicitDefEqProofs (disch := (first | omega | assumption)) only [PL.x_Rof, PL.x_cst, PL.x_var, PL.x_var1f, PL.x_var1l, PL.x_var1d, PL.x_pk, PL.x_pk1f, PL.x_pk1l, PL.x_pk1d, PL.x_pk1i, PL.x_pkF, PL.x_un1, PL.x_un, PL.x_truF, PL.x_bOf, PL.x_tstF, PL.x_notT, PL.x_bin1, PL.x_bin, PL.x_bp3, PL.x_bp2, PL.x_bp1, PL.x_binP, PL.x_andT, PL.x_orT, PL.x_and1t, PL.x_and1f, PL.x_or1t, PL.x_or1f, PL.x_andV, PL.x_orV, PL.x_andV1t, PL.x_andV1f, PL.x_orV1t, PL.x_orV1f, PL.x_ifE, PL.x_ifE1t, PL.x_ifE1f, PL.x_chainD, PL.x_ch1, PL.x_ch2, PL.x_ch3t, PL.x_ch3f, PL.x_nilA, PL.x_consA, PL.x_cons1, PL.x_cons2, PL.x_few, PL.x_mk1, PL.x_tupD, PL.x_lstD, PL.x_lstO, PL.x_dctO0, PL.x_frO, PL.x_cb, PL.x_noP, PL.x_iOf, PL.x_someP, PL.x_sl31, PL.x_sl32, PL.x_sl3, PL.x_slK1, PL.x_slK, PL.x_frF, PL.x_frS, PL.x_cal1, PL.x_callF, PL.x_callO, PL.x_FMof, PL.x_cm1, PL.x_cm2, PL.x_cm3, PL.x_callM, PL.x_FMO, PL.x_cmo1, PL.x_cmo2, PL.x_callMO, PL.x_frzR, PL.x_itF, PL.x_rngF, PL.x_OLof, PL.x_lc2, PL.x_lc1, PL.x_lcO, PL.x_cat1, PL.x_catO, PL.x_cp1, PL.x_cp2, PL.x_cp3, PL.x_catPO, PL.x_SBn, PL.x_SBr, PL.x_skipS, PL.x_badS, PL.x_seqS, PL.x_nxO, PL.x_set1, PL.x_setS, PL.x_setO1f, PL.x_setO1l, PL.x_setO1d, PL.x_setOS, PL.x_ret1, PL.x_retO1, PL.x_exp1, PL.x_retS, PL.x_retOS, PL.x_exprS, PL.x_ifS, PL.x_if1t, PL.x_if1f, PL.x_asg1, PL.x_asgS, PL.x_argsP0, PL.x_ap1f, PL.x_ap1l, PL.x_ap1d, PL.x_ap2, PL.x_argsP, PL.x_par1, PL.x_parP, PL.x_putP0, PL.x_pp1, PL.x_putP, PL.x_app1, PL.x_app2, PL.x_nxB, PL.x_app3, PL.x_appS, PL.x_dp1, PL.x_dp2, PL.x_dp3, PL.x_dp4, PL.x_dputS, PL.x_keyI, PL.x_keyS, PL.x_up1, PL.x_up2, PL.x_up3, PL.x_updS, PL.x_for1, PL.x_forS, PL.x_RTr, PL.x_RTn, PL.x_rf1, PL.x_runF, PL.x_RMr, PL.x_RMn, PL.x_MIo, PL.x_ioOf, PL.x_rm1, PL.x_runM, PL.x_putR, PL.x_putR0f, PL.x_putR0l, PL.x_putR0d, PL.x_putR0n, PL.x_noIof, PL.x_noIol, PL.x_noIod, PL.x_noIon, PL.x_tgN, PL.x_tgT, PL.x_putAll0, PL.x_pa1, PL.x_putAll, PL.x_dAt, PL.x_dSlo, PL.x_dSli, PL.x_dPut, PL.x_dPuo, PL.x_dPui, PL.x_lAt, PL.x_lSl, PL.x_envOf, PL.x_envM, PL.x_toDl, PL.x_toDd, PL.x_toDf, PL.x_nof, PL.x_nol, PL.x_nod, PL.x_okW, PL.x_wipe0, PL.x_wipe, PL.x_yesT, PL.n_add, PL.n_mul, PL.n_mod, PL.n_div, PL.n_sub, PL.n_lt, PL.n_le, PL.n_eq, PL.d_t, PL.d_f, PL.y_add, PL.y_sub, PL.y_mod, PL.y_div, PL.y_mulL, PL.y_mulR, PL.y_lt, PL.y_le, PL.y_gt, PL.y_ge, PL.y_cmp, PL.y_eq, PL.y_ne, PL.y_int, PL.y_notD, PL.y_truB, PL.y_neg, PL.y_isi_n, PL.y_isi_b, PL.y_isi_i, PL.y_isi_s, PL.y_isi_l, PL.y_isi_t, PL.y_isi_d, PL.y_isi_c, PL.l_len, PL.l_lenT, PL.l_it, PL.l_itT, PL.l_tuple, PL.l_list, PL.l_listL, PL.l_ix, PL.l_ixT, PL.l_sum, PL.l_eq, PL.l_ne, PL.l_eq0, PL.l_ne0, PL.l_eqT, PL.l_in, PL.l_nin, PL.l_cat, PL.l_catT, PL.l_stp, PL.l_rng1, PL.l_rng2, PL.x_fb, PL.x_fb1, PL.l_eq00, PL.l_ne00, PL.l_eq01, PL.l_ne01, PL.l_lenS, PL.x_ODof, PL.x_dc2, PL.x_dc1, PL.x_dcO, PL.l_nin_tk, PL.l_in_tk, PL.l_min, PL.l_slT, PL.l_slL, PL.l_rng3, PL.x_rgl2, PL.x_rgl1, PL.x_rgList, PL.x_rgTup, PL.x_gp3, PL.x_gp2, PL.x_gp1, PL.x_getP, PL.x_mt2, PL.x_mt1, PL.x_meth1, PL.l_isL, PL.x_XRo, PL.x_XRe, PL.x_calX, PL.x_calXe, PL.x_callX, PL.x_rai1, PL.x_rai, PL.x_try3, PL.x_try2, PL.x_try2f, PL.x_try1, PL.x_try1r, PL.x_try1n, PL.x_tryR, PL.x_exu1, PL.x_exb1, PL.x_exc1, PL.x_exc2, PL.x_exm1, PL.x_exSB, PL.x_exr1, PL.x_exe1, PL.x_exi1, PL.x_exRT, List.getElem?_cons_zero, List.getElem?_cons_succ, List.set_cons_zero, List.set_cons_succ, List.length_cons, List.length_nil, List.map_cons, List.map_nil, List.replicate_succ, List.replicate_zero, List.cons_append, List.nil_append, Nat.zero_add, Nat.add_zero, Nat.reduceAdd, Nat.reduceSub, Nat.reduceMul, Nat.reduceLT, Nat.reduceEqDiff, Bool.not_true, Bool.not_false, Bool.true_and, Bool.false_and, Bool.and_true, Bool.and_false, Bool.true_or, Bool.false_or, Bool.or_true, Bool.or_false, List.all_cons, List.all_nil, PL.nl_len, List.length_map, List.length_range, isiT, tyD, Option.map_some, Option.map_none, ne_eq, not_false_eq_true, not_true_eq_false, decide_true, decide_false, eq_self, implies_true, gt_iff_lt, ge_iff_le, m__law_right, b__law_right, a1, b1', c1, d1, hN, hC, f1, s1', g1, hr, ↓hif, hsub, hym, heq]
  rw [lc_natD fun _ => Dt.bl so]
  rotate_left
  · exact fun k _ => ⟨_, rfl, by simp -implicitDefEqProofs (disch := (first | omega | assumption)) only [PL.x_Rof, PL.x_cst, PL.x_var, PL.x_var1f, PL.x_var1l, PL.x_var1d, PL.x_pk, PL.x_pk1f, PL.x_pk1l, PL.x_pk1d, PL.x_pk1i, PL.x_pkF, PL.x_un1, PL.x_un, PL.x_truF, PL.x_bOf, PL.x_tstF, PL.x_notT, PL.x_bin1, PL.x_bin, PL.x_bp3, PL.x_bp2, PL.x_bp1, PL.x_binP, PL.x_andT, PL.x_orT, PL.x_and1t, PL.x_and1f, PL.x_or1t, PL.x_or1f, PL.x_andV, PL.x_orV, PL.x_andV1t, PL.x_andV1f, PL.x_orV1t, PL.x_orV1f, PL.x_ifE, PL.x_ifE1t, PL.x_ifE1f, PL.x_chainD, PL.x_ch1, PL.x_ch2, PL.x_ch3t, PL.x_ch3f, PL.x_nilA, PL.x_consA, PL.x_cons1, PL.x_cons2, PL.x_few, PL.x_mk1, PL.x_tupD, PL.x_lstD, PL.x_lstO, PL.x_dctO0, PL.x_frO, PL.x_cb, PL.x_noP, PL.x_iOf, PL.x_someP, PL.x_sl31, PL.x_sl32, PL.x_sl3, PL.x_slK1, PL.x_slK, PL.x_frF, PL.x_frS, PL.x_cal1, PL.x_callF, PL.x_callO, PL.x_FMof, PL.x_cm1, PL.x_cm2, PL.x_cm3, PL.x_callM, PL.x_FMO, PL.x_cmo1, PL.x_cmo2, PL.x_callMO, PL.x_frzR, PL.x_itF, PL.x_rngF, PL.x_OLof, PL.x_lc2, PL.x_lc1, PL.x_lcO, PL.x_cat1, PL.x_catO, PL.x_cp1, PL.x_cp2, PL.x_cp3, PL.x_catPO, PL.x_SBn, PL.x_SBr, PL.x_skipS, PL.x_badS, PL.x_seqS, PL.x_nxO, PL.x_set1, PL.x_setS, PL.x_setO1f, PL.x_setO1l, PL.x_setO1d, PL.x_setOS, PL.x_ret1, PL.x_retO1, PL.x_exp1, PL.x_retS, PL.x_retOS, PL.x_exprS, PL.x_ifS, PL.x_if1t, PL.x_if1f, PL.x_asg1, PL.x_asgS, PL.x_argsP0, PL.x_ap1f, PL.x_ap1l, PL.x_ap1d, PL.x_ap2, PL.x_argsP, PL.x_par1, PL.x_parP, PL.x_putP0, PL.x_pp1, PL.x_putP, PL.x_app1, PL.x_app2, PL.x_nxB, PL.x_app3, PL.x_appS, PL.x_dp1, PL.x_dp2, PL.x_dp3, PL.x_dp4, PL.x_dputS, PL.x_keyI, PL.x_keyS, PL.x_up1, PL.x_up2, PL.x_up3, PL.x_updS, PL.x_for1, PL.x_forS, PL.x_RTr, PL.x_RTn, PL.x_rf1, PL.x_runF, PL.x_RMr, PL.x_RMn, PL.x_MIo, PL.x_ioOf, PL.x_rm1, PL.x_runM, PL.x_putR, PL.x_putR0f, PL.x_putR0l, PL.x_putR0d, PL.x_putR0n, PL.x_noIof, PL.x_noIol, PL.x_noIod, PL.x_noIon, PL.x_tgN, PL.x_tgT, PL.x_putAll0, PL.x_pa1, PL.x_putAll, PL.x_dAt, PL.x_dSlo, PL.x_dSli, PL.x_dPut, PL.x_dPuo, PL.x_dPui, PL.x_lAt, PL.x_lSl, PL.x_envOf, PL.x_envM, PL.x_toDl, PL.x_toDd, PL.x_toDf, PL.x_nof, PL.x_nol, PL.x_nod, PL.x_okW, PL.x_wipe0, PL.x_wipe, PL.x_yesT, PL.n_add, PL.n_mul, PL.n_mod, PL.n_div, PL.n_sub, PL.n_lt, PL.n_le, PL.n_eq, PL.d_t, PL.d_f, PL.y_add, PL.y_sub, PL.y_mod, PL.y_div, PL.y_mulL, PL.y_mulR, PL.y_lt, PL.y_le, PL.y_gt, PL.y_ge, PL.y_cmp, PL.y_eq, PL.y_ne, PL.y_int, PL.y_notD, PL.y_truB, PL.y_neg, PL.y_isi_n, PL.y_isi_b, PL.y_isi_i, PL.y_isi_s, PL.y_isi_l, PL.y_isi_t, PL.y_isi_d, PL.y_isi_c, PL.l_len, PL.l_lenT, PL.l_it, PL.l_itT, PL.l_tuple, PL.l_list, PL.l_listL, PL.l_ix, PL.l_ixT, PL.l_sum, PL.l_eq, PL.l_ne, PL.l_eq0, PL.l_ne0, PL.l_eqT, PL.l_in, PL.l_nin, PL.l_cat, PL.l_catT, PL.l_stp, PL.l_rng1, PL.l_rng2, PL.x_fb, PL.x_fb1, PL.l_eq00, PL.l_ne00, PL.l_eq01, PL.l_ne01, PL.l_lenS, PL.x_ODof, PL.x_dc2, PL.x_dc1, PL.x_dcO, PL.l_nin_tk, PL.l_in_tk, PL.l_min, PL.l_slT, PL.l_slL, PL.l_rng3, PL.x_rgl2, PL.x_rgl1, PL.x_rgList, PL.x_rgTup, PL.x_gp3, PL.x_gp2, PL.x_gp1, PL.x_getP, PL.x_mt2, PL.x_mt1, PL.x_meth1, PL.l_isL, PL.x_XRo, PL.x_XRe, PL.x_calX, PL.x_calXe, PL.x_callX, PL.x_rai1, PL.x_rai, PL.x_try3, PL.x_try2, PL.x_try2f, PL.x_try1, PL.x_try1r, PL.x_try1n, PL.x_tryR, PL.x_exu1, PL.x_exb1, PL.x_exc1, PL.x_exc2, PL.x_exm1, PL.x_exSB, PL.x_exr1, PL.x_exe1, PL.x_exi1, PL.x_exRT, List.getElem?_cons_zero, List.getElem?_cons_succ, List.set_cons_zero, List.set_cons_succ, List.length_cons, List.length_nil, List.map_cons, List.map_nil, List.replicate_succ, List.replicate_zero, List.cons_append, List.nil_append, Nat.zero_add, Nat.add_zero, Nat.reduceAdd, Nat.reduceSub, Nat.reduceMul, Nat.reduceLT, Nat.reduceEqDiff, Bool.not_true, Bool.not_false, Bool.true_and, Bool.false_and, Bool.and_true, Bool.and_false, Bool.true_or, Bool.false_or, Bool.or_true, Bool.or_false, List.all_cons, List.all_nil, PL.nl_len, List.length_map, List.length_range, isiT, tyD, Option.map_some, Option.map_none, ne_eq, not_false_eq_true, not_true_eq_false, decide_true, decide_false, eq_self, implies_true, gt_iff_lt, ge_iff_le, hk], rfl⟩
  rw [show (List.range 2).map (fun _ => Dt.bl so) = [Dt.bl so, Dt.bl so] from rfl]
  simp -implicitDefEqProofs (disch := (first | omega | assumption)) only [PL.x_Rof, PL.x_cst, PL.x_var, PL.x_var1f, PL.x_var1l, PL.x_var1d, PL.x_pk, PL.x_pk1f, PL.x_pk1l, PL.x_pk1d, PL.x_pk1i, PL.x_pkF, PL.x_un1, PL.x_un, PL.x_truF, PL.x_bOf, PL.x_tstF, PL.x_notT, PL.x_bin1, PL.x_bin, PL.x_bp3, PL.x_bp2, PL.x_bp1, PL.x_binP, PL.x_andT, PL.x_orT, PL.x_and1t, PL.x_and1f, PL.x_or1t, PL.x_or1f, PL.x_andV, PL.x_orV, PL.x_andV1t, PL.x_andV1f, PL.x_orV1t, PL.x_orV1f, PL.x_ifE, PL.x_ifE1t, PL.x_ifE1f, PL.x_chainD, PL.x_ch1, PL.x_ch2, PL.x_ch3t, PL.x_ch3f, PL.x_nilA, PL.x_consA, PL.x_cons1, PL.x_cons2, PL.x_few, PL.x_mk1, PL.x_tupD, PL.x_lstD, PL.x_lstO, PL.x_dctO0, PL.x_frO, PL.x_cb, PL.x_noP, PL.x_iOf, PL.x_someP, PL.x_sl31, PL.x_sl32, PL.x_sl3, PL.x_slK1, PL.x_slK, PL.x_frF, PL.x_frS, PL.x_cal1, PL.x_callF, PL.x_callO, PL.x_FMof, PL.x_cm1, PL.x_cm2, PL.x_cm3, PL.x_callM, PL.x_FMO, PL.x_cmo1, PL.x_cmo2, PL.x_callMO, PL.x_frzR, PL.x_itF, PL.x_rngF, PL.x_OLof, PL.x_lc2, PL.x_lc1, PL.x_lcO, PL.x_cat1, PL.x_catO, PL.x_cp1, PL.x_cp2, PL.x_cp3, PL.x_catPO, PL.x_SBn, PL.x_SBr, PL.x_skipS, PL.x_badS, PL.x_seqS, PL.x_nxO, PL.x_set1, PL.x_setS, PL.x_setO1f, PL.x_setO1l, PL.x_setO1d, PL.x_setOS, PL.x_ret1, PL.x_retO1, PL.x_exp1, PL.x_retS, PL.x_retOS, PL.x_exprS, PL.x_ifS, PL.x_if1t, PL.x_if1f, PL.x_asg1, PL.x_asgS, PL.x_argsP0, PL.x_ap1f, PL.x_ap1l, PL.x_ap1d, PL.x_ap2, PL.x_argsP, PL.x_par1, PL.x_parP, PL.x_putP0, PL.x_pp1, PL.x_putP, PL.x_app1, PL.x_app2, PL.x_nxB, PL.x_app3, PL.x_appS, PL.x_dp1, PL.x_dp2, PL.x_dp3, PL.x_dp4, PL.x_dputS, PL.x_keyI, PL.x_keyS, PL.x_up1, PL.x_up2, PL.x_up3, PL.x_updS, PL.x_for1, PL.x_forS, PL.x_RTr, PL.x_RTn, PL.x_rf1, PL.x_runF, PL.x_RMr, PL.x_RMn, PL.x_MIo, PL.x_ioOf, PL.x_rm1, PL.x_runM, PL.x_putR, PL.x_putR0f, PL.x_putR0l, PL.x_putR0d, PL.x_putR0n, PL.x_noIof, PL.x_noIol, PL.x_noIod, PL.x_noIon, PL.x_tgN, PL.x_tgT, PL.x_putAll0, PL.x_pa1, PL.x_putAll, PL.x_dAt, PL.x_dSlo, PL.x_dSli, PL.x_dPut, PL.x_dPuo, PL.x_dPui, PL.x_lAt, PL.x_lSl, PL.x_envOf, PL.x_envM, PL.x_toDl, PL.x_toDd, PL.x_toDf, PL.x_nof, PL.x_nol, PL.x_nod, PL.x_okW, PL.x_wipe0, PL.x_wipe, PL.x_yesT, PL.n_add, PL.n_mul, PL.n_mod, PL.n_div, PL.n_sub, PL.n_lt, PL.n_le, PL.n_eq, PL.d_t, PL.d_f, PL.y_add, PL.y_sub, PL.y_mod, PL.y_div, PL.y_mulL, PL.y_mulR, PL.y_lt, PL.y_le, PL.y_gt, PL.y_ge, PL.y_cmp, PL.y_eq, PL.y_ne, PL.y_int, PL.y_notD, PL.y_truB, PL.y_neg, PL.y_isi_n, PL.y_isi_b, PL.y_isi_i, PL.y_isi_s, PL.y_isi_l, PL.y_isi_t, PL.y_isi_d, PL.y_isi_c, PL.l_len, PL.l_lenT, PL.l_it, PL.l_itT, PL.l_tuple, PL.l_list, PL.l_listL, PL.l_ix, PL.l_ixT, PL.l_sum, PL.l_eq, PL.l_ne, PL.l_eq0, PL.l_ne0, PL.l_eqT, PL.l_in, PL.l_nin, PL.l_cat, PL.l_catT, PL.l_stp, PL.l_rng1, PL.l_rng2, PL.x_fb, PL.x_fb1, PL.l_eq00, PL.l_ne00, PL.l_eq01, PL.l_ne01, PL.l_lenS, PL.x_ODof, PL.x_dc2, PL.x_dc1, PL.x_dcO, PL.l_nin_tk, PL.l_in_tk, PL.l_min, PL.l_slT, PL.l_slL, PL.l_rng3, PL.x_rgl2, PL.x_rgl1, PL.x_rgList, PL.x_rgTup, PL.x_gp3, PL.x_gp2, PL.x_gp1, PL.x_getP, PL.x_mt2, PL.x_mt1, PL.x_meth1, PL.l_isL, PL.x_XRo, PL.x_XRe, PL.x_calX, PL.x_calXe, PL.x_callX, PL.x_rai1, PL.x_rai, PL.x_try3, PL.x_try2, PL.x_try2f, PL.x_try1, PL.x_try1r, PL.x_try1n, PL.x_tryR, PL.x_exu1, PL.x_exb1, PL.x_exc1, PL.x_exc2, PL.x_exm1, PL.x_exSB, PL.x_exr1, PL.x_exe1, PL.x_exi1, PL.x_exRT, List.getElem?_cons_zero, List.getElem?_cons_succ, List.set_cons_zero, List.set_cons_succ, List.length_cons, List.length_nil, List.map_cons, List.map_nil, List.replicate_succ, List.replicate_zero, List.cons_append, List.nil_append, Nat.zero_add, Nat.add_zero, Nat.reduceAdd, Nat.reduceSub, Nat.reduceMul, Nat.reduceLT, Nat.reduceEqDiff, Bool.not_true, Bool.not_false, Bool.true_and, Bool.false_and, Bool.and_true, Bool.and_false, Bool.true_or, Bool.false_or, Bool.or_true, Bool.or_false, List.all_cons, List.all_nil, PL.nl_len, List.length_map, List.length_range, isiT, tyD, Option.map_some, Option.map_none, ne_eq, not_false_eq_true, not_true_eq_false, decide_true, decide_false, eq_self, implies_true, gt_iff_lt, ge_iff_le, rr, rn, j1, j2, k1, k4, k5, k6, k7, k3]
  rw [lc_natF fun _ => false]
  rotate_left
  · intro k hk
    have hk2 := List.mem_range.mp hk
    have q := k2 k (by omega) (by omega)
    exact ⟨_, rfl, by simp -implicitDefEqProofs (disch := (first | omega | assumption)) only [PL.x_Rof, PL.x_cst, PL.x_var, PL.x_var1f, PL.x_var1l, PL.x_var1d, PL.x_pk, PL.x_pk1f, PL.x_pk1l, PL.x_pk1d, PL.x_pk1i, PL.x_pkF, PL.x_un1, PL.x_un, PL.x_truF, PL.x_bOf, PL.x_tstF, PL.x_notT, PL.x_bin1, PL.x_bin, PL.x_bp3, PL.x_bp2, PL.x_bp1, PL.x_binP, PL.x_andT, PL.x_orT, PL.x_and1t, PL.x_and1f, PL.x_or1t, PL.x_or1f, PL.x_andV, PL.x_orV, PL.x_andV1t, PL.x_andV1f, PL.x_orV1t, PL.x_orV1f, PL.x_ifE, PL.x_ifE1t, PL.x_ifE1f, PL.x_chainD, PL.x_ch1, PL.x_ch2, PL.x_ch3t, PL.x_ch3f, PL.x_nilA, PL.x_consA, PL.x_cons1, PL.x_cons2, PL.x_few, PL.x_mk1, PL.x_tupD, PL.x_lstD, PL.x_lstO, PL.x_dctO0, PL.x_frO, PL.x_cb, PL.x_noP, PL.x_iOf, PL.x_someP, PL.x_sl31, PL.x_sl32, PL.x_sl3, PL.x_slK1, PL.x_slK, PL.x_frF, PL.x_frS, PL.x_cal1, PL.x_callF, PL.x_callO, PL.x_FMof, PL.x_cm1, PL.x_cm2, PL.x_cm3, PL.x_callM, PL.x_FMO, PL.x_cmo1, PL.x_cmo2, PL.x_callMO, PL.x_frzR, PL.x_itF, PL.x_rngF, PL.x_OLof, PL.x_lc2, PL.x_lc1, PL.x_lcO, PL.x_cat1, PL.x_catO, PL.x_cp1, PL.x_cp2, PL.x_cp3, PL.x_catPO, PL.x_SBn, PL.x_SBr, PL.x_skipS, PL.x_badS, PL.x_seqS, PL.x_nxO, PL.x_set1, PL.x_setS, PL.x_setO1f, PL.x_setO1l, PL.x_setO1d, PL.x_setOS, PL.x_ret1, PL.x_retO1, PL.x_exp1, PL.x_retS, PL.x_retOS, PL.x_exprS, PL.x_ifS, PL.x_if1t, PL.x_if1f, PL.x_asg1, PL.x_asgS, PL.x_argsP0, PL.x_ap1f, PL.x_ap1l, PL.x_ap1d, PL.x_ap2, PL.x_argsP, PL.x_par1, PL.x_parP, PL.x_putP0, PL.x_pp1, PL.x_putP, PL.x_app1, PL.x_app2, PL.x_nxB, PL.x_app3, PL.x_appS, PL.x_dp1, PL.x_dp2, PL.x_dp3, PL.x_dp4, PL.x_dputS, PL.x_keyI, PL.x_keyS, PL.x_up1, PL.x_up2, PL.x_up3, PL.x_updS, PL.x_for1, PL.x_forS, PL.x_RTr, PL.x_RTn, PL.x_rf1, PL.x_runF, PL.x_RMr, PL.x_RMn, PL.x_MIo, PL.x_ioOf, PL.x_rm1, PL.x_runM, PL.x_putR, PL.x_putR0f, PL.x_putR0l, PL.x_putR0d, PL.x_putR0n, PL.x_noIof, PL.x_noIol, PL.x_noIod, PL.x_noIon, PL.x_tgN, PL.x_tgT, PL.x_putAll0, PL.x_pa1, PL.x_putAll, PL.x_dAt, PL.x_dSlo, PL.x_dSli, PL.x_dPut, PL.x_dPuo, PL.x_dPui, PL.x_lAt, PL.x_lSl, PL.x_envOf, PL.x_envM, PL.x_toDl, PL.x_toDd, PL.x_toDf, PL.x_nof, PL.x_nol, PL.x_nod, PL.x_okW, PL.x_wipe0, PL.x_wipe, PL.x_yesT, PL.n_add, PL.n_mul, PL.n_mod, PL.n_div, PL.n_sub, PL.n_lt, PL.n_le, PL.n_eq, PL.d_t, PL.d_f, PL.y_add, PL.y_sub, PL.y_mod, PL.y_div, PL.y_mulL, PL.y_mulR, PL.y_lt, PL.y_le, PL.y_gt, PL.y_ge, PL.y_cmp, PL.y_eq, PL.y_ne, PL.y_int, PL.y_notD, PL.y_truB, PL.y_neg, PL.y_isi_n, PL.y_isi_b, PL.y_isi_i, PL.y_isi_s, PL.y_isi_l, PL.y_isi_t, PL.y_isi_d, PL.y_isi_c, PL.l_len, PL.l_lenT, PL.l_it, PL.l_itT, PL.l_tuple, PL.l_list, PL.l_listL, PL.l_ix, PL.l_ixT, PL.l_sum, PL.l_eq, PL.l_ne, PL.l_eq0, PL.l_ne0, PL.l_eqT, PL.l_in, PL.l_nin, PL.l_cat, PL.l_catT, PL.l_stp, PL.l_rng1, PL.l_rng2, PL.x_fb, PL.x_fb1, PL.l_eq00, PL.l_ne00, PL.l_eq01, PL.l_ne01, PL.l_lenS, PL.x_ODof, PL.x_dc2, PL.x_dc1, PL.x_dcO, PL.l_nin_tk, PL.l_in_tk, PL.l_min, PL.l_slT, PL.l_slL, PL.l_rng3, PL.x_rgl2, PL.x_rgl1, PL.x_rgList, PL.x_rgTup, PL.x_gp3, PL.x_gp2, PL.x_gp1, PL.x_getP, PL.x_mt2, PL.x_mt1, PL.x_meth1, PL.l_isL, PL.x_XRo, PL.x_XRe, PL.x_calX, PL.x_calXe, PL.x_callX, PL.x_rai1, PL.x_rai, PL.x_try3, PL.x_try2, PL.x_try2f, PL.x_try1, PL.x_try1r, PL.x_try1n, PL.x_tryR, PL.x_exu1, PL.x_exb1, PL.x_exc1, PL.x_exc2, PL.x_exm1, PL.x_exSB, PL.x_exr1, PL.x_exe1, PL.x_exi1, PL.x_exRT, List.getElem?_cons_zero, List.getElem?_cons_succ, List.set_cons_zero, List.set_cons_succ, List.length_cons, List.length_nil, List.map_cons, List.map_nil, List.replicate_succ, List.replicate_zero, List.cons_append, List.nil_append, Nat.zero_add, Nat.add_zero, Nat.reduceAdd, Nat.reduceSub, Nat.reduceMul, Nat.reduceLT, Nat.reduceEqDiff, Bool.not_true, Bool.not_false, Bool.true_and, Bool.false_and, Bool.and_true, Bool.and_false, Bool.true_or, Bool.false_or, Bool.or_true, Bool.or_false, List.all_cons, List.all_nil, PL.nl_len, List.length_map, List.length_range, isiT, tyD, Option.map_some, Option.map_none, ne_eq, not_false_eq_true, not_true_eq_false, decide_true, decide_false, eq_self, implies_true, gt_iff_lt, ge_iff_le, q], fun z => (nomatch z), rfl⟩
  rw [show (List.range (min S 12)).filter (fun _ => false) = [] from List.filter_eq_nil_iff.mpr fun _ _ z => (nomatch z)]
  simp -implicitDefEqProofs (disch := (first | omega | assumption)) only [PL.x_Rof, PL.x_cst, PL.x_var, PL.x_var1f, PL.x_var1l, PL.x_var1d, PL.x_pk, PL.x_pk1f, PL.x_pk1l, PL.x_pk1d, PL.x_pk1i, PL.x_pkF, PL.x_un1, PL.x_un, PL.x_truF, PL.x_bOf, PL.x_tstF, PL.x_notT, PL.x_bin1, PL.x_bin, PL.x_bp3, PL.x_bp2, PL.x_bp1, PL.x_binP, PL.x_andT, PL.x_orT, PL.x_and1t, PL.x_and1f, PL.x_or1t, PL.x_or1f, PL.x_andV, PL.x_orV, PL.x_andV1t, PL.x_andV1f, PL.x_orV1t, PL.x_orV1f, PL.x_ifE, PL.x_ifE1t, PL.x_ifE1f, PL.x_chainD, PL.x_ch1, PL.x_ch2, PL.x_ch3t, PL.x_ch3f, PL.x_nilA, PL.x_consA, PL.x_cons1, PL.x_cons2, PL.x_few, PL.x_mk1, PL.x_tupD, PL.x_lstD, PL.x_lstO, PL.x_dctO0, PL.x_frO, PL.x_cb, PL.x_noP, PL.x_iOf, PL.x_someP, PL.x_sl31, PL.x_sl32, PL.x_sl3, PL.x_slK1, PL.x_slK, PL.x_frF, PL.x_frS, PL.x_cal1, PL.x_callF, PL.x_callO, PL.x_FMof, PL.x_cm1, PL.x_cm2, PL.x_cm3, PL.x_callM, PL.x_FMO, PL.x_cmo1, PL.x_cmo2, PL.x_callMO, PL.x_frzR, PL.x_itF, PL.x_rngF, PL.x_OLof, PL.x_lc2, PL.x_lc1, PL.x_lcO, PL.x_cat1, PL.x_catO, PL.x_cp1, PL.x_cp2, PL.x_cp3, PL.x_catPO, PL.x_SBn, PL.x_SBr, PL.x_skipS, PL.x_badS, PL.x_seqS, PL.x_nxO, PL.x_set1, PL.x_setS, PL.x_setO1f, PL.x_setO1l, PL.x_setO1d, PL.x_setOS, PL.x_ret1, PL.x_retO1, PL.x_exp1, PL.x_retS, PL.x_retOS, PL.x_exprS, PL.x_ifS, PL.x_if1t, PL.x_if1f, PL.x_asg1, PL.x_asgS, PL.x_argsP0, PL.x_ap1f, PL.x_ap1l, PL.x_ap1d, PL.x_ap2, PL.x_argsP, PL.x_par1, PL.x_parP, PL.x_putP0, PL.x_pp1, PL.x_putP, PL.x_app1, PL.x_app2, PL.x_nxB, PL.x_app3, PL.x_appS, PL.x_dp1, PL.x_dp2, PL.x_dp3, PL.x_dp4, PL.x_dputS, PL.x_keyI, PL.x_keyS, PL.x_up1, PL.x_up2, PL.x_up3, PL.x_updS, PL.x_for1, PL.x_forS, PL.x_RTr, PL.x_RTn, PL.x_rf1, PL.x_runF, PL.x_RMr, PL.x_RMn, PL.x_MIo, PL.x_ioOf, PL.x_rm1, PL.x_runM, PL.x_putR, PL.x_putR0f, PL.x_putR0l, PL.x_putR0d, PL.x_putR0n, PL.x_noIof, PL.x_noIol, PL.x_noIod, PL.x_noIon, PL.x_tgN, PL.x_tgT, PL.x_putAll0, PL.x_pa1, PL.x_putAll, PL.x_dAt, PL.x_dSlo, PL.x_dSli, PL.x_dPut, PL.x_dPuo, PL.x_dPui, PL.x_lAt, PL.x_lSl, PL.x_envOf, PL.x_envM, PL.x_toDl, PL.x_toDd, PL.x_toDf, PL.x_nof, PL.x_nol, PL.x_nod, PL.x_okW, PL.x_wipe0, PL.x_wipe, PL.x_yesT, PL.n_add, PL.n_mul, PL.n_mod, PL.n_div, PL.n_sub, PL.n_lt, PL.n_le, PL.n_eq, PL.d_t, PL.d_f, PL.y_add, PL.y_sub, PL.y_mod, PL.y_div, PL.y_mulL, PL.y_mulR, PL.y_lt, PL.y_le, PL.y_gt, PL.y_ge, PL.y_cmp, PL.y_eq, PL.y_ne, PL.y_int, PL.y_notD, PL.y_truB, PL.y_neg, PL.y_isi_n, PL.y_isi_b, PL.y_isi_i, PL.y_isi_s, PL.y_isi_l, PL.y_isi_t, PL.y_isi_d, PL.y_isi_c, PL.l_len, PL.l_lenT, PL.l_it, PL.l_itT, PL.l_tuple, PL.l_list, PL.l_listL, PL.l_ix, PL.l_ixT, PL.l_sum, PL.l_eq, PL.l_ne, PL.l_eq0, PL.l_ne0, PL.l_eqT, PL.l_in, PL.l_nin, PL.l_cat, PL.l_catT, PL.l_stp, PL.l_rng1, PL.l_rng2, PL.x_fb, PL.x_fb1, PL.l_eq00, PL.l_ne00, PL.l_eq01, PL.l_ne01, PL.l_lenS, PL.x_ODof, PL.x_dc2, PL.x_dc1, PL.x_dcO, PL.l_nin_tk, PL.l_in_tk, PL.l_min, PL.l_slT, PL.l_slL, PL.l_rng3, PL.x_rgl2, PL.x_rgl1, PL.x_rgList, PL.x_rgTup, PL.x_gp3, PL.x_gp2, PL.x_gp1, PL.x_getP, PL.x_mt2, PL.x_mt1, PL.x_meth1, PL.l_isL, PL.x_XRo, PL.x_XRe, PL.x_calX, PL.x_calXe, PL.x_callX, PL.x_rai1, PL.x_rai, PL.x_try3, PL.x_try2, PL.x_try2f, PL.x_try1, PL.x_try1r, PL.x_try1n, PL.x_tryR, PL.x_exu1, PL.x_exb1, PL.x_exc1, PL.x_exc2, PL.x_exm1, PL.x_exSB, PL.x_exr1, PL.x_exe1, PL.x_exi1, PL.x_exRT, List.getElem?_cons_zero, List.getElem?_cons_succ, List.set_cons_zero, List.set_cons_succ, List.length_cons, List.length_nil, List.map_cons, List.map_nil, List.replicate_succ, List.replicate_zero, List.cons_append, List.nil_append, Nat.zero_add, Nat.add_zero, Nat.reduceAdd, Nat.reduceSub, Nat.reduceMul, Nat.reduceLT, Nat.reduceEqDiff, Bool.not_true, Bool.not_false, Bool.true_and, Bool.false_and, Bool.and_true, Bool.and_false, Bool.true_or, Bool.false_or, Bool.or_true, Bool.or_false, List.all_cons, List.all_nil, PL.nl_len, List.length_map, List.length_range, isiT, tyD, Option.map_some, Option.map_none, ne_eq, not_false_eq_true, not_true_eq_false, decide_true, decide_false, eq_self, implies_true, gt_iff_lt, ge_iff_le]
/-! by hand -/
theorem bs_c {b c x : Nat} {w R : Int} (hb : 2 ≤ b ∧ b ≤ 1000) (hc : 1 ≤ c ∧ c ≤ 400) (hw : -1000 ≤ w ∧ w ≤ 1000) (hx : x ≤ 10 ^ 60) (h : decide (bsR (b ^ c) w 200 x = R) = true) : m_block_sum [.int b, .int c, .int w, .int x] = .ok (.fr (.int R)) := by
  have := block_sum_ok (w := w) hb hc hw hx
  rwa [of_decide_eq_true h] at this
theorem kp_c {b c n : Nat} {w : Int} {B : Bool} (hb : 2 ≤ b ∧ b ≤ 1000) (hc : 1 ≤ c ∧ c ≤ 400) (hw : -1000 ≤ w ∧ w ≤ 1000) (hn : 1 ≤ n ∧ n ≤ 5000) (h : decide ((((b ^ c % n : Nat) : Int) - w) % (n : Int) = 0) = B) : m_keeps_remainders [.int b, .int n, .int c, .int w] = .ok (.fr (.bl B)) := by
  have := keeps_ok (w := w) hb hc hw hn
  rwa [h] at this
theorem hb_0 : m_block_sum [.int (10 : Nat), .int (1 : Nat), .int (1 : Nat), .int (142857 : Nat)] = .ok (.fr (.int (27 : Nat))) := bs_c (b := 10) (c := 1) (x := 142857) (w := ((1 : Nat) : Int)) (R := ((27 : Nat) : Int)) ⟨by omega, by omega⟩ ⟨by omega, by omega⟩ ⟨by omega, by omega⟩ (by decide +kernel) (by decide +kernel)
theorem hb_1 : m_block_sum [.int (10 : Nat), .int (1 : Nat), .int (-((1 : Nat) : Int)), .int (142857 : Nat)] = .ok (.fr (.int (11 : Nat))) := bs_c (b := 10) (c := 1) (x := 142857) (w := (-((1 : Nat) : Int))) (R := ((11 : Nat) : Int)) ⟨by omega, by omega⟩ ⟨by omega, by omega⟩ ⟨by omega, by omega⟩ (by decide +kernel) (by decide +kernel)
theorem hb_2 : m_block_sum [.int (10 : Nat), .int (3 : Nat), .int (-((1 : Nat) : Int)), .int (142857 : Nat)] = .ok (.fr (.int (715 : Nat))) := bs_c (b := 10) (c := 3) (x := 142857) (w := (-((1 : Nat) : Int))) (R := ((715 : Nat) : Int)) ⟨by omega, by omega⟩ ⟨by omega, by omega⟩ ⟨by omega, by omega⟩ (by decide +kernel) (by decide +kernel)
theorem hb_3 : m_block_sum [.int (10 : Nat), .int (1 : Nat), .int (2 : Nat), .int (123 : Nat)] = .ok (.fr (.int (11 : Nat))) := bs_c (b := 10) (c := 1) (x := 123) (w := ((2 : Nat) : Int)) (R := ((11 : Nat) : Int)) ⟨by omega, by omega⟩ ⟨by omega, by omega⟩ ⟨by omega, by omega⟩ (by decide +kernel) (by decide +kernel)
theorem hb_4 : m_block_sum [.int (10 : Nat), .int (2 : Nat), .int (-((3 : Nat) : Int)), .int (12345 : Nat)] = .ok (.fr (.int (-((15 : Nat) : Int)))) := bs_c (b := 10) (c := 2) (x := 12345) (w := (-((3 : Nat) : Int))) (R := (-((15 : Nat) : Int))) ⟨by omega, by omega⟩ ⟨by omega, by omega⟩ ⟨by omega, by omega⟩ (by decide +kernel) (by decide +kernel)
theorem hb_5 : m_block_sum [.int (10 : Nat), .int (1 : Nat), .int (0 : Nat), .int (129 : Nat)] = .ok (.fr (.int (9 : Nat))) := bs_c (b := 10) (c := 1) (x := 129) (w := ((0 : Nat) : Int)) (R := ((9 : Nat) : Int)) ⟨by omega, by omega⟩ ⟨by omega, by omega⟩ ⟨by omega, by omega⟩ (by decide +kernel) (by decide +kernel)
theorem hb_6 : m_block_sum [.int (2 : Nat), .int (400 : Nat), .int (1000 : Nat), .int (M60 : Nat)] = .ok (.fr (.int (M60 : Nat))) := bs_c (b := 2) (c := 400) (x := M60) (w := ((1000 : Nat) : Int)) (R := ((M60 : Nat) : Int)) ⟨by omega, by omega⟩ ⟨by omega, by omega⟩ ⟨by omega, by omega⟩ (by decide +kernel) (by decide +kernel)
theorem hb_7 : m_block_sum [.int (10 : Nat), .int (60 : Nat), .int (7 : Nat), .int (M60 : Nat)] = .ok (.fr (.int (7 : Nat))) := bs_c (b := 10) (c := 60) (x := M60) (w := ((7 : Nat) : Int)) (R := ((7 : Nat) : Int)) ⟨by omega, by omega⟩ ⟨by omega, by omega⟩ ⟨by omega, by omega⟩ (by decide +kernel) (by decide +kernel)
theorem hb_8 : m_block_sum [.int (7 : Nat), .int (1 : Nat), .int (5 : Nat), .int (0 : Nat)] = .ok (.fr (.int (0 : Nat))) := bs_c (b := 7) (c := 1) (x := 0) (w := ((5 : Nat) : Int)) (R := ((0 : Nat) : Int)) ⟨by omega, by omega⟩ ⟨by omega, by omega⟩ ⟨by omega, by omega⟩ (by decide +kernel) (by decide +kernel)
theorem hb_9 : m_block_sum [.int (1000 : Nat), .int (1 : Nat), .int (1000 : Nat), .int (M60 : Nat)] = .ok (.fr (.int (M60 : Nat))) := bs_c (b := 1000) (c := 1) (x := M60) (w := ((1000 : Nat) : Int)) (R := ((M60 : Nat) : Int)) ⟨by omega, by omega⟩ ⟨by omega, by omega⟩ ⟨by omega, by omega⟩ (by decide +kernel) (by decide +kernel)
theorem hb_10 : m_block_sum [.int (2 : Nat), .int (1 : Nat), .int (1 : Nat), .int (1152921504606846975 : Nat)] = .ok (.fr (.int (60 : Nat))) := bs_c (b := 2) (c := 1) (x := 1152921504606846975) (w := ((1 : Nat) : Int)) (R := ((60 : Nat) : Int)) ⟨by omega, by omega⟩ ⟨by omega, by omega⟩ ⟨by omega, by omega⟩ (by decide +kernel) (by decide +kernel)
theorem hk_0 : m_keeps_remainders [.int (10 : Nat), .int (9 : Nat), .int (1 : Nat), .int (1 : Nat)] = .ok (.fr (.bl true)) := kp_c (b := 10) (c := 1) (n := 9) (w := ((1 : Nat) : Int)) ⟨by omega, by omega⟩ ⟨by omega, by omega⟩ ⟨by omega, by omega⟩ ⟨by omega, by omega⟩ (by decide +kernel)
theorem hk_1 : m_keeps_remainders [.int (10 : Nat), .int (11 : Nat), .int (1 : Nat), .int (-((1 : Nat) : Int))] = .ok (.fr (.bl true)) := kp_c (b := 10) (c := 1) (n := 11) (w := (-((1 : Nat) : Int))) ⟨by omega, by omega⟩ ⟨by omega, by omega⟩ ⟨by omega, by omega⟩ ⟨by omega, by omega⟩ (by decide +kernel)
theorem hk_2 : m_keeps_remainders [.int (10 : Nat), .int (7 : Nat), .int (3 : Nat), .int (-((1 : Nat) : Int))] = .ok (.fr (.bl true)) := kp_c (b := 10) (c := 3) (n := 7) (w := (-((1 : Nat) : Int))) ⟨by omega, by omega⟩ ⟨by omega, by omega⟩ ⟨by omega, by omega⟩ ⟨by omega, by omega⟩ (by decide +kernel)
theorem hk_3 : m_keeps_remainders [.int (10 : Nat), .int (7 : Nat), .int (1 : Nat), .int (1 : Nat)] = .ok (.fr (.bl false)) := kp_c (b := 10) (c := 1) (n := 7) (w := ((1 : Nat) : Int)) ⟨by omega, by omega⟩ ⟨by omega, by omega⟩ ⟨by omega, by omega⟩ ⟨by omega, by omega⟩ (by decide +kernel)
theorem hk_4 : m_keeps_remainders [.int (10 : Nat), .int (1001 : Nat), .int (3 : Nat), .int (-((1 : Nat) : Int))] = .ok (.fr (.bl true)) := kp_c (b := 10) (c := 3) (n := 1001) (w := (-((1 : Nat) : Int))) ⟨by omega, by omega⟩ ⟨by omega, by omega⟩ ⟨by omega, by omega⟩ ⟨by omega, by omega⟩ (by decide +kernel)
theorem hk_5 : m_keeps_remainders [.int (10 : Nat), .int (8 : Nat), .int (3 : Nat), .int (0 : Nat)] = .ok (.fr (.bl true)) := kp_c (b := 10) (c := 3) (n := 8) (w := ((0 : Nat) : Int)) ⟨by omega, by omega⟩ ⟨by omega, by omega⟩ ⟨by omega, by omega⟩ ⟨by omega, by omega⟩ (by decide +kernel)
theorem hk_6 : m_keeps_remainders [.int (10 : Nat), .int (1 : Nat), .int (1 : Nat), .int (5 : Nat)] = .ok (.fr (.bl true)) := kp_c (b := 10) (c := 1) (n := 1) (w := ((5 : Nat) : Int)) ⟨by omega, by omega⟩ ⟨by omega, by omega⟩ ⟨by omega, by omega⟩ ⟨by omega, by omega⟩ (by decide +kernel)
theorem hk_7 : m_keeps_remainders [.int (10 : Nat), .int (7 : Nat), .int (1 : Nat), .int (3 : Nat)] = .ok (.fr (.bl true)) := kp_c (b := 10) (c := 1) (n := 7) (w := ((3 : Nat) : Int)) ⟨by omega, by omega⟩ ⟨by omega, by omega⟩ ⟨by omega, by omega⟩ ⟨by omega, by omega⟩ (by decide +kernel)
theorem hk_8 : m_keeps_remainders [.int (10 : Nat), .int (8 : Nat), .int (2 : Nat), .int (0 : Nat)] = .ok (.fr (.bl false)) := kp_c (b := 10) (c := 2) (n := 8) (w := ((0 : Nat) : Int)) ⟨by omega, by omega⟩ ⟨by omega, by omega⟩ ⟨by omega, by omega⟩ ⟨by omega, by omega⟩ (by decide +kernel)
theorem hk_9 : m_keeps_remainders [.int (10 : Nat), .int (1009 : Nat), .int (400 : Nat), .int (1 : Nat)] = .ok (.fr (.bl false)) := kp_c (b := 10) (c := 400) (n := 1009) (w := ((1 : Nat) : Int)) ⟨by omega, by omega⟩ ⟨by omega, by omega⟩ ⟨by omega, by omega⟩ ⟨by omega, by omega⟩ (by decide +kernel)
theorem hk_10 : m_keeps_remainders [.int (10 : Nat), .int (9 : Nat), .int (400 : Nat), .int (1 : Nat)] = .ok (.fr (.bl true)) := kp_c (b := 10) (c := 400) (n := 9) (w := ((1 : Nat) : Int)) ⟨by omega, by omega⟩ ⟨by omega, by omega⟩ ⟨by omega, by omega⟩ ⟨by omega, by omega⟩ (by decide +kernel)
theorem hk_11 : m_keeps_remainders [.int (2 : Nat), .int (7 : Nat), .int (399 : Nat), .int (1 : Nat)] = .ok (.fr (.bl true)) := kp_c (b := 2) (c := 399) (n := 7) (w := ((1 : Nat) : Int)) ⟨by omega, by omega⟩ ⟨by omega, by omega⟩ ⟨by omega, by omega⟩ ⟨by omega, by omega⟩ (by decide +kernel)
theorem hc_0 : catL (.lst [.int (27 : Nat), .int (11 : Nat), .int (715 : Nat)]) (.lst [.int (11 : Nat), .int (-((15 : Nat) : Int)), .int (9 : Nat)]) = some (.ol [.int (27 : Nat), .int (11 : Nat), .int (715 : Nat), .int (11 : Nat), .int (-((15 : Nat) : Int)), .int (9 : Nat)]) := by kernel_rfl
theorem hc_1 : catL (.lst [.bl true, .bl true, .bl true]) (.lst [.bl false, .bl true, .bl true]) = some (.ol [.bl true, .bl true, .bl true, .bl false, .bl true, .bl true]) := by kernel_rfl
theorem hc_2 : catL (.lst [.bl true, .bl true, .bl true, .bl false, .bl true, .bl true]) (.lst [.bl true, .bl true, .bl false]) = some (.ol [.bl true, .bl true, .bl true, .bl false, .bl true, .bl true, .bl true, .bl true, .bl false]) := by kernel_rfl
theorem hc_3 : catL (.lst [.bl true, .bl true, .bl true, .bl false, .bl true, .bl true, .bl true, .bl true, .bl false]) (.lst [.bl false, .bl true]) = some (.ol [.bl true, .bl true, .bl true, .bl false, .bl true, .bl true, .bl true, .bl true, .bl false, .bl false, .bl true]) := by kernel_rfl
theorem hq_0 : neD (.lst [.int (27 : Nat), .int (11 : Nat), .int (715 : Nat), .int (11 : Nat), .int (-((15 : Nat) : Int)), .int (9 : Nat)]) (.lst [.int (27 : Nat), .int (11 : Nat), .int (715 : Nat), .int (11 : Nat), .int (-((15 : Nat) : Int)), .int (9 : Nat)]) = some (.bl false) := by kernel_rfl
theorem hq_1 : neD (.lst [.int (M60 : Nat), .int (7 : Nat), .int (0 : Nat), .int (M60 : Nat)]) (.lst [.int (M60 : Nat), .int (7 : Nat), .int (0 : Nat), .int (M60 : Nat)]) = some (.bl false) := by kernel_rfl
theorem hp_0 : powD (.int (2 : Nat)) (.int (60 : Nat)) = some (.int (1152921504606846976 : Nat)) := by kernel_rfl
theorem hand_ok : m__law_hand_right [] = .ok (.fr (.bl true)) := by
  have hp := pw6.2.2.2
  have r := reprW_of (show reprD (.lst [.bl true, .bl true, .bl true, .bl false, .bl true, .bl true, .bl true, .bl true, .bl false, .bl false, .bl true, .bl true]) = some (.str (toPy (.lst [.bl true, .bl true, .bl true, .bl false, .bl true, .bl true, .bl true, .bl true, .bl false, .bl false, .bl true, .bl true])).shown) by kernel_rfl)
  generalize (toPy (.lst [.bl true, .bl true, .bl true, .bl false, .bl true, .bl true, .bl true, .bl true, .bl false, .bl false, .bl true, .bl true])).shown = S at r
  have q : eqD (.str S) (.str S) = some (.bl true) := by
    show some (Dt.bl (decide (S = S))) = _
    rw [decide_eq_true rfl]
  have w_hb_6 := hb_6
  have w_hb_7 := hb_7
  have w_hb_9 := hb_9
  have w_hq_1 := hq_1
  generalize M60 = far at hp w_hb_6 w_hb_7 w_hb_9 w_hq_1 ⊢
  simp -implicitDefEqProofs (disch := (first | omega | assumption)) only [PL.x_Rof, PL.x_cst, PL.x_var, PL.x_var1f, PL.x_var1l, PL.x_var1d, PL.x_pk, PL.x_pk1f, PL.x_pk1l, PL.x_pk1d, PL.x_pk1i, PL.x_pkF, PL.x_un1, PL.x_un, PL.x_truF, PL.x_bOf, PL.x_tstF, PL.x_notT, PL.x_bin1, PL.x_bin, PL.x_bp3, PL.x_bp2, PL.x_bp1, PL.x_binP, PL.x_andT, PL.x_orT, PL.x_and1t, PL.x_and1f, PL.x_or1t, PL.x_or1f, PL.x_andV, PL.x_orV, PL.x_andV1t, PL.x_andV1f, PL.x_orV1t, PL.x_orV1f, PL.x_ifE, PL.x_ifE1t, PL.x_ifE1f, PL.x_chainD, PL.x_ch1, PL.x_ch2, PL.x_ch3t, PL.x_ch3f, PL.x_nilA, PL.x_consA, PL.x_cons1, PL.x_cons2, PL.x_few, PL.x_mk1, PL.x_tupD, PL.x_lstD, PL.x_lstO, PL.x_dctO0, PL.x_frO, PL.x_cb, PL.x_noP, PL.x_iOf, PL.x_someP, PL.x_sl31, PL.x_sl32, PL.x_sl3, PL.x_slK1, PL.x_slK, PL.x_frF, PL.x_frS, PL.x_cal1, PL.x_callF, PL.x_callO, PL.x_FMof, PL.x_cm1, PL.x_cm2, PL.x_cm3, PL.x_callM, PL.x_FMO, PL.x_cmo1, PL.x_cmo2, PL.x_callMO, PL.x_frzR, PL.x_itF, PL.x_rngF, PL.x_OLof, PL.x_lc2, PL.x_lc1, PL.x_lcO, PL.x_cat1, PL.x_catO, PL.x_cp1, PL.x_cp2, PL.x_cp3, PL.x_catPO, PL.x_SBn, PL.x_SBr, PL.x_skipS, PL.x_badS, PL.x_seqS, PL.x_nxO, PL.x_set1, PL.x_setS, PL.x_setO1f, PL.x_setO1l, PL.x_setO1d, PL.x_setOS, PL.x_ret1, PL.x_retO1, PL.x_exp1, PL.x_retS, PL.x_retOS, PL.x_exprS, PL.x_ifS, PL.x_if1t, PL.x_if1f, PL.x_asg1, PL.x_asgS, PL.x_argsP0, PL.x_ap1f, PL.x_ap1l, PL.x_ap1d, PL.x_ap2, PL.x_argsP, PL.x_par1, PL.x_parP, PL.x_putP0, PL.x_pp1, PL.x_putP, PL.x_app1, PL.x_app2, PL.x_nxB, PL.x_app3, PL.x_appS, PL.x_dp1, PL.x_dp2, PL.x_dp3, PL.x_dp4, PL.x_dputS, PL.x_keyI, PL.x_keyS, PL.x_up1, PL.x_up2, PL.x_up3, PL.x_updS, PL.x_for1, PL.x_forS, PL.x_RTr, PL.x_RTn, PL.x_rf1, PL.x_runF, PL.x_RMr, PL.x_RMn, PL.x_MIo, PL.x_ioOf, PL.x_rm1, PL.x_runM, PL.x_putR, PL.x_putR0f, PL.x_putR0l, PL.x_putR0d, PL.x_putR0n, PL.x_noIof, PL.x_noIol, PL.x_noIod, PL.x_noIon, PL.x_tgN, PL.x_tgT, PL.x_putAll0, PL.x_pa1, PL.x_putAll, PL.x_dAt, PL.x_dSlo, PL.x_dSli, PL.x_dPut, PL.x_dPuo, PL.x_dPui, PL.x_lAt, PL.x_lSl, PL.x_envOf, PL.x_envM, PL.x_toDl, PL.x_toDd, PL.x_toDf, PL.x_nof, PL.x_nol, PL.x_nod, PL.x_okW, PL.x_wipe0, PL.x_wipe, PL.x_yesT, PL.n_add, PL.n_mul, PL.n_mod, PL.n_div, PL.n_sub, PL.n_lt, PL.n_le, PL.n_eq, PL.d_t, PL.d_f, PL.y_add, PL.y_sub, PL.y_mod, PL.y_div, PL.y_mulL, PL.y_mulR, PL.y_lt, PL.y_le, PL.y_gt, PL.y_ge, PL.y_cmp, PL.y_eq, PL.y_ne, PL.y_int, PL.y_notD, PL.y_truB, PL.y_neg, PL.y_isi_n, PL.y_isi_b, PL.y_isi_i, PL.y_isi_s, PL.y_isi_l, PL.y_isi_t, PL.y_isi_d, PL.y_isi_c, PL.l_len, PL.l_lenT, PL.l_it, PL.l_itT, PL.l_tuple, PL.l_list, PL.l_listL, PL.l_ix, PL.l_ixT, PL.l_sum, PL.l_eq, PL.l_ne, PL.l_eq0, PL.l_ne0, PL.l_eqT, PL.l_in, PL.l_nin, PL.l_cat, PL.l_catT, PL.l_stp, PL.l_rng1, PL.l_rng2, PL.x_fb, PL.x_fb1, PL.l_eq00, PL.l_ne00, PL.l_eq01, PL.l_ne01, PL.l_lenS, PL.x_ODof, PL.x_dc2, PL.x_dc1, PL.x_dcO, PL.l_nin_tk, PL.l_in_tk, PL.l_min, PL.l_slT, PL.l_slL, PL.l_rng3, PL.x_rgl2, PL.x_rgl1, PL.x_rgList, PL.x_rgTup, PL.x_gp3, PL.x_gp2, PL.x_gp1, PL.x_getP, PL.x_mt2, PL.x_mt1, PL.x_meth1, PL.l_isL, PL.x_XRo, PL.x_XRe, PL.x_calX, PL.x_calXe, PL.x_callX, PL.x_rai1, PL.x_rai, PL.x_try3, PL.x_try2, PL.x_try2f, PL.x_try1, PL.x_try1r, PL.x_try1n, PL.x_tryR, PL.x_exu1, PL.x_exb1, PL.x_exc1, PL.x_exc2, PL.x_exm1, PL.x_exSB, PL.x_exr1, PL.x_exe1, PL.x_exi1, PL.x_exRT, List.getElem?_cons_zero, List.getElem?_cons_succ, List.set_cons_zero, List.set_cons_succ, List.length_cons, List.length_nil, List.map_cons, List.map_nil, List.replicate_succ, List.replicate_zero, List.cons_append, List.nil_append, Nat.zero_add, Nat.add_zero, Nat.reduceAdd, Nat.reduceSub, Nat.reduceMul, Nat.reduceLT, Nat.reduceEqDiff, Bool.not_true, Bool.not_false, Bool.true_and, Bool.false_and, Bool.and_true, Bool.and_false, Bool.true_or, Bool.false_or, Bool.or_true, Bool.or_false, List.all_cons, List.all_nil, PL.nl_len, List.length_map, List.length_range, isiT, tyD, Option.map_some, Option.map_none, ne_eq, not_false_eq_true, not_true_eq_false, decide_true, decide_false, eq_self, implies_true, gt_iff_lt, ge_iff_le, m__law_hand_right, b__law_hand_right, hp, r, q, hb_0, hb_1, hb_2, hb_3, hb_4, hb_5, w_hb_6, w_hb_7, hb_8, w_hb_9, hb_10, hk_0, hk_1, hk_2, hk_3, hk_4, hk_5, hk_6, hk_7, hk_8, hk_9, hk_10, hk_11, hc_0, hc_1, hc_2, hc_3, hq_0, w_hq_1, hp_0]
theorem law_true (ns : List Int) (hn : ns.length ≤ 63) : m_law [.scr ns] = .ok (.fr (.bl true)) := by
  obtain ⟨q, hq, hq1, hq2, hq3⟩ := laps_ok ns 3 6
  simp -implicitDefEqProofs (disch := (first | omega | assumption)) only [PL.x_Rof, PL.x_cst, PL.x_var, PL.x_var1f, PL.x_var1l, PL.x_var1d, PL.x_pk, PL.x_pk1f, PL.x_pk1l, PL.x_pk1d, PL.x_pk1i, PL.x_pkF, PL.x_un1, PL.x_un, PL.x_truF, PL.x_bOf, PL.x_tstF, PL.x_notT, PL.x_bin1, PL.x_bin, PL.x_bp3, PL.x_bp2, PL.x_bp1, PL.x_binP, PL.x_andT, PL.x_orT, PL.x_and1t, PL.x_and1f, PL.x_or1t, PL.x_or1f, PL.x_andV, PL.x_orV, PL.x_andV1t, PL.x_andV1f, PL.x_orV1t, PL.x_orV1f, PL.x_ifE, PL.x_ifE1t, PL.x_ifE1f, PL.x_chainD, PL.x_ch1, PL.x_ch2, PL.x_ch3t, PL.x_ch3f, PL.x_nilA, PL.x_consA, PL.x_cons1, PL.x_cons2, PL.x_few, PL.x_mk1, PL.x_tupD, PL.x_lstD, PL.x_lstO, PL.x_dctO0, PL.x_frO, PL.x_cb, PL.x_noP, PL.x_iOf, PL.x_someP, PL.x_sl31, PL.x_sl32, PL.x_sl3, PL.x_slK1, PL.x_slK, PL.x_frF, PL.x_frS, PL.x_cal1, PL.x_callF, PL.x_callO, PL.x_FMof, PL.x_cm1, PL.x_cm2, PL.x_cm3, PL.x_callM, PL.x_FMO, PL.x_cmo1, PL.x_cmo2, PL.x_callMO, PL.x_frzR, PL.x_itF, PL.x_rngF, PL.x_OLof, PL.x_lc2, PL.x_lc1, PL.x_lcO, PL.x_cat1, PL.x_catO, PL.x_cp1, PL.x_cp2, PL.x_cp3, PL.x_catPO, PL.x_SBn, PL.x_SBr, PL.x_skipS, PL.x_badS, PL.x_seqS, PL.x_nxO, PL.x_set1, PL.x_setS, PL.x_setO1f, PL.x_setO1l, PL.x_setO1d, PL.x_setOS, PL.x_ret1, PL.x_retO1, PL.x_exp1, PL.x_retS, PL.x_retOS, PL.x_exprS, PL.x_ifS, PL.x_if1t, PL.x_if1f, PL.x_asg1, PL.x_asgS, PL.x_argsP0, PL.x_ap1f, PL.x_ap1l, PL.x_ap1d, PL.x_ap2, PL.x_argsP, PL.x_par1, PL.x_parP, PL.x_putP0, PL.x_pp1, PL.x_putP, PL.x_app1, PL.x_app2, PL.x_nxB, PL.x_app3, PL.x_appS, PL.x_dp1, PL.x_dp2, PL.x_dp3, PL.x_dp4, PL.x_dputS, PL.x_keyI, PL.x_keyS, PL.x_up1, PL.x_up2, PL.x_up3, PL.x_updS, PL.x_for1, PL.x_forS, PL.x_RTr, PL.x_RTn, PL.x_rf1, PL.x_runF, PL.x_RMr, PL.x_RMn, PL.x_MIo, PL.x_ioOf, PL.x_rm1, PL.x_runM, PL.x_putR, PL.x_putR0f, PL.x_putR0l, PL.x_putR0d, PL.x_putR0n, PL.x_noIof, PL.x_noIol, PL.x_noIod, PL.x_noIon, PL.x_tgN, PL.x_tgT, PL.x_putAll0, PL.x_pa1, PL.x_putAll, PL.x_dAt, PL.x_dSlo, PL.x_dSli, PL.x_dPut, PL.x_dPuo, PL.x_dPui, PL.x_lAt, PL.x_lSl, PL.x_envOf, PL.x_envM, PL.x_toDl, PL.x_toDd, PL.x_toDf, PL.x_nof, PL.x_nol, PL.x_nod, PL.x_okW, PL.x_wipe0, PL.x_wipe, PL.x_yesT, PL.n_add, PL.n_mul, PL.n_mod, PL.n_div, PL.n_sub, PL.n_lt, PL.n_le, PL.n_eq, PL.d_t, PL.d_f, PL.y_add, PL.y_sub, PL.y_mod, PL.y_div, PL.y_mulL, PL.y_mulR, PL.y_lt, PL.y_le, PL.y_gt, PL.y_ge, PL.y_cmp, PL.y_eq, PL.y_ne, PL.y_int, PL.y_notD, PL.y_truB, PL.y_neg, PL.y_isi_n, PL.y_isi_b, PL.y_isi_i, PL.y_isi_s, PL.y_isi_l, PL.y_isi_t, PL.y_isi_d, PL.y_isi_c, PL.l_len, PL.l_lenT, PL.l_it, PL.l_itT, PL.l_tuple, PL.l_list, PL.l_listL, PL.l_ix, PL.l_ixT, PL.l_sum, PL.l_eq, PL.l_ne, PL.l_eq0, PL.l_ne0, PL.l_eqT, PL.l_in, PL.l_nin, PL.l_cat, PL.l_catT, PL.l_stp, PL.l_rng1, PL.l_rng2, PL.x_fb, PL.x_fb1, PL.l_eq00, PL.l_ne00, PL.l_eq01, PL.l_ne01, PL.l_lenS, PL.x_ODof, PL.x_dc2, PL.x_dc1, PL.x_dcO, PL.l_nin_tk, PL.l_in_tk, PL.l_min, PL.l_slT, PL.l_slL, PL.l_rng3, PL.x_rgl2, PL.x_rgl1, PL.x_rgList, PL.x_rgTup, PL.x_gp3, PL.x_gp2, PL.x_gp1, PL.x_getP, PL.x_mt2, PL.x_mt1, PL.x_meth1, PL.l_isL, PL.x_XRo, PL.x_XRe, PL.x_calX, PL.x_calXe, PL.x_callX, PL.x_rai1, PL.x_rai, PL.x_try3, PL.x_try2, PL.x_try2f, PL.x_try1, PL.x_try1r, PL.x_try1n, PL.x_tryR, PL.x_exu1, PL.x_exb1, PL.x_exc1, PL.x_exc2, PL.x_exm1, PL.x_exSB, PL.x_exr1, PL.x_exe1, PL.x_exi1, PL.x_exRT, List.getElem?_cons_zero, List.getElem?_cons_succ, List.set_cons_zero, List.set_cons_succ, List.length_cons, List.length_nil, List.map_cons, List.map_nil, List.replicate_succ, List.replicate_zero, List.cons_append, List.nil_append, Nat.zero_add, Nat.add_zero, Nat.reduceAdd, Nat.reduceSub, Nat.reduceMul, Nat.reduceLT, Nat.reduceEqDiff, Bool.not_true, Bool.not_false, Bool.true_and, Bool.false_and, Bool.and_true, Bool.and_false, Bool.true_or, Bool.false_or, Bool.or_true, Bool.or_false, List.all_cons, List.all_nil, PL.nl_len, List.length_map, List.length_range, isiT, tyD, Option.map_some, Option.map_none, ne_eq, not_false_eq_true, not_true_eq_false, decide_true, decide_false, eq_self, implies_true, gt_iff_lt, ge_iff_le, m_law, b_law, l_lenS, hq2, hq3]
  refine rt_for (fun k ρ => ∃ (e1 : Option Sl), ρ = [V (.scr ns), e1]) ⟨none, rfl⟩ ?_ ?_
  · rintro i t ρ hi ⟨e1, rfl⟩
    have hi2 := List.getElem?_eq_some_iff.mp hi
    have hil := hi2.1
    rw [List.length_range] at hil
    have ht : t = i := by
      have := hi2.2
      rw [List.getElem_range] at this
      omega
    subst ht
    obtain ⟨cs, l, sd, hc, hsd, hb⟩ := begun2_ok ns hn t (by omega)
    obtain ⟨l3, p3, c1⟩ := right_ok (l := l) (sd := sd) (p := 0) hc hsd (by omega)
    exact ⟨[V (.scr ns), I t], by simp -implicitDefEqProofs (disch := (first | omega | assumption)) only [PL.x_Rof, PL.x_cst, PL.x_var, PL.x_var1f, PL.x_var1l, PL.x_var1d, PL.x_pk, PL.x_pk1f, PL.x_pk1l, PL.x_pk1d, PL.x_pk1i, PL.x_pkF, PL.x_un1, PL.x_un, PL.x_truF, PL.x_bOf, PL.x_tstF, PL.x_notT, PL.x_bin1, PL.x_bin, PL.x_bp3, PL.x_bp2, PL.x_bp1, PL.x_binP, PL.x_andT, PL.x_orT, PL.x_and1t, PL.x_and1f, PL.x_or1t, PL.x_or1f, PL.x_andV, PL.x_orV, PL.x_andV1t, PL.x_andV1f, PL.x_orV1t, PL.x_orV1f, PL.x_ifE, PL.x_ifE1t, PL.x_ifE1f, PL.x_chainD, PL.x_ch1, PL.x_ch2, PL.x_ch3t, PL.x_ch3f, PL.x_nilA, PL.x_consA, PL.x_cons1, PL.x_cons2, PL.x_few, PL.x_mk1, PL.x_tupD, PL.x_lstD, PL.x_lstO, PL.x_dctO0, PL.x_frO, PL.x_cb, PL.x_noP, PL.x_iOf, PL.x_someP, PL.x_sl31, PL.x_sl32, PL.x_sl3, PL.x_slK1, PL.x_slK, PL.x_frF, PL.x_frS, PL.x_cal1, PL.x_callF, PL.x_callO, PL.x_FMof, PL.x_cm1, PL.x_cm2, PL.x_cm3, PL.x_callM, PL.x_FMO, PL.x_cmo1, PL.x_cmo2, PL.x_callMO, PL.x_frzR, PL.x_itF, PL.x_rngF, PL.x_OLof, PL.x_lc2, PL.x_lc1, PL.x_lcO, PL.x_cat1, PL.x_catO, PL.x_cp1, PL.x_cp2, PL.x_cp3, PL.x_catPO, PL.x_SBn, PL.x_SBr, PL.x_skipS, PL.x_badS, PL.x_seqS, PL.x_nxO, PL.x_set1, PL.x_setS, PL.x_setO1f, PL.x_setO1l, PL.x_setO1d, PL.x_setOS, PL.x_ret1, PL.x_retO1, PL.x_exp1, PL.x_retS, PL.x_retOS, PL.x_exprS, PL.x_ifS, PL.x_if1t, PL.x_if1f, PL.x_asg1, PL.x_asgS, PL.x_argsP0, PL.x_ap1f, PL.x_ap1l, PL.x_ap1d, PL.x_ap2, PL.x_argsP, PL.x_par1, PL.x_parP, PL.x_putP0, PL.x_pp1, PL.x_putP, PL.x_app1, PL.x_app2, PL.x_nxB, PL.x_app3, PL.x_appS, PL.x_dp1, PL.x_dp2, PL.x_dp3, PL.x_dp4, PL.x_dputS, PL.x_keyI, PL.x_keyS, PL.x_up1, PL.x_up2, PL.x_up3, PL.x_updS, PL.x_for1, PL.x_forS, PL.x_RTr, PL.x_RTn, PL.x_rf1, PL.x_runF, PL.x_RMr, PL.x_RMn, PL.x_MIo, PL.x_ioOf, PL.x_rm1, PL.x_runM, PL.x_putR, PL.x_putR0f, PL.x_putR0l, PL.x_putR0d, PL.x_putR0n, PL.x_noIof, PL.x_noIol, PL.x_noIod, PL.x_noIon, PL.x_tgN, PL.x_tgT, PL.x_putAll0, PL.x_pa1, PL.x_putAll, PL.x_dAt, PL.x_dSlo, PL.x_dSli, PL.x_dPut, PL.x_dPuo, PL.x_dPui, PL.x_lAt, PL.x_lSl, PL.x_envOf, PL.x_envM, PL.x_toDl, PL.x_toDd, PL.x_toDf, PL.x_nof, PL.x_nol, PL.x_nod, PL.x_okW, PL.x_wipe0, PL.x_wipe, PL.x_yesT, PL.n_add, PL.n_mul, PL.n_mod, PL.n_div, PL.n_sub, PL.n_lt, PL.n_le, PL.n_eq, PL.d_t, PL.d_f, PL.y_add, PL.y_sub, PL.y_mod, PL.y_div, PL.y_mulL, PL.y_mulR, PL.y_lt, PL.y_le, PL.y_gt, PL.y_ge, PL.y_cmp, PL.y_eq, PL.y_ne, PL.y_int, PL.y_notD, PL.y_truB, PL.y_neg, PL.y_isi_n, PL.y_isi_b, PL.y_isi_i, PL.y_isi_s, PL.y_isi_l, PL.y_isi_t, PL.y_isi_d, PL.y_isi_c, PL.l_len, PL.l_lenT, PL.l_it, PL.l_itT, PL.l_tuple, PL.l_list, PL.l_listL, PL.l_ix, PL.l_ixT, PL.l_sum, PL.l_eq, PL.l_ne, PL.l_eq0, PL.l_ne0, PL.l_eqT, PL.l_in, PL.l_nin, PL.l_cat, PL.l_catT, PL.l_stp, PL.l_rng1, PL.l_rng2, PL.x_fb, PL.x_fb1, PL.l_eq00, PL.l_ne00, PL.l_eq01, PL.l_ne01, PL.l_lenS, PL.x_ODof, PL.x_dc2, PL.x_dc1, PL.x_dcO, PL.l_nin_tk, PL.l_in_tk, PL.l_min, PL.l_slT, PL.l_slL, PL.l_rng3, PL.x_rgl2, PL.x_rgl1, PL.x_rgList, PL.x_rgTup, PL.x_gp3, PL.x_gp2, PL.x_gp1, PL.x_getP, PL.x_mt2, PL.x_mt1, PL.x_meth1, PL.l_isL, PL.x_XRo, PL.x_XRe, PL.x_calX, PL.x_calXe, PL.x_callX, PL.x_rai1, PL.x_rai, PL.x_try3, PL.x_try2, PL.x_try2f, PL.x_try1, PL.x_try1r, PL.x_try1n, PL.x_tryR, PL.x_exu1, PL.x_exb1, PL.x_exc1, PL.x_exc2, PL.x_exm1, PL.x_exSB, PL.x_exr1, PL.x_exe1, PL.x_exi1, PL.x_exRT, List.getElem?_cons_zero, List.getElem?_cons_succ, List.set_cons_zero, List.set_cons_succ, List.length_cons, List.length_nil, List.map_cons, List.map_nil, List.replicate_succ, List.replicate_zero, List.cons_append, List.nil_append, Nat.zero_add, Nat.add_zero, Nat.reduceAdd, Nat.reduceSub, Nat.reduceMul, Nat.reduceLT, Nat.reduceEqDiff, Bool.not_true, Bool.not_false, Bool.true_and, Bool.false_and, Bool.and_true, Bool.and_false, Bool.true_or, Bool.false_or, Bool.or_true, Bool.or_false, List.all_cons, List.all_nil, PL.nl_len, List.length_map, List.length_range, isiT, tyD, Option.map_some, Option.map_none, ne_eq, not_false_eq_true, not_true_eq_false, decide_true, decide_false, eq_self, implies_true, gt_iff_lt, ge_iff_le, x_fb, x_fb1, hb, c1], _, rfl⟩
  · rintro ρ ⟨e1, rfl⟩
    simp -implicitDefEqProofs (disch := (first | omega | assumption)) only [PL.x_Rof, PL.x_cst, PL.x_var, PL.x_var1f, PL.x_var1l, PL.x_var1d, PL.x_pk, PL.x_pk1f, PL.x_pk1l, PL.x_pk1d, PL.x_pk1i, PL.x_pkF, PL.x_un1, PL.x_un, PL.x_truF, PL.x_bOf, PL.x_tstF, PL.x_notT, PL.x_bin1, PL.x_bin, PL.x_bp3, PL.x_bp2, PL.x_bp1, PL.x_binP, PL.x_andT, PL.x_orT, PL.x_and1t, PL.x_and1f, PL.x_or1t, PL.x_or1f, PL.x_andV, PL.x_orV, PL.x_andV1t, PL.x_andV1f, PL.x_orV1t, PL.x_orV1f, PL.x_ifE, PL.x_ifE1t, PL.x_ifE1f, PL.x_chainD, PL.x_ch1, PL.x_ch2, PL.x_ch3t, PL.x_ch3f, PL.x_nilA, PL.x_consA, PL.x_cons1, PL.x_cons2, PL.x_few, PL.x_mk1, PL.x_tupD, PL.x_lstD, PL.x_lstO, PL.x_dctO0, PL.x_frO, PL.x_cb, PL.x_noP, PL.x_iOf, PL.x_someP, PL.x_sl31, PL.x_sl32, PL.x_sl3, PL.x_slK1, PL.x_slK, PL.x_frF, PL.x_frS, PL.x_cal1, PL.x_callF, PL.x_callO, PL.x_FMof, PL.x_cm1, PL.x_cm2, PL.x_cm3, PL.x_callM, PL.x_FMO, PL.x_cmo1, PL.x_cmo2, PL.x_callMO, PL.x_frzR, PL.x_itF, PL.x_rngF, PL.x_OLof, PL.x_lc2, PL.x_lc1, PL.x_lcO, PL.x_cat1, PL.x_catO, PL.x_cp1, PL.x_cp2, PL.x_cp3, PL.x_catPO, PL.x_SBn, PL.x_SBr, PL.x_skipS, PL.x_badS, PL.x_seqS, PL.x_nxO, PL.x_set1, PL.x_setS, PL.x_setO1f, PL.x_setO1l, PL.x_setO1d, PL.x_setOS, PL.x_ret1, PL.x_retO1, PL.x_exp1, PL.x_retS, PL.x_retOS, PL.x_exprS, PL.x_ifS, PL.x_if1t, PL.x_if1f, PL.x_asg1, PL.x_asgS, PL.x_argsP0, PL.x_ap1f, PL.x_ap1l, PL.x_ap1d, PL.x_ap2, PL.x_argsP, PL.x_par1, PL.x_parP, PL.x_putP0, PL.x_pp1, PL.x_putP, PL.x_app1, PL.x_app2, PL.x_nxB, PL.x_app3, PL.x_appS, PL.x_dp1, PL.x_dp2, PL.x_dp3, PL.x_dp4, PL.x_dputS, PL.x_keyI, PL.x_keyS, PL.x_up1, PL.x_up2, PL.x_up3, PL.x_updS, PL.x_for1, PL.x_forS, PL.x_RTr, PL.x_RTn, PL.x_rf1, PL.x_runF, PL.x_RMr, PL.x_RMn, PL.x_MIo, PL.x_ioOf, PL.x_rm1, PL.x_runM, PL.x_putR, PL.x_putR0f, PL.x_putR0l, PL.x_putR0d, PL.x_putR0n, PL.x_noIof, PL.x_noIol, PL.x_noIod, PL.x_noIon, PL.x_tgN, PL.x_tgT, PL.x_putAll0, PL.x_pa1, PL.x_putAll, PL.x_dAt, PL.x_dSlo, PL.x_dSli, PL.x_dPut, PL.x_dPuo, PL.x_dPui, PL.x_lAt, PL.x_lSl, PL.x_envOf, PL.x_envM, PL.x_toDl, PL.x_toDd, PL.x_toDf, PL.x_nof, PL.x_nol, PL.x_nod, PL.x_okW, PL.x_wipe0, PL.x_wipe, PL.x_yesT, PL.n_add, PL.n_mul, PL.n_mod, PL.n_div, PL.n_sub, PL.n_lt, PL.n_le, PL.n_eq, PL.d_t, PL.d_f, PL.y_add, PL.y_sub, PL.y_mod, PL.y_div, PL.y_mulL, PL.y_mulR, PL.y_lt, PL.y_le, PL.y_gt, PL.y_ge, PL.y_cmp, PL.y_eq, PL.y_ne, PL.y_int, PL.y_notD, PL.y_truB, PL.y_neg, PL.y_isi_n, PL.y_isi_b, PL.y_isi_i, PL.y_isi_s, PL.y_isi_l, PL.y_isi_t, PL.y_isi_d, PL.y_isi_c, PL.l_len, PL.l_lenT, PL.l_it, PL.l_itT, PL.l_tuple, PL.l_list, PL.l_listL, PL.l_ix, PL.l_ixT, PL.l_sum, PL.l_eq, PL.l_ne, PL.l_eq0, PL.l_ne0, PL.l_eqT, PL.l_in, PL.l_nin, PL.l_cat, PL.l_catT, PL.l_stp, PL.l_rng1, PL.l_rng2, PL.x_fb, PL.x_fb1, PL.l_eq00, PL.l_ne00, PL.l_eq01, PL.l_ne01, PL.l_lenS, PL.x_ODof, PL.x_dc2, PL.x_dc1, PL.x_dcO, PL.l_nin_tk, PL.l_in_tk, PL.l_min, PL.l_slT, PL.l_slL, PL.l_rng3, PL.x_rgl2, PL.x_rgl1, PL.x_rgList, PL.x_rgTup, PL.x_gp3, PL.x_gp2, PL.x_gp1, PL.x_getP, PL.x_mt2, PL.x_mt1, PL.x_meth1, PL.l_isL, PL.x_XRo, PL.x_XRe, PL.x_calX, PL.x_calXe, PL.x_callX, PL.x_rai1, PL.x_rai, PL.x_try3, PL.x_try2, PL.x_try2f, PL.x_try1, PL.x_try1r, PL.x_try1n, PL.x_tryR, PL.x_exu1, PL.x_exb1, PL.x_exc1, PL.x_exc2, PL.x_exm1, PL.x_exSB, PL.x_exr1, PL.x_exe1, PL.x_exi1, PL.x_exRT, List.getElem?_cons_zero, List.getElem?_cons_succ, List.set_cons_zero, List.set_cons_succ, List.length_cons, List.length_nil, List.map_cons, List.map_nil, List.replicate_succ, List.replicate_zero, List.cons_append, List.nil_append, Nat.zero_add, Nat.add_zero, Nat.reduceAdd, Nat.reduceSub, Nat.reduceMul, Nat.reduceLT, Nat.reduceEqDiff, Bool.not_true, Bool.not_false, Bool.true_and, Bool.false_and, Bool.and_true, Bool.and_false, Bool.true_or, Bool.false_or, Bool.or_true, Bool.or_false, List.all_cons, List.all_nil, PL.nl_len, List.length_map, List.length_range, isiT, tyD, Option.map_some, Option.map_none, ne_eq, not_false_eq_true, not_true_eq_false, decide_true, decide_false, eq_self, implies_true, gt_iff_lt, ge_iff_le, hand_ok]

end LAW

section
open PySem PySem.Spec PyProof.Rows L2 DW
namespace LAW
def dd_power : He.DefD := ⟨("power", none), "power", "power", defArgs st_power, defBody st_power, defScope st_power, [], []⟩
def dd_is_integer : He.DefD := ⟨("is_integer", none), "is_integer", "is_integer", defArgs st_is_integer, defBody st_is_integer, defScope st_is_integer, [], []⟩
def dd_is_whole : He.DefD := ⟨("is_whole", none), "is_whole", "is_whole", defArgs st_is_whole, defBody st_is_whole, defScope st_is_whole, [], []⟩
def dd_need_between : He.DefD := ⟨("need_between", none), "need_between", "need_between", defArgs st_need_between, defBody st_need_between, defScope st_need_between, [], []⟩
def dd_need_weight : He.DefD := ⟨("need_weight", none), "need_weight", "need_weight", defArgs st_need_weight, defBody st_need_weight, defScope st_need_weight, [], []⟩
def dd_need_base : He.DefD := ⟨("need_base", none), "need_base", "need_base", defArgs st_need_base, defBody st_need_base, defScope st_need_base, [], []⟩
def dd_block_sum : He.DefD := ⟨("block_sum", none), "block_sum", "block_sum", defArgs st_block_sum, defBody st_block_sum, defScope st_block_sum, [], []⟩
def dd_need_denominator : He.DefD := ⟨("need_denominator", none), "need_denominator", "need_denominator", defArgs st_need_denominator, defBody st_need_denominator, defScope st_need_denominator, [], []⟩
def dd_power_rest : He.DefD := ⟨("power_rest", none), "power_rest", "power_rest", defArgs st_power_rest, defBody st_power_rest, defScope st_power_rest, [], []⟩
def dd_keeps_remainders : He.DefD := ⟨("keeps_remainders", none), "keeps_remainders", "keeps_remainders", defArgs st_keeps_remainders, defBody st_keeps_remainders, defScope st_keeps_remainders, [], []⟩
def dd__law_hand_right : He.DefD := ⟨("_law_hand_right", none), "_law_hand_right", "_law_hand_right", defArgs st__law_hand_right, defBody st__law_hand_right, defScope st__law_hand_right, [], []⟩
def dd__law_draw : He.DefD := ⟨("_law_draw", none), "_law_draw", "_law_draw", defArgs st__law_draw, defBody st__law_draw, defScope st__law_draw, [], []⟩
def dd__law_of : He.DefD := ⟨("_law_of", none), "_law_of", "_law_of", defArgs st__law_of, defBody st__law_of, defScope st__law_of, [], []⟩
def dd__law_raised : He.DefD := ⟨("_law_raised", none), "_law_raised", "_law_raised", defArgs st__law_raised, defBody st__law_raised, defScope st__law_raised, [], []⟩
def dd__law_sum : He.DefD := ⟨("_law_sum", none), "_law_sum", "_law_sum", defArgs st__law_sum, defBody st__law_sum, defScope st__law_sum, [], []⟩
def dd__law_right : He.DefD := ⟨("_law_right", none), "_law_right", "_law_right", defArgs st__law_right, defBody st__law_right, defScope st__law_right, [], []⟩
def dd__law_begun : He.DefD := ⟨("_law_begun", none), "_law_begun", "_law_begun", defArgs st__law_begun, defBody st__law_begun, defScope st__law_begun, [], []⟩
def dd_law : He.DefD := ⟨("law", none), "law", "law", defArgs st_law, defBody st_law, defScope st_law, [], []⟩
def fnL : List He.DefD := [dd_power, dd_is_integer, dd_is_whole, dd_need_between, dd_need_weight, dd_need_base, dd_block_sum, dd_need_denominator, dd_power_rest, dd_keeps_remainders, dd__law_hand_right, dd__law_draw, dd__law_of, dd__law_raised, dd__law_sum, dd__law_right, dd__law_begun, dd_law]
def faL : List He.Fa := [.glo "power", .glo "is_integer", .glo "is_whole", .glo "need_between", .glo "need_weight", .glo "need_base", .glo "block_sum", .glo "need_denominator", .glo "power_rest", .glo "keeps_remainders", .glo "_law_hand_right", .glo "_law_draw", .glo "_law_of", .glo "_law_raised", .glo "_law_sum", .glo "_law_right", .glo "_law_begun", .glo "law", .free "isinstance", .free "bool", .free "int", .free "repr", .free "len", .free "range", .free "min", .int "MOST_WEIGHT" 1000, .int "MOST_BASE" 1000, .int "MOST_NUMBER" 1000000000000000000000000000000000000000000000000000000000000, .int "MOST_SIZE" 400, .int "MOST_DENOMINATOR" 5000]
def names0 : List Str := ["WheelError", "BadBase", "BadDenominator", "BadNumber", "MOST_BASE", "MOST_DENOMINATOR", "is_integer", "is_whole", "need_base", "need_denominator", "power", "power_rest", "MOST_SIZE", "MOST_WEIGHT", "MOST_NUMBER", "need_between", "need_weight", "block_sum", "keeps_remainders", "_law_begun", "_law_draw", "_law_of", "_law_raised", "_law_sum", "_law_right", "_law_hand_right"]
def names : List Str := names0
abbrev RR : PySem.W.OpenRow := PySem.W.OpenLaw.row PySem.Challenge.rw_wheelnines_k45_whole_block_sums
def xsL : List DWX.XD := []
def fileL : Str := PySem.Challenge.pw_wheelnines_k45_whole_block_sums.main.file
def tfL : List He.Defn := []
theorem tf_mem {n : Str} (h : n ∈ DW.lamNames) : ((n, none) : He.Defn) ∈ tfL := by
  have e : tfL = DW.lamNames.map fun n => ((n, none) : He.Defn) := rfl
  rw [e]
  exact List.mem_map.mpr ⟨n, h, rfl⟩
def exL : PySem.W.Frag → Bool := fun K => He.eqO (PySem.W.nsIn K cStatics "sys.int_max_str_digits") (some none)
def tsL : List He.Tab := []
abbrev hk : PySem.W.Hook := DWX.hookE 5 faL fnL tsL tfL fileL xsL exL
def ob (s : PySem.W.SharedT) : DWX.AlE := DWX.obsE 5 faL fnL tsL tfL fileL xsL exL (HandSHeadRun.getT s)
theorem ob_eq (s : PySem.W.SharedT) : ob s = hk.obs s.abs := DWX.obsE_eq (HandSHeadRun.getT_eq s)
theorem run (w : World) : HandSHeadRun.RunEq RR (PySem.W.view RR.prog [30]) hk ob 20000 names w := by
  intro os
  kernel_rfl
theorem facts {P : Program} {w : World} {K : PySem.W.Frag} {h : Heap} {mg : Str → Option Value} (X : K.In h) (G : h.Ns mainGlobals mg) (ce : DWX.SaysE faL fnL tsL tfL fileL xsL exL w h K) (hfile : (P.main.file : Str) = fileL) (htop : (P.main.scope.names.lookup ("super" : Str)).isSome = false) (base : Heap) {f : Addr} {fd : FuncData} (F : FunD K "law" "law" (defArgs st_law) (defBody st_law) (defScope st_law) [] [] f fd) : FnG P w K mg base CX0 7 f fd ["script"] (spF ⟨K, mg⟩ m_law) := by
  have c : He.SaysD faL fnL K := ce.t.d
  have ndk : NdK K := He.eqO_ok ce.ex
  have D_power : IsDef K mg "power" st_power := by
    obtain ⟨fd, F⟩ := c.def_ 0 (d := dd_power) rfl
    exact ⟨_, fd, F, He.glo_ok X G (c.fact 0 (f := .glo "power") rfl)⟩
  have D_is_integer : IsDef K mg "is_integer" st_is_integer := by
    obtain ⟨fd, F⟩ := c.def_ 1 (d := dd_is_integer) rfl
    exact ⟨_, fd, F, He.glo_ok X G (c.fact 1 (f := .glo "is_integer") rfl)⟩
  have D_is_whole : IsDef K mg "is_whole" st_is_whole := by
    obtain ⟨fd, F⟩ := c.def_ 2 (d := dd_is_whole) rfl
    exact ⟨_, fd, F, He.glo_ok X G (c.fact 2 (f := .glo "is_whole") rfl)⟩
  have D_need_between : IsDef K mg "need_between" st_need_between := by
    obtain ⟨fd, F⟩ := c.def_ 3 (d := dd_need_between) rfl
    exact ⟨_, fd, F, He.glo_ok X G (c.fact 3 (f := .glo "need_between") rfl)⟩
  have D_need_weight : IsDef K mg "need_weight" st_need_weight := by
    obtain ⟨fd, F⟩ := c.def_ 4 (d := dd_need_weight) rfl
    exact ⟨_, fd, F, He.glo_ok X G (c.fact 4 (f := .glo "need_weight") rfl)⟩
  have D_need_base : IsDef K mg "need_base" st_need_base := by
    obtain ⟨fd, F⟩ := c.def_ 5 (d := dd_need_base) rfl
    exact ⟨_, fd, F, He.glo_ok X G (c.fact 5 (f := .glo "need_base") rfl)⟩
  have D_block_sum : IsDef K mg "block_sum" st_block_sum := by
    obtain ⟨fd, F⟩ := c.def_ 6 (d := dd_block_sum) rfl
    exact ⟨_, fd, F, He.glo_ok X G (c.fact 6 (f := .glo "block_sum") rfl)⟩
  have D_need_denominator : IsDef K mg "need_denominator" st_need_denominator := by
    obtain ⟨fd, F⟩ := c.def_ 7 (d := dd_need_denominator) rfl
    exact ⟨_, fd, F, He.glo_ok X G (c.fact 7 (f := .glo "need_denominator") rfl)⟩
  have D_power_rest : IsDef K mg "power_rest" st_power_rest := by
    obtain ⟨fd, F⟩ := c.def_ 8 (d := dd_power_rest) rfl
    exact ⟨_, fd, F, He.glo_ok X G (c.fact 8 (f := .glo "power_rest") rfl)⟩
  have D_keeps_remainders : IsDef K mg "keeps_remainders" st_keeps_remainders := by
    obtain ⟨fd, F⟩ := c.def_ 9 (d := dd_keeps_remainders) rfl
    exact ⟨_, fd, F, He.glo_ok X G (c.fact 9 (f := .glo "keeps_remainders") rfl)⟩
  have D__law_hand_right : IsDef K mg "_law_hand_right" st__law_hand_right := by
    obtain ⟨fd, F⟩ := c.def_ 10 (d := dd__law_hand_right) rfl
    exact ⟨_, fd, F, He.glo_ok X G (c.fact 10 (f := .glo "_law_hand_right") rfl)⟩
  have D__law_draw : IsDef K mg "_law_draw" st__law_draw := by
    obtain ⟨fd, F⟩ := c.def_ 11 (d := dd__law_draw) rfl
    exact ⟨_, fd, F, He.glo_ok X G (c.fact 11 (f := .glo "_law_draw") rfl)⟩
  have D__law_of : IsDef K mg "_law_of" st__law_of := by
    obtain ⟨fd, F⟩ := c.def_ 12 (d := dd__law_of) rfl
    exact ⟨_, fd, F, He.glo_ok X G (c.fact 12 (f := .glo "_law_of") rfl)⟩
  have D__law_raised : IsDef K mg "_law_raised" st__law_raised := by
    obtain ⟨fd, F⟩ := c.def_ 13 (d := dd__law_raised) rfl
    exact ⟨_, fd, F, He.glo_ok X G (c.fact 13 (f := .glo "_law_raised") rfl)⟩
  have D__law_sum : IsDef K mg "_law_sum" st__law_sum := by
    obtain ⟨fd, F⟩ := c.def_ 14 (d := dd__law_sum) rfl
    exact ⟨_, fd, F, He.glo_ok X G (c.fact 14 (f := .glo "_law_sum") rfl)⟩
  have D__law_right : IsDef K mg "_law_right" st__law_right := by
    obtain ⟨fd, F⟩ := c.def_ 15 (d := dd__law_right) rfl
    exact ⟨_, fd, F, He.glo_ok X G (c.fact 15 (f := .glo "_law_right") rfl)⟩
  have D__law_begun : IsDef K mg "_law_begun" st__law_begun := by
    obtain ⟨fd, F⟩ := c.def_ 16 (d := dd__law_begun) rfl
    exact ⟨_, fd, F, He.glo_ok X G (c.fact 16 (f := .glo "_law_begun") rfl)⟩
  have n_isinstance : mg "isinstance" = none := He.free_ok X G (c.fact 18 (f := .free "isinstance") rfl)
  have n_bool : mg "bool" = none := He.free_ok X G (c.fact 19 (f := .free "bool") rfl)
  have n_int : mg "int" = none := He.free_ok X G (c.fact 20 (f := .free "int") rfl)
  have n_repr : mg "repr" = none := He.free_ok X G (c.fact 21 (f := .free "repr") rfl)
  have n_len : mg "len" = none := He.free_ok X G (c.fact 22 (f := .free "len") rfl)
  have n_range : mg "range" = none := He.free_ok X G (c.fact 23 (f := .free "range") rfl)
  have n_min : mg "min" = none := He.free_ok X G (c.fact 24 (f := .free "min") rfl)
  have g_MOST_WEIGHT : ∃ t, mg "MOST_WEIGHT" = some (.int 1000 t) := He.int_ok X G (c.fact 25 (f := .int "MOST_WEIGHT" 1000) rfl)
  have g_MOST_BASE : ∃ t, mg "MOST_BASE" = some (.int 1000 t) := He.int_ok X G (c.fact 26 (f := .int "MOST_BASE" 1000) rfl)
  have g_MOST_NUMBER : ∃ t, mg "MOST_NUMBER" = some (.int 1000000000000000000000000000000000000000000000000000000000000 t) := He.int_ok X G (c.fact 27 (f := .int "MOST_NUMBER" 1000000000000000000000000000000000000000000000000000000000000) rfl)
  have g_MOST_SIZE : ∃ t, mg "MOST_SIZE" = some (.int 400 t) := He.int_ok X G (c.fact 28 (f := .int "MOST_SIZE" 400) rfl)
  have g_MOST_DENOMINATOR : ∃ t, mg "MOST_DENOMINATOR" = some (.int 5000 t) := He.int_ok X G (c.fact 29 (f := .int "MOST_DENOMINATOR" 5000) rfl)
  have h_power := p_power (P := P) (w := w) (base := base) D_power
  have h_is_integer := p_is_integer (P := P) (w := w) (base := base) D_is_integer n_isinstance n_bool n_int
  have h_is_whole := p_is_whole (P := P) (w := w) (base := base) D_is_whole h_is_integer
  have h_need_between := p_need_between (P := P) (w := w) (base := base) D_need_between h_is_whole
  have h_need_weight := p_need_weight (P := P) (w := w) (base := base) D_need_weight h_need_between g_MOST_WEIGHT
  have h_need_base := p_need_base (P := P) (w := w) (base := base) D_need_base h_is_whole g_MOST_BASE
  have h_block_sum := p_block_sum (P := P) (w := w) (base := base) D_block_sum h_need_between h_need_weight h_need_base h_power g_MOST_NUMBER g_MOST_SIZE
  have h_need_denominator := p_need_denominator (P := P) (w := w) (base := base) D_need_denominator h_is_whole g_MOST_DENOMINATOR
  have h_power_rest := p_power_rest (P := P) (w := w) (base := base) D_power_rest
  have h_keeps_remainders := p_keeps_remainders (P := P) (w := w) (base := base) D_keeps_remainders h_need_weight h_power_rest h_need_between h_need_denominator h_need_base g_MOST_SIZE
  have h__law_hand_right := p__law_hand_right (P := P) (w := w) (base := base) D__law_hand_right h_keeps_remainders h_block_sum ndk n_repr
  have h__law_draw := p__law_draw (P := P) (w := w) (base := base) D__law_draw n_int n_len
  have h__law_of := p__law_of (P := P) (w := w) (base := base) D__law_of h__law_draw n_len
  have h__law_raised := p__law_raised (P := P) (w := w) (base := base) D__law_raised n_int
  have h__law_sum := p__law_sum (P := P) (w := w) (base := base) D__law_sum n_len n_range n_int
  have h__law_right := p__law_right (P := P) (w := w) (base := base) D__law_right h_block_sum h__law_sum h__law_of h__law_draw h_keeps_remainders h__law_raised ndk n_min n_range n_int n_repr
  have h__law_begun := p__law_begun (P := P) (w := w) (base := base) D__law_begun n_int
  have h_law := p_law (P := P) (w := w) (base := base) F h__law_hand_right h__law_begun h__law_right n_len n_min n_range
  exact h_law
end LAW
end
open PySem PySem.W PySem.Calls PyProof.Rows
set_option maxRecDepth 100000 in
set_option maxHeartbeats 0 in
theorem PySem.Challenge.cw_wheelnines_k45_whole_block_sums_holds : PySem.Challenge.rw_wheelnines_k45_whole_block_sums.Holds := by
  w_on; o_law
  refine HandSHeadRun.head_any (r := OpenLaw.row PySem.Challenge.rw_wheelnines_k45_whole_block_sums) (q := view (OpenLaw.row PySem.Challenge.rw_wheelnines_k45_whole_block_sums).prog [30]) (H := LAW.hk) (ob := LAW.ob) (M := 20000) (loose := LAW.names) (d := HandSHeadRun.topDef (OpenLaw.row PySem.Challenge.rw_wheelnines_k45_whole_block_sums).prog 30) (kwd := []) LAW.ob_eq
    (by kernel_rfl) (fun s => by kernel_rfl) LAW.run (by kernel_rfl) (by kernel_rfl) (by kernel_rfl) (by rfl) (by first | assumption | decide +kernel) (by decide +kernel) ⟨rfl, rfl, rfl, rfl, rfl, by decide +kernel⟩ ?hw ?hc
  case hw => w_witness2
  case hc =>
    refine DW.walkG (l := PySem.Challenge.rw_wheelnines_k45_whole_block_sums) (n := 63) (k := 7) (x := "script") (CX := L2.CX0) rfl (by decide) (by kernel_rfl) ⟨rfl, by decide, by decide⟩ ?F (fun _ _ _ _ z => z)
    intro w mg fa h Y G hmg0
    obtain ⟨K, KX, ce⟩ := Y
    have c := ce.t.d
    have hmg : mg ("law" : PySem.Str) = some (.ref fa) := by
      have e : (HandSHeadRun.topDef (OpenLaw.row PySem.Challenge.rw_wheelnines_k45_whole_block_sums).prog 30).name = ("law" : PySem.Str) := by kernel_rfl
      rw [← e]
      exact hmg0
    obtain ⟨fd, F⟩ := c.def_ 17 (d := LAW.dd_law) rfl
    have hga : mg ("law" : PySem.Str) = some (.ref (He.fAd K ("law", none))) := He.glo_ok KX G (c.fact 17 (f := .glo "law") rfl)
    rw [hmg] at hga
    have hfa : fa = He.fAd K ("law", none) := by cases hga; rfl
    have b := L2.FunD.bindsA (ps := ["script"]) F fun _ _ _ _ _ _ us hl => match us, hl with | [_], _ => rfl
    rw [hfa]
    exact ⟨K, fd, DW.spF ⟨K, mg⟩ LAW.m_law, KX, fun s v => b s [v] rfl, fun H a ns hl hS => DW.law_sp LAW.law_true H a ns hl hS (fun p hp => nomatch (show p ∈ ([] : List _) from hp)), fun base _ _ => LAW.facts (P := (PySem.Challenge.rw_wheelnines_k45_whole_block_sums).prog) (w := w) KX G ce rfl (by kernel_rfl) base F⟩

