import PyProof.Rows.All
import Wide.All
import OpenK.AllK
import Wide.FinOn
import HandS.ForMost
import HandS.Walk
import HandS.Wide
import HandS.IsInst
import HandS.DictComp
import HandS.Flow
import HandS.Style
import HandS.Exc
import HandS.TupAny
import HandS.TupMul
import HandS.SortInts
import HandS.FStr
import HandS.ListItems
import HandS.Conv
import HandS.Lambda
import HandS.HeadHook4
import KE.KDflt
import KE.KSortedM
import PyProof.DictUpdate
import PyProof.WalksMore
import PyProof.TupleIter
import PyProof.ConsumeWalk
import HandS.Defaults
import HandS.HeadEnd
import HandS.Head0
import HandS.Head1
import HandS.Head2
import HandS.HeadHook1
import HandS.HeadHook2
import KE.KStateDown
import HandS.RaiseMore
import HandS.ExcValue
import HandS.DictTup
import HandS.SortRule
import HandS.SetFor
import HandS.Strs
import HandS.ForExc
import HandS.ExcField
import KE.KExcSuper
import HandS.Property
import HandS.Star
import OpenK.KOps
import HandS.EndTab
import KE.KTryMore
import KE.KExcIs
import HandS.Codes
import HandS.OwnEq
import HandS.Text
import PySem.Challenge.RW_wheelnines_k21_desks_by_hand
/-! DW0: the defs of the law that make lambdas (printed per law by gen.py) -/
namespace DW
/-- a lambda that captures nothing: its qualified name, its parts -/
structure LamD where
  q : PySem.Str
  params : PySem.Arguments
  body : PySem.Expr
  scope : PySem.Scope
/-- the defs that make lambdas -/
def lamNames : List PySem.Str := ["law"]
/-- those of them whose lambdas capture nothing -/
def fnNames : List PySem.Str := []
def lamIn (q : PySem.Str) : PySem.Expr → List LamD
  | .Tuple [_, .Lambda p b s _] _ _ => [⟨q, p, b, s⟩]
  | _ => []
/-- the lambdas of a def that returns a list of pairs -/
def lamsOf (n : PySem.Str) : PySem.Stmt → List LamD
  | .FunctionDef _ _ [.Return (some (.List es _)) _] _ _ _ _ _ _ _ => es.flatMap (lamIn (n ++ ".<locals>." ++ "<lambda>"))
  | _ => []
/-- their lambdas -/
def lamTab : List LamD := []
end DW

set_option Elab.async false
set_option linter.all false
set_option maxRecDepth 100000
set_option maxHeartbeats 4000000
/-! DW1 (with a store of objects that change): data without the heap, environments of data, the judgements over data -/
namespace DW
open PySem L2

/-! ### data -/
inductive Dt where
  | non | bl (b : Bool) | int (i : Int) | str (x : Str) | lst (xs : List Dt) | tup (xs : List Dt) | dct (kvs : List (Key × Dt)) | scr (ns : List Int) | xo (cls fld : Str) (val : Dt) | fn (i : Nat)
/-- an error object of the class cls, its dict at dd -/
def ExV (a : Addr) (cls : Value) (dd : Addr) : HO := .ext fun h => ∃ (oe : Obj) (vs : Array Value), h.get? a = some oe ∧ Zc cls (some dd) oe ∧ oe.data = .fields vs

/-- an error object of the class cls without a dict, its arguments at t -/
def ExB (a : Addr) (cls : Value) (t : Addr) : HO := .ext fun h => ∃ (oe : Obj) (vs : Array Value), h.get? a = some oe ∧ Zc cls none oe ∧ oe.data = .fields vs ∧ vs[0]? = some (.ref t)

/-- the function object of a lambda that captures nothing -/
def FnO (L : LamD) (c' f : Addr) : HO := .ext fun h => ∃ doc pm ctv, h.get? f = some (PySem.W.kdv_obj "<lambda>" L.q L.params (.expr L.body) L.scope [] .none doc pm c' ctv)

mutual
inductive Da (K : PySem.W.Frag) (H : Hp) : V → Dt → Prop
  | non : Da K H .non .non
  | bl (b : Bool) : Da K H (.bl b) (.bl b)
  | int (i : Int) : Da K H (.int i) (.int i)
  | str (x : Str) : Da K H (.str x) (.str x)
  | lst {a : Addr} {xs : List V} {ds : List Dt} : H a = some (.lst xs) → DaAll K H xs ds → Da K H (.ref a) (.lst ds)
  | tup {a : Addr} {xs : List V} {ds : List Dt} : SqT K H a xs → DaAll K H xs ds → Da K H (.ref a) (.tup ds)
  | dct {a : Addr} {ks : List (Key × V)} {kvs : List (Key × Dt)} : H a = some (.dK ks) → DaKv K H ks kvs → Da K H (.ref a) (.dct kvs)
  | scr {a : Addr} {ns : List Int} : SqL K H a (ns.map V.int) → Da K H (.ref a) (.scr ns)
  | xo {a dd : Addr} {cls fld : Str} {v : V} {d : Dt} : fld ≠ "" → H a = some (ExV a (.ref (He.ga K cls)) dd) → H dd = some (.xd [(fld, v)]) → Da K H v d → Da K H (.ref a) (.xo cls fld d)
  | xb {a t : Addr} {cls x : Str} : H a = some (ExB a (.ref (He.ga K cls)) t) → H t = some (.tup [.str x]) → Da K H (.ref a) (.xo cls "" (.str x))
  | fn {f c' : Addr} {i : Nat} {L : LamD} : lamTab[i]? = some L → H f = some (FnO L c' f) → H c' = some (LamX.CodeO c' L.q) → Da K H (.ref f) (.fn i)
inductive DaAll (K : PySem.W.Frag) (H : Hp) : List V → List Dt → Prop
  | nil : DaAll K H [] []
  | cons {v : V} {vs : List V} {d : Dt} {ds : List Dt} : Da K H v d → DaAll K H vs ds → DaAll K H (v :: vs) (d :: ds)
inductive DaKv (K : PySem.W.Frag) (H : Hp) : List (Key × V) → List (Key × Dt) → Prop
  | nil : DaKv K H [] []
  | cons {k : Key} {v : V} {ks : List (Key × V)} {d : Dt} {kvs : List (Key × Dt)} : Da K H v d → DaKv K H ks kvs → DaKv K H ((k, v) :: ks) ((k, d) :: kvs)
end

/-- not a table of code objects -/
def NT (o : HO) : Prop := ∀ ps, o ≠ .tbl ps
theorem nt_lst (xs : List V) : NT (.lst xs) := fun _ z => nomatch z
theorem nt_dK (xs : List (Key × V)) : NT (.dK xs) := fun _ z => nomatch z
/-- what is no table stands as it was; where something stood, something stands (a table in the base is the ghost of an object that changes) -/
def Same (H H' : Hp) : Prop := ∀ a o, H a = some o → (NT o → H' a = some o) ∧ H' a ≠ none
theorem Same.refl (H : Hp) : Same H H := fun a o h => ⟨fun _ => h, by rw [h]; exact fun z => nomatch z⟩
theorem Same.hit {H H' : Hp} {a : Addr} {o : HO} (e : Same H H') (h : H a = some o) (n : NT o := by intro ps z; cases z) : H' a = some o := (e a o h).1 n
theorem Same.st {H H' : Hp} {a : Addr} (e : Same H H') (h : H a ≠ none) : H' a ≠ none := by
  cases z : H a with
  | none => exact absurd z h
  | some o => exact (e a o z).2
theorem Same.no {H H' : Hp} {a : Addr} (e : Same H H') (h : H' a = none) : H a = none := by
  cases z : H a with
  | none => rfl
  | some o => exact absurd h (e a o z).2
theorem Same.trans {H H' H'' : Hp} (e : Same H H') (f : Same H' H'') : Same H H'' := fun a o h => ⟨fun n => f.hit (e.hit h n) n, f.st (e a o h).2⟩
theorem Same.of {H H' : Hp} (e : ∀ a o, H a = some o → H' a = some o) : Same H H' := fun a o h => ⟨fun _ => e a o h, by rw [e a o h]; exact fun z => nomatch z⟩
theorem seqL_mono {K : PySem.W.Frag} {H H' : Hp} {a : Addr} {xs : List V} (e : Same H H') (h : SqL K H a xs) : SqL K H' a xs := by
  rcases h with (h | ⟨o, h⟩) | h
  · exact .inl (.inl (e.hit h))
  · exact .inl (.inr ⟨o, e.hit h⟩)
  · exact .inr h
theorem seqT_mono {K : PySem.W.Frag} {H H' : Hp} {a : Addr} {xs : List V} (e : Same H H') (h : SqT K H a xs) : SqT K H' a xs := by
  rcases h with (h | ⟨o, h⟩) | h
  · exact .inl (.inl (e.hit h))
  · exact .inl (.inr ⟨o, e.hit h⟩)
  · exact .inr h

mutual
theorem Da.mono {K : PySem.W.Frag} {H H' : Hp} (e : Same H H') : ∀ {v : V} {d : Dt}, Da K H v d → Da K H' v d
  | _, _, .non => .non
  | _, _, .bl b => .bl b
  | _, _, .int i => .int i
  | _, _, .str x => .str x
  | _, _, .lst h1 h2 => .lst (e.hit h1) (DaAll.mono e h2)
  | _, _, .scr h1 => .scr (seqL_mono e h1)
  | _, _, .xo h0 h1 h2 h3 => .xo h0 (e.hit h1) (e.hit h2) (Da.mono e h3)
  | _, _, .xb h1 h2 => .xb (e.hit h1) (e.hit h2)
  | _, _, .fn h1 h2 h3 => .fn h1 (e.hit h2) (e.hit h3)
  | _, _, .tup h1 h2 => .tup (seqT_mono e h1) (DaAll.mono e h2)
  | _, _, .dct h1 h2 => .dct (e.hit h1) (DaKv.mono e h2)
theorem DaAll.mono {K : PySem.W.Frag} {H H' : Hp} (e : Same H H') : ∀ {v : List V} {d : List Dt}, DaAll K H v d → DaAll K H' v d
  | _, _, .nil => .nil
  | _, _, .cons h1 h2 => .cons (Da.mono e h1) (DaAll.mono e h2)
theorem DaKv.mono {K : PySem.W.Frag} {H H' : Hp} (e : Same H H') : ∀ {v : List (Key × V)} {d : List (Key × Dt)}, DaKv K H v d → DaKv K H' v d
  | _, _, .nil => .nil
  | _, _, .cons h1 h2 => .cons (Da.mono e h1) (DaKv.mono e h2)
end

theorem DaAll.length {K : PySem.W.Frag} {H : Hp} : ∀ {vs : List V} {ds : List Dt}, DaAll K H vs ds → vs.length = ds.length
  | _, _, .nil => rfl
  | _, _, .cons _ h => congrArg (· + 1) h.length
theorem DaAll.get {K : PySem.W.Frag} {H : Hp} : ∀ {vs : List V} {ds : List Dt} {i : Nat} {d : Dt}, DaAll K H vs ds → ds[i]? = some d → ∃ v, vs[i]? = some v ∧ Da K H v d
  | _, _, _, _, .nil, e => by simp at e
  | _, _, 0, _, .cons h _, e => by
    simp at e
    subst e
    exact ⟨_, rfl, h⟩
  | _, _, i + 1, _, .cons _ h, e => by
    simp at e
    obtain ⟨v, h1, h2⟩ := h.get e
    exact ⟨v, by simpa using h1, h2⟩
theorem DaAll.getV {K : PySem.W.Frag} {H : Hp} : ∀ {vs : List V} {ds : List Dt} {i : Nat} {v : V}, DaAll K H vs ds → vs[i]? = some v → ∃ d, ds[i]? = some d ∧ Da K H v d
  | _, _, _, _, .nil, e => by simp at e
  | _, _, 0, _, .cons h _, e => by
    simp at e
    subst e
    exact ⟨_, rfl, h⟩
  | _, _, i + 1, _, .cons _ h, e => by
    simp at e
    obtain ⟨v, h1, h2⟩ := h.getV e
    exact ⟨v, by simpa using h1, h2⟩
theorem DaAll.append {K : PySem.W.Frag} {H : Hp} : ∀ {vs ws : List V} {ds es : List Dt}, DaAll K H vs ds → DaAll K H ws es → DaAll K H (vs ++ ws) (ds ++ es)
  | _, _, _, _, .nil, h => h
  | _, _, _, _, .cons h1 h2, h => .cons h1 (h2.append h)
theorem DaAll.take {K : PySem.W.Frag} {H : Hp} : ∀ {vs : List V} {ds : List Dt} (n : Nat), DaAll K H vs ds → DaAll K H (vs.take n) (ds.take n)
  | _, _, 0, _ => .nil
  | _, _, _ + 1, .nil => .nil
  | _, _, n + 1, .cons h1 h2 => .cons h1 (h2.take n)
theorem DaAll.drop {K : PySem.W.Frag} {H : Hp} : ∀ {vs : List V} {ds : List Dt} (n : Nat), DaAll K H vs ds → DaAll K H (vs.drop n) (ds.drop n)
  | _, _, 0, h => h
  | _, _, _ + 1, .nil => .nil
  | _, _, n + 1, .cons h1 h2 => h2.drop n
theorem DaAll.ints {K : PySem.W.Frag} {H : Hp} : ∀ {vs : List V} {ns : List Int}, DaAll K H vs (ns.map Dt.int) → vs = ns.map V.int
  | _, [], h => by cases h; rfl
  | _, n :: ns, h => by
    cases h with
    | cons h1 h2 =>
      cases h1
      rw [h2.ints]
      rfl
theorem daInts {K : PySem.W.Frag} {H : Hp} : ∀ (ns : List Int), DaAll K H (ns.map V.int) (ns.map Dt.int)
  | [] => .nil
  | n :: ns => .cons (.int n) (daInts ns)
theorem DaAll.bls {K : PySem.W.Frag} {H : Hp} : ∀ {vs : List V} {ns : List Bool}, DaAll K H vs (ns.map Dt.bl) → vs = ns.map V.bl
  | _, [], h => by cases h; rfl
  | _, n :: ns, h => by
    cases h with
    | cons h1 h2 =>
      cases h1
      rw [h2.bls]
      rfl

/-! ### environments -/
/-- where a body began: the base, the heap (without the store's objects, if it may change them), the dict that it may change, whether it may change the store -/
structure Fm where
  H0 : Hp
  H : Hp
  io : Option Addr
  st : Bool
/-- a value in an object of the store: data, or a reference to an object of the store -/
inductive Sv where
  | d (x : Dt) | r (k : Nat)
/-- an object of the store: an instance, a list of data -/
inductive Ob where
  | ins (cls : Str) (fs : List (Str × Sv)) | lst (xs : List Dt)
abbrev Sto := List Ob
/-- raw: a function that is handed on, with where the body began -/
inductive Sl where
  | fr (d : Dt) | ol (xs : List Dt) | od (kvs : List (Key × Dt)) | io (kvs : List (Key × Dt)) | raw (v : V) (F : Fm) | rf (k : Nat) | sto (S : Sto)
def Sl.own : Sl → Bool
  | .ol _ => true
  | .od _ => true
  | _ => false
def Sl.mut : Sl → Bool
  | .fr _ => false
  | .raw _ _ => false
  | .rf _ => false
  | .sto _ => false
  | _ => true
theorem Sl.mut_of_own {s : Sl} (h : s.own = true) : s.mut = true := by cases s <;> first | rfl | cases h
abbrev Rho := List (Option Sl)
structure Xc where
  cls : Str
  fld : Str
  val : Dt
inductive R (α : Type) where
  | ok (a : α) (ρ : Rho) | ex (e : Xc) (ρ : Rho) | bad
def R.bind {α β : Type} (r : R α) (g : α → Rho → R β) : R β := match r with
  | .ok a ρ => g a ρ
  | .ex e ρ => .ex e ρ
  | .bad => .bad
inductive SR where
  | nx (ρ : Rho) | rt (s : Sl) (ρ : Rho) | bk (ρ : Rho) | ct (ρ : Rho) | ex (e : Xc) (ρ : Rho) | bad
def R.bindS {α : Type} (r : R α) (g : α → Rho → SR) : SR := match r with
  | .ok a ρ => g a ρ
  | .ex e ρ => .ex e ρ
  | .bad => .bad

structure Gr (F : Fm) (H0 H : Hp) : Prop where
  b0 : Same F.H0 H0
  keep : ∀ a o, F.H a = some o → F.io ≠ some a → H a = some o
  off : ∀ a, F.H a ≠ none → F.H0 a = none → H0 a = none
  gg : ∀ a ps, H0 a = some (.tbl ps) ↔ F.H0 a = some (.tbl ps)
/-- the tables of the defs that make lambdas -/
def tT (K : PySem.W.Frag) : List (Addr × Str) := lamNames.map fun n => ((He.cT K (n, none)).2, n ++ ".<locals>." ++ "<lambda>")
/-- the defs whose lambdas capture nothing -/
def fnB (q : Str) : Bool := fnNames.any fun n => n ++ ".<locals>." ++ "<lambda>" == q
/-- the code objects of such defs stand in the base -/
def TbF (H0 H : Hp) (P : Addr) (q : Str) : Prop := fnB q = true → ∀ ps : Array Value, H P = some (.tbl ps) → ∀ (pos : Pos) (cv : Value), codeAmong pos ps.toList = some cv → ∃ c, cv = .ref c ∧ H0 c = some (LamX.CodeO c q)
def TbOk (K : PySem.W.Frag) (H0 H : Hp) : Prop := ∀ p ∈ tT K, (H0 p.1 = none ∧ TbF H0 H p.1 p.2) ∧ LamX.TabS H p.1 p.2
/-- as Gr, but tables may have grown -/
structure Gw (F : Fm) (H0 H : Hp) : Prop where
  b0 : Same F.H0 H0
  keep : ∀ a o, F.H a = some o → NT o → F.io ≠ some a → H a = some o
  off : ∀ a, F.H a ≠ none → F.H0 a = none → H0 a = none
  st : ∀ a, F.H a ≠ none → H a ≠ none
  gk : ∀ a ps, F.H0 a = some (.tbl ps) → H0 a = some (.tbl ps)
  gs : ∀ a ps, H0 a = some (.tbl ps) → (F.st = true ∧ F.H a = none) ∨ (F.st = false ∧ F.H0 a = some (.tbl ps))
theorem tbf_away {H0 H H0' H' : Hp} {P : Addr} {q : Str} {ps : Array Value} (t : TbF H0 H P q) (e : H P = some (.tbl ps)) (e' : H' P = some (.tbl ps)) (b : Same H0 H0') : TbF H0' H' P q := fun hf ps' e2 pos cv hc => by
  rw [e'] at e2
  cases e2
  obtain ⟨c, e1, e2⟩ := t hf ps e pos cv hc
  exact ⟨c, e1, b.hit e2⟩
theorem tbf_b {H0 H H0' : Hp} {P : Addr} {q : Str} (t : TbF H0 H P q) (b : Same H0 H0') : TbF H0' H P q := fun hf ps e pos cv hc => by
  obtain ⟨c, e1, e2⟩ := t hf ps e pos cv hc
  exact ⟨c, e1, b.hit e2⟩
theorem tab_away {K : PySem.W.Frag} {H0 H H0' H' : Hp} (t : TbOk K H0 H) (k : ∀ a o, H a = some o → (∀ xs, o ≠ .lst xs) → (∀ xs, o ≠ .dK xs) → H' a = some o) (f : ∀ a, H a ≠ none → H0 a = none → (∀ xs, H a ≠ some (.lst xs)) → (∀ xs, H a ≠ some (.dK xs)) → H0' a = none) (b : Same H0 H0' := by exact Same.refl _) : TbOk K H0' H' := fun p hp => by
  obtain ⟨⟨h1, hF⟩, ps, h2, h3, h4⟩ := t p hp
  have h2' := k _ _ h2 (fun _ z => nomatch z) (fun _ z => nomatch z)
  refine ⟨⟨f p.1 (by rw [h2]; exact fun z => nomatch z) h1 (fun xs z => by rw [h2] at z; cases z) (fun xs z => by rw [h2] at z; cases z), tbf_away hF h2 h2' b⟩, ps, h2', h3, fun pos cv hc => ?_⟩
  obtain ⟨c, e1, e2⟩ := h4 pos cv hc
  exact ⟨c, e1, k _ _ e2 (fun _ z => nomatch z) (fun _ z => nomatch z)⟩
/-- as tab_away, where lists and instances were changed -/
theorem tab_awayI {K : PySem.W.Frag} {H0 H H0' H' : Hp} (t : TbOk K H0 H) (k : ∀ a o, H a = some o → (∀ xs, o ≠ .lst xs) → (∀ C d fs, o ≠ .ins C d fs) → H' a = some o) (f : ∀ a ps, H a = some (.tbl ps) → H0 a = none → H0' a = none) (b : Same H0 H0' := by exact Same.refl _) : TbOk K H0' H' := fun p hp => by
  obtain ⟨⟨h1, hF⟩, ps, h2, h3, h4⟩ := t p hp
  have h2' := k _ _ h2 (fun _ z => nomatch z) (fun _ _ _ z => nomatch z)
  refine ⟨⟨f p.1 ps h2 h1, tbf_away hF h2 h2' b⟩, ps, h2', h3, fun pos cv hc => ?_⟩
  obtain ⟨c, e1, e2⟩ := h4 pos cv hc
  exact ⟨c, e1, k _ _ e2 (fun _ z => nomatch z) (fun _ _ _ z => nomatch z)⟩
/-! ### the store: objects that change; in the base a table stands for each (its size tells which) -/
def ghA (k : Nat) : Array Value := Array.replicate k Value.none
def gh (k : Nat) : HO := .tbl (ghA k)
theorem ghA_inj {j k : Nat} (h : ghA j = ghA k) : j = k := by
  have := congrArg Array.size h
  simpa [ghA] using this
theorem gh_inj {j k : Nat} (h : gh j = gh k) : j = k := ghA_inj (HO.tbl.inj h)
def SvR (K : PySem.W.Frag) (H0 : Hp) (v : V) : Sv → Prop
  | .d x => Da K H0 v x
  | .r k => ∃ a, v = .ref a ∧ H0 a = some (gh k)
inductive FsR (K : PySem.W.Frag) (H0 : Hp) : List (Str × V) → List (Str × Sv) → Prop
  | nil : FsR K H0 [] []
  | cons {f : Str} {v : V} {x : Sv} {vs : List (Str × V)} {fs : List (Str × Sv)} : SvR K H0 v x → FsR K H0 vs fs → FsR K H0 ((f, v) :: vs) ((f, x) :: fs)
def ObR (K : PySem.W.Frag) (H0 H : Hp) (a : Addr) : Ob → Prop
  | .ins c fs => ∃ dx vs, H a = some (.ins (He.ga K c) dx vs) ∧ FsR K H0 vs fs
  | .lst ds => ∃ vs, H a = some (.lst vs) ∧ DaAll K H0 vs ds
structure StoR (K : PySem.W.Frag) (H0 H : Hp) (S : Sto) : Prop where
  at_ : ∀ (k : Nat) (o : Ob), S[k]? = some o → ∃ a, H0 a = some (gh k) ∧ ObR K H0 H a o
  un : ∀ (a b : Addr) (k : Nat), H0 a = some (gh k) → H0 b = some (gh k) → a = b
  all : ∀ (a : Addr) (ps : Array Value), H0 a = some (.tbl ps) → ∃ k, ps = ghA k ∧ k < S.length
theorem SvR.mono {K : PySem.W.Frag} {H0 H0' : Hp} {v : V} {x : Sv} (e : Same H0 H0') (g : ∀ a ps, H0 a = some (.tbl ps) → H0' a = some (.tbl ps)) (h : SvR K H0 v x) : SvR K H0' v x := by
  cases x with
  | d x => exact Da.mono e h
  | r k =>
    obtain ⟨a, rfl, h⟩ := h
    exact ⟨a, rfl, g _ _ h⟩
theorem FsR.mono {K : PySem.W.Frag} {H0 H0' : Hp} (e : Same H0 H0') (g : ∀ a ps, H0 a = some (.tbl ps) → H0' a = some (.tbl ps)) : ∀ {vs : List (Str × V)} {fs : List (Str × Sv)}, FsR K H0 vs fs → FsR K H0' vs fs
  | _, _, .nil => .nil
  | _, _, .cons h1 h2 => .cons (h1.mono e g) (FsR.mono e g h2)
theorem ObR.mono {K : PySem.W.Frag} {H0 H0' H H' : Hp} {a : Addr} {o : Ob} (e : Same H0 H0') (g : ∀ a ps, H0 a = some (.tbl ps) → H0' a = some (.tbl ps)) (k : ∀ u, H a = some u → NT u → H' a = some u) (h : ObR K H0 H a o) : ObR K H0' H' a o := by
  cases o with
  | ins c fs =>
    obtain ⟨dx, vs, h1, h2⟩ := h
    exact ⟨dx, vs, k _ h1 (fun _ z => nomatch z), h2.mono e g⟩
  | lst ds =>
    obtain ⟨vs, h1, h2⟩ := h
    exact ⟨vs, k _ h1 (nt_lst _), h2.mono e⟩
/-- the base grew (but by ghosts), the objects stand as they stood -/
theorem StoR.mono {K : PySem.W.Frag} {H0 H0' H H' : Hp} {S : Sto} (e : Same H0 H0') (g : ∀ a ps, H0' a = some (.tbl ps) ↔ H0 a = some (.tbl ps)) (k : ∀ a j u, H0 a = some (gh j) → H a = some u → NT u → H' a = some u) (h : StoR K H0 H S) : StoR K H0' H' S where
  at_ := fun j o hj => by
    obtain ⟨a, h1, h2⟩ := h.at_ j o hj
    exact ⟨a, (g _ _).mpr h1, h2.mono e (fun b ps z => (g b ps).mpr z) (fun u => k a j u h1)⟩
  un := fun a b j h1 h2 => h.un a b j ((g _ _).mp h1) ((g _ _).mp h2)
  all := fun a ps h1 => h.all a ps ((g _ _).mp h1)
def SlR (K : PySem.W.Frag) (F : Fm) (H0 H : Hp) (v : V) : Sl → Prop
  | .fr d => Da K H0 v d
  | .ol ds => ∃ a vs, v = .ref a ∧ H0 a = none ∧ F.H a = none ∧ H a = some (.lst vs) ∧ DaAll K H0 vs ds
  | .od kvs => ∃ a ks, v = .ref a ∧ H0 a = none ∧ F.H a = none ∧ H a = some (.dK ks) ∧ DaKv K H0 ks kvs
  | .io kvs => ∃ a ks, v = .ref a ∧ H0 a = none ∧ F.io = some a ∧ H a = some (.dK ks) ∧ DaKv K H0 ks kvs
  | .raw w F' => v = w ∧ F' = F
  | .rf k => ∃ a, v = .ref a ∧ H0 a = some (gh k)
  | .sto S => StoR K H0 H S
structure En (K : PySem.W.Frag) (F : Fm) (H0 H : Hp) (σ : L2.St) (ρ : Rho) : Prop where
  gr : Gw F H0 H
  tb : TbOk K H0 H
  ex : Same H0 H
  len : σ.length = ρ.length
  sl : ∀ (i : Nat) (s : Sl), ρ[i]? = some (some s) → ∃ v, σ[i]? = some (some v) ∧ SlR K F H0 H v s
  sep : ∀ (i j : Nat) (s t : Sl) (a : Addr), i ≠ j → ρ[i]? = some (some s) → ρ[j]? = some (some t) → s.own = true → t.own = true → σ[i]? = some (some (.ref a)) → σ[j]? ≠ some (some (.ref a))
  io : ∀ a, F.io = some a → σ[0]? = some (some (.ref a)) ∧ (∃ kvs, ρ[0]? = some (some (.io kvs))) ∧ F.H a ≠ none
  io1 : ∀ (i : Nat) (kvs : List (Key × Dt)), ρ[i]? = some (some (.io kvs)) → i = 0
  st1 : ∀ (i : Nat) (S : Sto), ρ[i]? = some (some (.sto S)) → i + 1 = ρ.length ∧ F.st = true

section
variable {K : PySem.W.Frag} {F : Fm} {H0 H H0' H' : Hp} {σ : L2.St} {ρ : Rho} {v : V} {d : Dt} {s : Sl} {i : Nat} {a p : Addr} {o : HO}

theorem En.ioAt (E : En K F H0 H σ ρ) (h : F.io = some a) : H0 a = none ∧ ∃ ks, H a = some (.dK ks) := by
  obtain ⟨h1, ⟨kvs, h2⟩, _⟩ := E.io a h
  obtain ⟨v, h3, b, ks, rfl, h4, h5, h6, _⟩ := E.sl 0 _ h2
  rw [h1] at h3
  cases h3
  exact ⟨h4, ks, h6⟩
/-- what stood at the beginning stands -/
theorem En.still (E : En K F H0 H σ ρ) (h : F.H a ≠ none) : H a ≠ none := E.gr.st a h
theorem Gw.refl (H0 H : Hp) (io : Option Addr) : Gw ⟨H0, H, io, false⟩ H0 H := ⟨Same.refl _, fun _ _ h _ _ => h, fun _ _ h => h, fun _ h => h, fun _ _ h => h, fun _ _ h => .inr ⟨rfl, h⟩⟩
theorem Gr.refl (H0 H : Hp) (io : Option Addr) (F : Fm := ⟨H0, H, io, false⟩) (e : F = ⟨H0, H, io, false⟩ := by rfl) : Gr F H0 H := by
  subst e
  exact ⟨Same.refl _, fun _ _ h _ => h, fun _ _ h => h, fun _ _ => Iff.rfl⟩
theorem Gr.w (g : Gr ⟨H0, H, none, false⟩ H0' H') : Gw ⟨H0, H, none, false⟩ H0' H' := ⟨g.b0, fun a o h _ hi => g.keep a o h hi, g.off, fun a h => by
  have h : H a ≠ none := h
  cases e : H a with
  | none => exact absurd e h
  | some o =>
    rw [g.keep a o e (fun z => nomatch z)]
    exact (fun z => nomatch z), fun a ps h => (g.gg a ps).mpr h, fun a ps h => .inr ⟨rfl, (g.gg a ps).mp h⟩⟩
theorem Gr.tb (g : Gr ⟨H0, H, none, false⟩ H0' H') (t : TbOk K H0 H) : TbOk K H0' H' := tab_away t (fun a o h _ _ => g.keep a o h (fun z => nomatch z)) (fun a h h0 _ _ => g.off a h h0) g.b0
theorem Gw.gg' {io : Option Addr} (g : Gw ⟨H0, H, io, false⟩ H0' H') (a : Addr) (ps : Array Value) : H0' a = some (.tbl ps) ↔ H0 a = some (.tbl ps) := ⟨fun h => by
  rcases g.gs a ps h with ⟨z, _⟩ | ⟨_, z⟩
  · cases z
  · exact z, g.gk a ps⟩
theorem SlR.grow (g : Gw ⟨H0, H, none, false⟩ H0' H') (h : SlR K F H0 H v s) : SlR K F H0' H' v s := by
  cases s with
  | fr d => exact Da.mono g.b0 h
  | ol ds =>
    obtain ⟨a, vs, rfl, h1, h2, h3, h4⟩ := h
    exact ⟨a, vs, rfl, g.off a (by show H a ≠ none; rw [h3]; exact fun z => nomatch z) h1, h2, g.keep a _ h3 (nt_lst _) (fun z => nomatch z), h4.mono g.b0⟩
  | od ds =>
    obtain ⟨a, vs, rfl, h1, h2, h3, h4⟩ := h
    exact ⟨a, vs, rfl, g.off a (by show H a ≠ none; rw [h3]; exact fun z => nomatch z) h1, h2, g.keep a _ h3 (nt_dK _) (fun z => nomatch z), h4.mono g.b0⟩
  | raw w _ => exact h
  | rf k =>
    obtain ⟨a, rfl, h⟩ := h
    exact ⟨a, rfl, g.gk _ _ h⟩
  | sto S => exact StoR.mono g.b0 g.gg' (fun a j u _ h1 h2 => g.keep a u h1 h2 (fun z => nomatch z)) h
  | io ds =>
    obtain ⟨a, vs, rfl, h1, h2, h3, h4⟩ := h
    exact ⟨a, vs, rfl, g.off a (by show H a ≠ none; rw [h3]; exact fun z => nomatch z) h1, h2, g.keep a _ h3 (nt_dK _) (fun z => nomatch z), h4.mono g.b0⟩
/-- something was made, nothing was changed -/
theorem En.growW (E : En K F H0 H σ ρ) (g : Gw ⟨H0, H, none, false⟩ H0' H') (t : TbOk K H0' H') (e : Same H0' H') : En K F H0' H' σ ρ where
  gr := ⟨E.gr.b0.trans g.b0, fun a o h n hi => g.keep a o (E.gr.keep a o h n hi) n (fun z => nomatch z), fun a h h' => g.off a (E.still h) (E.gr.off a h h'), fun a h => g.st a (E.gr.st a h), fun a ps h => g.gk a ps (E.gr.gk a ps h), fun a ps h => E.gr.gs a ps ((g.gg' a ps).mp h)⟩
  tb := t
  ex := e
  len := E.len
  sl := fun i s h => by
    obtain ⟨v, h1, h2⟩ := E.sl i s h
    exact ⟨v, h1, h2.grow g⟩
  sep := E.sep
  io := E.io
  io1 := E.io1
  st1 := E.st1
theorem En.grow (E : En K F H0 H σ ρ) (g : Gr ⟨H0, H, none, false⟩ H0' H') (e : Same H0' H') : En K F H0' H' σ ρ := E.growW g.w (g.tb E.tb) e
theorem base_new (hp : H0 p = none) : Same H0 (upd H0 p o) := Same.of fun a u h => by
  rw [upd_ne (ne_of_none h hp)]
  exact h
theorem gg_new (hp : H0 p = none) (n : NT o) (a : Addr) (ps : Array Value) : upd H0 p o a = some (.tbl ps) ↔ H0 a = some (.tbl ps) := by
  by_cases z : a = p
  · subst z
    rw [upd_same, hp]
    exact ⟨fun z => absurd (Option.some.inj z) (n ps), fun z => nomatch z⟩
  · rw [upd_ne z]
theorem gr_new (hp : H p = none) (e : Same H0 H) (n : NT o := by intro ps z; cases z) : Gr ⟨H0, H, none, false⟩ (upd H0 p o) (upd H p o) where
  b0 := base_new (e.no hp)
  gg := gg_new (e.no hp) n
  keep := fun a u h _ => by
    rw [upd_ne (ne_of_none h hp)]
    exact h
  off := fun a h h0 => by
    have : a ≠ p := fun z => h (z ▸ hp)
    rw [upd_ne this]
    exact h0
theorem same_new (hp : H p = none) (e : Same H0 H) : Same (upd H0 p o) (upd H p o) := fun a u h => by
  by_cases ha : a = p
  · subst ha
    rw [upd_same] at h ⊢
    exact ⟨fun _ => h, fun z => nomatch z⟩
  · rw [upd_ne ha] at h ⊢
    exact e a u h
theorem En.new (E : En K F H0 H σ ρ) (hp : H p = none) (n : NT o := by intro ps z; cases z) : En K F (upd H0 p o) (upd H p o) σ ρ := E.grow (gr_new hp E.ex n) (same_new hp E.ex)
theorem En.newB0 (E : En K F H0 H σ ρ) (hp : H p = none) : Same H0 (upd H0 p o) := base_new (E.ex.no hp)
/-- new, not laid into the base -/
theorem gr_newO (hp : H p = none) : Gr ⟨H0, H, none, false⟩ H0 (upd H p o) where
  b0 := Same.refl _
  keep := fun a u h _ => by
    rw [upd_ne (ne_of_none h hp)]
    exact h
  off := fun a h h0 => h0
  gg := fun _ _ => Iff.rfl
theorem same_newO (hp : H p = none) (e : Same H0 H) : Same H0 (upd H p o) := fun a u h => by
  by_cases z : a = p
  · exact absurd hp (z ▸ (e a u h).2)
  · rw [upd_ne z]
    exact e a u h

/-- the address of a slot's own object -/
def OwnAt (σ : L2.St) (ρ : Rho) (a : Addr) : Prop := ∃ (i : Nat) (s : Sl), ρ[i]? = some (some s) ∧ s.mut = true ∧ σ[i]? = some (some (.ref a))
/-- no ghost -/
def NG (H0 : Hp) (a : Addr) : Prop := ∀ ps, H0 a ≠ some (.tbl ps)
theorem ng_none (h : H0 a = none) : NG H0 a := fun ps z => by rw [h] at z; cases z
theorem ng_some (h : H0 a = some o) (n : NT o := by intro ps z; cases z) : NG H0 a := fun ps z => by rw [h] at z; exact n ps (Option.some.inj z)
theorem ng_mono (b : Same H0 H0') (off : H0 a = none → H0' a = none) (h : NG H0 a) : NG H0' a := by
  cases z : H0 a with
  | none => exact ng_none (off z)
  | some o =>
    have n : NT o := fun ps e => h ps (by rw [z, e])
    exact ng_some (b.hit z n) n
/-- one expression's doing -/
structure Mw (σ : L2.St) (ρ : Rho) (σ' : L2.St) (ρ' : Rho) (H0 H H0' H' : Hp) : Prop where
  b0 : Same H0 H0'
  keep : ∀ a o, H a = some o → NT o → NG H0 a → ¬ OwnAt σ ρ a → H' a = some o
  off : ∀ a, H a ≠ none → H0 a = none → ¬ OwnAt σ ρ a → H0' a = none
  sub : ∀ a, OwnAt σ' ρ' a → OwnAt σ ρ a
  st : ∀ a, H a ≠ none → H' a ≠ none
  gk : ∀ a ps, H0 a = some (.tbl ps) → H0' a = some (.tbl ps)
abbrev Mv (σ : L2.St) (ρ ρ' : Rho) (H0 H H0' H' : Hp) : Prop := Mw σ ρ σ ρ' H0 H H0' H'
theorem Mv.refl : Mv σ ρ ρ H0 H H0 H := ⟨Same.refl _, fun _ _ h _ _ _ => h, fun _ _ h _ => h, fun _ h => h, fun _ h => h, fun _ _ h => h⟩
theorem Mw.fresh {p : Addr} {σ' : L2.St} {ρ' : Rho} (m : Mw σ ρ σ' ρ' H0 H H0' H') (hp : H' p = none) : H p = none := by
  cases e : H p with
  | none => rfl
  | some o => exact absurd hp (m.st p (by rw [e]; exact fun z => nomatch z))
theorem Mw.trans {σ1 σ2 : L2.St} {ρ1 ρ2 : Rho} {B0 B C0 C : Hp} (m : Mw σ ρ σ1 ρ1 H0 H B0 B) (n : Mw σ1 ρ1 σ2 ρ2 B0 B C0 C) : Mw σ ρ σ2 ρ2 H0 H C0 C where
  b0 := m.b0.trans n.b0
  keep := fun a o h t g ho => n.keep a o (m.keep a o h t g ho) t (ng_mono m.b0 (fun h0 => m.off a (by rw [h]; exact fun z => nomatch z) h0 ho) g) fun z => ho (m.sub a z)
  off := fun a h h0 ho => n.off a (m.st a h) (m.off a h h0 ho) fun z => ho (m.sub a z)
  sub := fun a h => m.sub a (n.sub a h)
  st := fun a h => n.st a (m.st a h)
  gk := fun a ps h => n.gk a ps (m.gk a ps h)
theorem Mw.kl {σ' : L2.St} {ρ' : Rho} {xs : List V} (m : Mw σ ρ σ' ρ' H0 H H0' H') (a : Addr) (h : H a = some (.lst xs)) (h0 : H0 a = none) (n : ¬ OwnAt σ ρ a) : H' a = some (.lst xs) := m.keep a _ h (nt_lst xs) (ng_none h0) n
theorem Mw.kd {σ' : L2.St} {ρ' : Rho} {xs : List (Key × V)} (m : Mw σ ρ σ' ρ' H0 H H0' H') (a : Addr) (h : H a = some (.dK xs)) (h0 : H0 a = none) (n : ¬ OwnAt σ ρ a) : H' a = some (.dK xs) := m.keep a _ h (nt_dK xs) (ng_none h0) n
theorem Gw.mv (g : Gw ⟨H0, H, none, false⟩ H0' H') : Mv σ ρ ρ H0 H H0' H' := ⟨g.b0, fun a o h t _ _ => g.keep a o h t (fun z => nomatch z), fun a h h0 _ => g.off a h h0, fun _ h => h, fun a h => g.st a h, g.gk⟩
theorem Gr.mv (g : Gr ⟨H0, H, none, false⟩ H0' H') : Mv σ ρ ρ H0 H H0' H' := g.w.mv
theorem gw_upd {ks : List (Key × V)} {ks' : List (Key × V)} (hH : H a = some (.dK ks)) : Gw ⟨H0, H, some a, false⟩ H0 (upd H a (.dK ks')) := ⟨Same.refl _, fun b o hb _ hn => by
  have nb : b ≠ a := fun z => hn (by rw [z])
  rw [upd_ne nb]
  exact hb, fun _ _ h => h, fun b hb => by
  by_cases z : b = a
  · rw [z, upd_same]
    exact fun z => nomatch z
  · rw [upd_ne z]
    exact hb, fun _ _ h => h, fun _ _ h => .inr ⟨rfl, h⟩⟩
theorem tb_upd {ks : List (Key × V)} (t : TbOk K H0 H) (hH : H a = some (.dK ks)) : TbOk K H0 (upd H a o) := tab_away t (fun b u hb _ n2 => by
  have nb : b ≠ a := fun z => n2 ks (by rw [z, hH] at hb; exact (Option.some.inj hb).symm)
  rw [upd_ne nb]
  exact hb) (fun _ _ h _ _ => h)

/-! ### the judgements -/
structure Gx where
  K : PySem.W.Frag
  mg : Str → Option Value
abbrev gx (X : Cx) : Gx := ⟨X.K, X.mg⟩
abbrev WX := Value → Option Addr → L2.St → Hp → Prop
/-- an exception e: its class, its own dict -/
def XR (g : Gx) (F : Fm) (H0 H : Hp) (e : Xc) (c : Value) (da : Option Addr) : Prop := e.fld ≠ "" ∧ ∃ p v, g.mg e.cls = some c ∧ da = some p ∧ F.H p = none ∧ H p = some (.xd [(e.fld, v)]) ∧ Da g.K H0 v e.val
def XW (g : Gx) (F : Fm) (W : WX) (σ : L2.St) (e : Xc) (ρ' : Rho) : Prop := ∀ c da H0' H', XR g F H0' H' e c da → En g.K F H0' H' σ ρ' → W c da σ H'
def tD (g : Gx) (F : Fm) (W : WX) (f : Rho → R Dt) : TE := fun σ H Q => ∃ H0 ρ, En g.K F H0 H σ ρ ∧ match f ρ with
  | .ok d ρ' => ∀ v H0' H', En g.K F H0' H' σ ρ' → Mv σ ρ ρ' H0 H H0' H' → Da g.K H0' v d → Q v H'
  | .ex e ρ' => XW g F W σ e ρ'
  | .bad => False
def tO (g : Gx) (F : Fm) (W : WX) (f : Rho → R Sl) : TE := fun σ H Q => ∃ H0 ρ, En g.K F H0 H σ ρ ∧ match f ρ with
  | .ok s ρ' => ∀ v H0' H', En g.K F H0' H' σ ρ' → Mv σ ρ ρ' H0 H H0' H' → SlR g.K F H0' H' v s → (s.own = true → ∀ a, v = .ref a → H a = none) → Q v H'
  | .ex e ρ' => XW g F W σ e ρ'
  | .bad => False
def tDT (g : Gx) (F : Fm) (W : WX) (f : Rho → R Bool) : TT := fun σ H Q => ∃ H0 ρ, En g.K F H0 H σ ρ ∧ match f ρ with
  | .ok b ρ' => ∀ H0' H', En g.K F H0' H' σ ρ' → Mv σ ρ ρ' H0 H H0' H' → Q b H'
  | .ex e ρ' => XW g F W σ e ρ'
  | .bad => False
def tDA (g : Gx) (F : Fm) (W : WX) (f : Rho → R (List Dt)) : TA := fun σ H Q => ∃ H0 ρ, En g.K F H0 H σ ρ ∧ match f ρ with
  | .ok ds ρ' => ∀ vs H0' H', En g.K F H0' H' σ ρ' → Mv σ ρ ρ' H0 H H0' H' → DaAll g.K H0' vs ds → Q vs H'
  | .ex e ρ' => XW g F W σ e ρ'
  | .bad => False
def PostS (g : Gx) (F : Fm) (W : WX) (D : Ends) (H0 : Hp) : SR → Prop
  | .nx ρ' => ∀ σ' H0' H', En g.K F H0' H' σ' ρ' → Same H0 H0' → D.nx σ' H'
  | .rt s ρ' => ∀ v σ' H0' H', En g.K F H0' H' σ' ρ' → SlR g.K F H0' H' v s → D.rt v H'
  | .bk ρ' => ∀ σ' H0' H', En g.K F H0' H' σ' ρ' → Same H0 H0' → D.bk σ' H'
  | .ct ρ' => ∀ σ' H0' H', En g.K F H0' H' σ' ρ' → Same H0 H0' → D.ct σ' H'
  | .ex e ρ' => ∀ σ', XW g F W σ' e ρ'
  | .bad => False
def tS (g : Gx) (F : Fm) (W : WX) (f : Rho → SR) : TS := fun D σ H => ∃ H0 ρ, En g.K F H0 H σ ρ ∧ PostS g F W D H0 (f ρ)
theorem PostS.mono {g : Gx} {F : Fm} {W : WX} {D : Ends} {H0 H0' : Hp} {r : SR} (s : Same H0 H0') (h : PostS g F W D H0 r) : PostS g F W D H0' r := by
  cases r with
  | nx ρ' => exact fun σ' C0 C E t => h σ' C0 C E (s.trans t)
  | rt s ρ' => exact h
  | bk ρ' => exact fun σ' C0 C E t => h σ' C0 C E (s.trans t)
  | ct ρ' => exact fun σ' C0 C E t => h σ' C0 C E (s.trans t)
  | ex _ _ => exact h
  | bad => exact h
def DE (X : Cx) (W : WX) (e : Expr) (f : Rho → R Dt) : Prop := ∀ F, PE X e (tD (gx X) F W f)
def DO (X : Cx) (W : WX) (e : Expr) (f : Rho → R Sl) : Prop := ∀ F, PE X e (tO (gx X) F W f)
def DT (X : Cx) (W : WX) (e : Expr) (f : Rho → R Bool) : Prop := ∀ F, PT X e (tDT (gx X) F W f)
def DW' (X : Cx) (W : WX) (e : Expr) (f : Rho → R Bool) : Prop := ∀ F, PW X e (tDT (gx X) F W f)
def DA (X : Cx) (W : WX) (es : List Expr) (f : Rho → R (List Dt)) : Prop := ∀ F, PA X es (tDA (gx X) F W f)
def DS (X : Cx) (W : WX) (st : Stmt) (f : Rho → SR) : Prop := ∀ F, PS X st (tS (gx X) F W f)
def DSs (X : Cx) (W : WX) (st : List Stmt) (f : Rho → SR) : Prop := ∀ F, PSs X st (tS (gx X) F W f)
end

section
variable {X : Cx} {W : WX}
theorem PE.wk {e : Expr} {t u : TE} (h : PE X e t) (k : ∀ σ H Q, u σ H Q → t σ H Q) : PE X e u := ⟨fun pins s σ H Q I q => h.run pins s σ H Q I (k σ H Q q)⟩
theorem PT.wk {e : Expr} {t u : TT} (h : PT X e t) (k : ∀ σ H Q, u σ H Q → t σ H Q) : PT X e u := ⟨fun pins s σ H Q I q => h.run pins s σ H Q I (k σ H Q q)⟩
theorem PW.wk {e : Expr} {t u : TT} (h : PW X e t) (k : ∀ σ H Q, u σ H Q → t σ H Q) : PW X e u := ⟨fun w pins s σ H Q I q => h.run w pins s σ H Q I (k σ H Q q)⟩
theorem PA.wk {e : List Expr} {t u : TA} (h : PA X e t) (k : ∀ σ H Q, u σ H Q → t σ H Q) : PA X e u := ⟨fun p pins s σ H Q I q => h.run p pins s σ H Q I (k σ H Q q)⟩
theorem PS.wk {e : Stmt} {t u : TS} (h : PS X e t) (k : ∀ D σ H, u D σ H → t D σ H) : PS X e u := ⟨fun pins s σ H D I q => h.run pins s σ H D I (k D σ H q)⟩
theorem PSs.wk {e : List Stmt} {t u : TS} (h : PSs X e t) (k : ∀ D σ H, u D σ H → t D σ H) : PSs X e u := ⟨fun pins s σ H D I q => h.run pins s σ H D I (k D σ H q)⟩
end
end DW

set_option Elab.async false
set_option linter.all false
set_option maxRecDepth 100000
set_option maxHeartbeats 4000000
/-! DW2: expressions, tests, arguments, statements over data -/
namespace DW
open PySem L2

section
variable {K : PySem.W.Frag} {F : Fm} {H0 H H0' H' : Hp} {σ : L2.St} {ρ : Rho} {v : V} {d : Dt} {s : Sl} {i : Nat} {a p : Addr} {o : HO}
theorem set_get {α : Type} {l : List α} {i j : Nat} {x y : α} (h : (l.set i x)[j]? = some y) : (j = i ∧ y = x) ∨ (j ≠ i ∧ l[j]? = some y) := by
  by_cases e : i = j
  · subst e
    have hl : i < (l.set i x).length := by
      cases q : (l.set i x)[i]? with
      | none => rw [q] at h; cases h
      | some z => exact (List.getElem?_eq_some_iff.mp q).1
    rw [List.length_set] at hl
    rw [List.getElem?_set_self hl] at h
    exact .inl ⟨rfl, (Option.some.inj h).symm⟩
  · rw [List.getElem?_set_ne e] at h
    exact .inr ⟨Ne.symm e, h⟩
theorem lt_of_get {α : Type} {l : List α} {i : Nat} {x : α} (h : l[i]? = some x) : i < l.length := (List.getElem?_eq_some_iff.mp h).1

def noIo (ρ : Rho) : Bool := match (ρ[0]? : Option (Option Sl)) with
  | some (some (.io _)) => false
  | _ => true
def putR (i : Nat) (s : Sl) (ρ : Rho) : Option Rho := if i = 0 ∧ noIo ρ = false then none else some (ρ.set i (some s))
/-- a slot is stored -/
theorem En.put (E : En K F H0 H σ ρ) (hs : SlR K F H0 H v s) (hio : ∀ kvs, s ≠ .io kvs) (hsep : s.own = true → ∀ a, v = .ref a → ¬ OwnAt σ ρ a) {ρ' : Rho} (h : putR i s ρ = some ρ') (hst : ∀ S, s ≠ .sto S := by intro S z; cases z) : En K F H0 H (σ.set i (some v)) ρ' := by
  unfold putR at h
  split at h
  · cases h
  · rename_i hn
    cases h
    refine ⟨E.gr, E.tb, E.ex, by rw [List.length_set, List.length_set, E.len], fun j t e => ?_, fun j k t u b hjk e1 e2 o1 o2 h1 h2 => ?_, fun b hb => ?_, fun j kvs e => ?_, fun j S e => ?_⟩
    · rcases set_get e with ⟨rfl, e2⟩ | ⟨hne, e2⟩
      · cases e2
        have hl : j < σ.length := by
          rw [E.len]
          have := lt_of_get e
          rw [List.length_set] at this
          exact this
        exact ⟨v, List.getElem?_set_self hl, hs⟩
      · obtain ⟨w, h1, h2⟩ := E.sl j t e2
        exact ⟨w, by rw [List.getElem?_set_ne (Ne.symm hne)]; exact h1, h2⟩
    · rcases set_get e1 with ⟨rfl, z1⟩ | ⟨n1, z1⟩
      · cases z1
        rcases set_get e2 with ⟨rfl, z2⟩ | ⟨n2, z2⟩
        · exact hjk rfl
        · rcases set_get h1 with ⟨_, y1⟩ | ⟨n, _⟩
          · cases y1
            rcases set_get h2 with ⟨e, _⟩ | ⟨_, y2⟩
            · exact n2 e
            · exact hsep o1 b rfl ⟨k, u, z2, Sl.mut_of_own o2, y2⟩
          · exact n rfl
      · rcases set_get e2 with ⟨rfl, z2⟩ | ⟨n2, z2⟩
        · cases z2
          rcases set_get h2 with ⟨_, y2⟩ | ⟨n, _⟩
          · cases y2
            rcases set_get h1 with ⟨e, _⟩ | ⟨_, y1⟩
            · exact n1 e
            · exact hsep o2 b rfl ⟨j, t, z1, Sl.mut_of_own o1, y1⟩
          · exact n rfl
        · rcases set_get h1 with ⟨e, _⟩ | ⟨_, y1⟩
          · exact n1 e
          · rcases set_get h2 with ⟨e, _⟩ | ⟨_, y2⟩
            · exact n2 e
            · exact E.sep j k t u b hjk z1 z2 o1 o2 y1 y2
    · obtain ⟨h1, ⟨kvs, h2⟩, h3⟩ := E.io b hb
      have hi : i ≠ 0 := fun z => hn ⟨z, by unfold noIo; rw [h2]⟩
      exact ⟨by rw [List.getElem?_set_ne hi]; exact h1, ⟨kvs, by rw [List.getElem?_set_ne hi]; exact h2⟩, h3⟩
    · rcases set_get e with ⟨rfl, e2⟩ | ⟨hne, e2⟩
      · exact absurd (Option.some.inj e2).symm (hio kvs)
      · exact E.io1 j kvs e2
    · rw [List.length_set]
      rcases set_get e with ⟨rfl, e2⟩ | ⟨hne, e2⟩
      · exact absurd (Option.some.inj e2).symm (hst S)
      · exact E.st1 j S e2
theorem En.putFr (E : En K F H0 H σ ρ) (hs : Da K H0 v d) {ρ' : Rho} (h : putR i (.fr d) ρ = some ρ') : En K F H0 H (σ.set i (some v)) ρ' := E.put (s := .fr d) hs (fun _ z => nomatch z) (fun z => nomatch z) h

/-- a list of one's own is changed -/
theorem En.mutL (E : En K F H0 H σ ρ) {ds ds' : List Dt} {vs' : List V} (hi : ρ[i]? = some (some (.ol ds))) (hv : σ[i]? = some (some (.ref a))) (hd : DaAll K H0 vs' ds') :
    En K F H0 (upd H a (.lst vs')) σ (ρ.set i (some (.ol ds'))) := by
  obtain ⟨v, h1, b, vs, rfl, h3, h4, h5, h6⟩ := E.sl i _ hi
  rw [hv] at h1
  cases h1
  have hli : i < ρ.length := lt_of_get hi
  have h0i : F.io ≠ some a := fun z => (E.io a z).2.2 h4
  have kp : ∀ b o, H b = some o → b ≠ a → upd H a (.lst vs') b = some o := fun b o hb n => by
    rw [upd_ne n]
    exact hb
  refine ⟨⟨E.gr.b0, fun b o hb nt hi => ?_, E.gr.off, fun b hb => ?_, E.gr.gk, E.gr.gs⟩, tab_away E.tb (fun b o hb n1 _ => kp b o hb fun z => n1 vs (by rw [z, h5] at hb; exact (Option.some.inj hb).symm)) (fun b _ h0 _ _ => h0), fun b u hb => ?_, by rw [List.length_set]; exact E.len, fun j t e => ?_, fun j k t u b hjk e1 e2 o1 o2 y1 y2 => ?_, fun b hb => ?_, fun j kvs e => ?_, fun j S e => ?_⟩
  · have : b ≠ a := fun z => by
      rw [z, h4] at hb
      cases hb
    rw [upd_ne this]
    exact E.gr.keep b o hb nt hi
  · by_cases z : b = a
    · rw [z, upd_same]
      exact fun z => nomatch z
    · rw [upd_ne z]
      exact E.gr.st b hb
  · have : b ≠ a := fun z => by
      rw [z, h3] at hb
      cases hb
    rw [upd_ne this]
    exact E.ex b u hb
  · rcases set_get e with ⟨rfl, z⟩ | ⟨hne, z⟩
    · cases z
      exact ⟨_, hv, a, vs', rfl, h3, h4, upd_same, hd⟩
    · obtain ⟨w, y1, y2⟩ := E.sl j t z
      refine ⟨w, y1, ?_⟩
      cases t with
      | fr d => exact y2
      | ol es =>
        obtain ⟨c, us, rfl, q1, q2, q3, q4⟩ := y2
        have : c ≠ a := fun z' => E.sep j i _ _ a hne z hi rfl rfl (z' ▸ y1) hv
        exact ⟨c, us, rfl, q1, q2, by rw [upd_ne this]; exact q3, q4⟩
      | od es =>
        obtain ⟨c, us, rfl, q1, q2, q3, q4⟩ := y2
        have : c ≠ a := fun z' => E.sep j i _ _ a hne z hi rfl rfl (z' ▸ y1) hv
        exact ⟨c, us, rfl, q1, q2, by rw [upd_ne this]; exact q3, q4⟩
      | raw w _ => exact y2
      | rf k => exact y2
      | sto S => exact StoR.mono (Same.refl _) (fun _ _ => Iff.rfl) (fun c j u h1 h2 _ => kp c u h2 fun z => by rw [z, h3] at h1; cases h1) y2
      | io es =>
        obtain ⟨c, us, rfl, q1, q2, q3, q4⟩ := y2
        have : c ≠ a := fun z' => h0i (z' ▸ q2)
        exact ⟨c, us, rfl, q1, q2, by rw [upd_ne this]; exact q3, q4⟩
  · have own : ∀ (j : Nat) (t : Sl), (ρ.set i (some (.ol ds')))[j]? = some (some t) → t.own = true → ∃ t', ρ[j]? = some (some t') ∧ t'.own = true := fun j t e o => by
      rcases set_get e with ⟨rfl, z⟩ | ⟨_, z⟩
      · exact ⟨_, hi, rfl⟩
      · exact ⟨t, z, o⟩
    obtain ⟨t', q1, q2⟩ := own j t e1 o1
    obtain ⟨u', q3, q4⟩ := own k u e2 o2
    exact E.sep j k t' u' b hjk q1 q3 q2 q4 y1 y2
  · obtain ⟨y1, ⟨kvs, y2⟩, y3⟩ := E.io b hb
    have hi0 : i ≠ 0 := fun z => by
      subst z
      rw [hi] at y2
      cases y2
    exact ⟨y1, ⟨kvs, by rw [List.getElem?_set_ne hi0]; exact y2⟩, y3⟩
  · rcases set_get e with ⟨rfl, e2⟩ | ⟨hne, e2⟩
    · cases e2
    · exact E.io1 j kvs e2
  · rw [List.length_set]
    rcases set_get e with ⟨rfl, e2⟩ | ⟨hne, e2⟩
    · cases e2
    · exact E.st1 j S e2
/-- a dict of one's own, or the one that was handed in, is changed (by the base's growth, too) -/
theorem En.mutD (E : En K F H0 H σ ρ) {s s' : Sl} {ks' : List (Key × V)} {kvs' : List (Key × Dt)} (hi : ρ[i]? = some (some s)) (hv : σ[i]? = some (some (.ref a)))
    (hk : (∃ kvs, s = .od kvs ∧ s' = .od kvs') ∨ (∃ kvs, s = .io kvs ∧ s' = .io kvs'))
    (g : Gw ⟨H0, H, some a, false⟩ H0' H') (tt : TbOk K H0' H') (e : Same H0' H') (ha : H' a = some (.dK ks')) (hd : DaKv K H0' ks' kvs') :
    En K F H0' H' σ (ρ.set i (some s')) := by
  obtain ⟨v, h1, hsl⟩ := E.sl i _ hi
  rw [hv] at h1
  cases h1
  have hli : i < ρ.length := lt_of_get hi
  have hmut : s.mut = true := by rcases hk with ⟨_, rfl, _⟩ | ⟨_, rfl, _⟩ <;> rfl
  have hA : H0 a = none ∧ (∃ ks, H a = some (.dK ks)) ∧ ((F.H a = none ∧ s.own = true) ∨ F.io = some a) := by
    rcases hk with ⟨_, rfl, _⟩ | ⟨_, rfl, _⟩
    · obtain ⟨b, ks, e', q1, q2, q3, q4⟩ := hsl
      cases e'
      exact ⟨q1, ⟨ks, q3⟩, .inl ⟨q2, rfl⟩⟩
    · obtain ⟨b, ks, e', q1, q2, q3, q4⟩ := hsl
      cases e'
      exact ⟨q1, ⟨ks, q3⟩, .inr q2⟩
  obtain ⟨h3, ⟨ks, h5⟩, h4⟩ := hA
  have h3' : H0' a = none := g.off a (by show H a ≠ none; rw [h5]; exact fun z => nomatch z) h3
  have keep : ∀ b o, b ≠ a → NT o → H b = some o → H' b = some o := fun b o hb n q => g.keep b o q n fun z => hb (Option.some.inj z).symm
  have own : ∀ (j : Nat) (t : Sl), (ρ.set i (some s'))[j]? = some (some t) → t.own = true → ∃ t', ρ[j]? = some (some t') ∧ t'.own = true := fun j t e o => by
    rcases set_get e with ⟨rfl, z⟩ | ⟨_, z⟩
    · cases z
      refine ⟨_, hi, ?_⟩
      rcases hk with ⟨_, rfl, _⟩ | ⟨_, _, rfl⟩
      · rfl
      · cases o
    · exact ⟨t, z, o⟩
  refine ⟨⟨E.gr.b0.trans g.b0, fun b o hb nt hio => ?_, fun b hb h0 => ?_, fun b hb => g.st b (E.gr.st b hb), fun b ps h => g.gk b ps (E.gr.gk b ps h), fun b ps h => E.gr.gs b ps ((g.gg' b ps).mp h)⟩, tt, e, by rw [List.length_set]; exact E.len, fun j t e1 => ?_, fun j k t u b hjk e1 e2 o1 o2 y1 y2 => ?_, fun b hb => ?_, fun j kvs e1 => ?_, fun j S e1 => ?_⟩
  · have : b ≠ a := fun z => by
      subst z
      rcases h4 with ⟨q, _⟩ | q
      · rw [q] at hb
        cases hb
      · exact hio q
    exact keep b o this nt (E.gr.keep b o hb nt hio)
  · exact g.off b (E.still hb) (E.gr.off b hb h0)
  · rcases set_get e1 with ⟨rfl, z⟩ | ⟨hne, z⟩
    · cases z
      refine ⟨_, hv, ?_⟩
      rcases hk with ⟨_, rfl, rfl⟩ | ⟨_, rfl, rfl⟩
      · rcases h4 with ⟨q, _⟩ | q
        · exact ⟨a, ks', rfl, h3', q, ha, hd⟩
        · obtain ⟨b, ks, e', q1, q2, q3, q4⟩ := hsl
          cases e'
          exact ⟨a, ks', rfl, h3', q2, ha, hd⟩
      · obtain ⟨b, ks, e', q1, q2, q3, q4⟩ := hsl
        cases e'
        exact ⟨a, ks', rfl, h3', q2, ha, hd⟩
    · obtain ⟨w, y1, y2⟩ := E.sl j t z
      refine ⟨w, y1, ?_⟩
      have away : ∀ c, w = .ref c → t.mut = true → F.H c = none ∨ F.io = some c → t.own = true ∨ (∃ k, t = .io k) → c ≠ a := fun c ec tm hc ht z' => by
        subst ec z'
        rcases h4 with ⟨q, so⟩ | q
        · rcases ht with ht | ⟨k, rfl⟩
          · exact E.sep j i _ _ c hne z hi ht so y1 hv
          · obtain ⟨c', us, e', q1, q2, _⟩ := y2
            cases e'
            exact (E.io c q2).2.2 q
        · obtain ⟨x1, ⟨kv, x2⟩, x3⟩ := E.io c q
          rcases ht with ht | ⟨k, rfl⟩
          · have : F.H c = none := by
              cases t with
              | fr d => cases ht
              | ol es => obtain ⟨c', us, e', q1, q2, _⟩ := y2; cases e'; exact q2
              | od es => obtain ⟨c', us, e', q1, q2, _⟩ := y2; cases e'; exact q2
              | raw w _ => cases ht
              | rf _ => cases ht
              | sto _ => cases ht
              | io es => cases ht
            exact x3 this
          · -- both io: the same slot
            have hj0 : s.own = false ∨ s.own = true := by cases s.own <;> simp
            rcases hk with ⟨_, rfl, rfl⟩ | ⟨_, rfl, rfl⟩
            · obtain ⟨b, ks, e', q1, q2, q3, q4⟩ := hsl
              cases e'
              exact x3 q2
            · exact hne ((E.io1 j k z).trans (E.io1 i _ hi).symm)
      cases t with
      | fr d => exact Da.mono g.b0 y2
      | ol es =>
        obtain ⟨c, us, rfl, q1, q2, q3, q4⟩ := y2
        exact ⟨c, us, rfl, g.off c (by show H c ≠ none; rw [q3]; exact fun z => nomatch z) q1, q2, keep c _ (away c rfl rfl (.inl q2) (.inl rfl)) (nt_lst _) q3, q4.mono g.b0⟩
      | od es =>
        obtain ⟨c, us, rfl, q1, q2, q3, q4⟩ := y2
        exact ⟨c, us, rfl, g.off c (by show H c ≠ none; rw [q3]; exact fun z => nomatch z) q1, q2, keep c _ (away c rfl rfl (.inl q2) (.inl rfl)) (nt_dK _) q3, q4.mono g.b0⟩
      | raw w _ => exact y2
      | rf k =>
        obtain ⟨c, rfl, q⟩ := y2
        exact ⟨c, rfl, g.gk _ _ q⟩
      | sto S => exact StoR.mono g.b0 g.gg' (fun c j u h1 h2 n => keep c u (fun z => by have h1 : H0 c = some (gh j) := h1; rw [z, h3] at h1; cases h1) n h2) y2
      | io es =>
        obtain ⟨c, us, rfl, q1, q2, q3, q4⟩ := y2
        exact ⟨c, us, rfl, g.off c (by show H c ≠ none; rw [q3]; exact fun z => nomatch z) q1, q2, keep c _ (away c rfl rfl (.inr q2) (.inr ⟨_, rfl⟩)) (nt_dK _) q3, q4.mono g.b0⟩
  · obtain ⟨t', q1, q2⟩ := own j t e1 o1
    obtain ⟨u', q3, q4⟩ := own k u e2 o2
    exact E.sep j k t' u' b hjk q1 q3 q2 q4 y1 y2
  · obtain ⟨y1, ⟨kvs, y2⟩, y3⟩ := E.io b hb
    by_cases hi0 : i = 0
    · subst hi0
      rw [hi] at y2
      cases y2
      rcases hk with ⟨_, q, _⟩ | ⟨_, _, rfl⟩
      · cases q
      · exact ⟨y1, ⟨kvs', List.getElem?_set_self hli⟩, y3⟩
    · exact ⟨y1, ⟨kvs, by rw [List.getElem?_set_ne hi0]; exact y2⟩, y3⟩
  · rcases set_get e1 with ⟨rfl, e2⟩ | ⟨hne, e2⟩
    · cases e2
      rcases hk with ⟨_, rfl, q⟩ | ⟨_, rfl, q⟩
      · cases q
      · exact E.io1 _ _ hi
    · exact E.io1 j kvs e2
  · rw [List.length_set]
    rcases set_get e1 with ⟨rfl, e2⟩ | ⟨hne, e2⟩
    · cases e2
      rcases hk with ⟨_, _, q⟩ | ⟨_, _, q⟩ <;> cases q
    · exact E.st1 j S e2
end
end DW

set_option Elab.async false
set_option linter.all false
set_option maxRecDepth 100000
set_option maxHeartbeats 4000000
/-! DW3: expressions over data -/
namespace DW
open PySem L2

/-! ### data as the library's data -/
mutual
def toPy : Dt → PyData
  | .non => .none
  | .bl b => .bool b
  | .int i => .int i
  | .str x => .str x
  | .lst xs => .list (toPyAll xs)
  | .tup xs => .tuple (toPyAll xs)
  | .dct kvs => .dict (toPyKv kvs)
  | .scr ns => .list (ns.map PyData.int)
  | .xo _ _ _ => .none
  | .fn _ => .none
def toPyAll : List Dt → List PyData
  | [] => []
  | d :: ds => toPy d :: toPyAll ds
def toPyKv : List (Key × Dt) → List (PyData × PyData)
  | [] => []
  | (k, d) :: ds => ((match k with | .inl i => .int i | .inr x => .str x), toPy d) :: toPyKv ds
end
theorem toPyAll_map : ∀ ds : List Dt, toPyAll ds = ds.map toPy
  | [] => by simp [toPyAll]
  | d :: ds => by simp [toPyAll, toPyAll_map ds]
mutual
/-- no dict within -/
def plainD : Dt → Bool
  | .lst xs => plainAll xs
  | .tup xs => plainAll xs
  | .dct _ => false
  | .non => true
  | .bl _ => true
  | .int _ => true
  | .str _ => true
  | .scr _ => true
  | .xo _ _ _ => false
  | .fn _ => false
def plainAll : List Dt → Bool
  | [] => true
  | d :: ds => plainD d && plainAll ds
end
theorem dpInts {K : PySem.W.Frag} {H : Hp} : ∀ ns : List Int, DpAll K H (ns.map V.int) (ns.map PyData.int)
  | [] => .nil
  | n :: ns => .cons (.int n) (dpInts ns)
mutual
theorem Da.dp {K : PySem.W.Frag} {H : Hp} : ∀ {v : V} {d : Dt}, Da K H v d → plainD d = true → Dp K H v (toPy d)
  | _, _, .non, _ => .non
  | _, _, .bl b, _ => .bl b
  | _, _, .int i, _ => .int i
  | _, _, .str x, _ => .str x
  | _, _, .lst h1 h2, p => .lst (SqL.of h1) (DaAll.dp h2 (by simpa [plainD] using p))
  | _, _, .tup h1 h2, p => .tup h1 (DaAll.dp h2 (by simpa [plainD] using p))
  | _, _, .dct _ _, p => by simp [plainD] at p
  | _, _, .scr h, _ => .lst h (dpInts _)
  | _, _, .xo _ _ _ _, p => by simp [plainD] at p
  | _, _, .xb _ _, p => by simp [plainD] at p
  | _, _, .fn _ _ _, p => by simp [plainD] at p
theorem DaAll.dp {K : PySem.W.Frag} {H : Hp} : ∀ {v : List V} {d : List Dt}, DaAll K H v d → plainAll d = true → DpAll K H v (toPyAll d)
  | _, _, .nil, _ => .nil
  | _, _, .cons h1 h2, p => by
    simp only [plainAll, Bool.and_eq_true] at p
    exact .cons (Da.dp h1 p.1) (DaAll.dp h2 p.2)
end
def shp (d : Dt) : Bool := plainD d && SeqAt.shaped (toPy d)
def eqt (d e : Dt) : Bool := PyData.eqv (toPy d) (toPy e)

section
variable {K : PySem.W.Frag} {F : Fm} {H0 H H0' H' : Hp} {σ : L2.St} {ρ : Rho} {v : V} {d : Dt} {s : Sl} {i : Nat} {a p : Addr} {o : HO}
/-! ### freezing a slot -/
theorem En.frz (E : En K F H0 H σ ρ) {o : HO} {dd : Dt} (hi : ρ[i]? = some (some s)) (hs : s.own = true) (hv : σ[i]? = some (some (.ref a))) (h0 : H0 a = none) (hF : F.H a = none) (hH : H a = some o) (nt : NT o)
    (hd : Da K (upd H0 a o) (.ref a) dd) : En K F (upd H0 a o) H σ (ρ.set i (some (.fr dd))) ∧ Mv σ ρ (ρ.set i (some (.fr dd))) H0 H (upd H0 a o) H := by
  have sm : Same H0 (upd H0 a o) := Same.of fun b u hb => by
    rw [upd_ne (ne_of_none hb h0)]
    exact hb
  have owner : ∀ (j : Nat) (t : Sl), (ρ.set i (some (.fr dd)))[j]? = some (some t) → t.mut = true → j ≠ i ∧ ρ[j]? = some (some t) := fun j t e m => by
    rcases set_get e with ⟨rfl, z⟩ | ⟨hne, z⟩
    · cases z
      cases m
    · exact ⟨hne, z⟩
  have na : ∀ p ∈ tT K, p.1 ≠ a := fun p hp z => by
    obtain ⟨_, ps, h2, _⟩ := E.tb p hp
    rw [z, hH] at h2
    exact nt ps (Option.some.inj h2)
  refine ⟨⟨⟨E.gr.b0.trans sm, E.gr.keep, fun b hb h => ?_, E.gr.st, fun b ps h => ((gg_new h0 nt b ps).mpr (E.gr.gk b ps h)), fun b ps h => E.gr.gs b ps ((gg_new h0 nt b ps).mp h)⟩, fun p hp => ⟨⟨by rw [upd_ne (na p hp)]; exact (E.tb p hp).1.1, tbf_b (E.tb p hp).1.2 sm⟩, (E.tb p hp).2⟩, fun b u hb => ?_, by rw [List.length_set]; exact E.len, fun j t e => ?_, fun j k t u b hjk e1 e2 o1 o2 y1 y2 => ?_, fun b hb => ?_, fun j kvs e => ?_, fun j S e => ?_⟩, ⟨sm, fun b u hb _ _ _ => hb, fun b hb h hn => ?_, fun b ⟨j, t, e, m, y⟩ => ?_, fun _ h => h, fun b ps h => (gg_new h0 nt b ps).mpr h⟩⟩
  · have : b ≠ a := fun z => hb (z ▸ hF)
    rw [upd_ne this]
    exact E.gr.off b hb h
  · by_cases hba : b = a
    · subst hba
      rw [upd_same] at hb
      cases hb
      exact ⟨fun _ => hH, by rw [hH]; exact fun z => nomatch z⟩
    · rw [upd_ne hba] at hb
      exact E.ex b u hb
  · rcases set_get e with ⟨rfl, z⟩ | ⟨hne, z⟩
    · cases z
      exact ⟨_, hv, hd⟩
    · obtain ⟨w, y1, y2⟩ := E.sl j t z
      refine ⟨w, y1, ?_⟩
      cases t with
      | fr d => exact Da.mono sm y2
      | ol es =>
        obtain ⟨c, us, rfl, q1, q2, q3, q4⟩ := y2
        have : c ≠ a := fun z' => E.sep j i _ _ a hne z hi rfl hs (z' ▸ y1) hv
        exact ⟨c, us, rfl, by rw [upd_ne this]; exact q1, q2, q3, q4.mono sm⟩
      | od es =>
        obtain ⟨c, us, rfl, q1, q2, q3, q4⟩ := y2
        have : c ≠ a := fun z' => E.sep j i _ _ a hne z hi rfl hs (z' ▸ y1) hv
        exact ⟨c, us, rfl, by rw [upd_ne this]; exact q1, q2, q3, q4.mono sm⟩
      | raw w _ => exact y2
      | rf k =>
        obtain ⟨c, rfl, q⟩ := y2
        exact ⟨c, rfl, (gg_new h0 nt _ _).mpr q⟩
      | sto S => exact StoR.mono sm (gg_new h0 nt) (fun _ _ _ _ h _ => h) y2
      | io es =>
        obtain ⟨c, us, rfl, q1, q2, q3, q4⟩ := y2
        have : c ≠ a := fun z' => (E.io c q2).2.2 (z' ▸ hF)
        exact ⟨c, us, rfl, by rw [upd_ne this]; exact q1, q2, q3, q4.mono sm⟩
  · obtain ⟨_, q1⟩ := owner j t e1 (Sl.mut_of_own o1)
    obtain ⟨_, q2⟩ := owner k u e2 (Sl.mut_of_own o2)
    exact E.sep j k t u b hjk q1 q2 o1 o2 y1 y2
  · obtain ⟨y1, ⟨kvs, y2⟩, y3⟩ := E.io b hb
    have hi0 : i ≠ 0 := fun z => by
      subst z
      rw [hi] at y2
      cases y2
      cases hs
    exact ⟨y1, ⟨kvs, by rw [List.getElem?_set_ne hi0]; exact y2⟩, y3⟩
  · rcases set_get e with ⟨rfl, e2⟩ | ⟨hne, e2⟩
    · cases e2
    · exact E.io1 j kvs e2
  · rw [List.length_set]
    rcases set_get e with ⟨rfl, e2⟩ | ⟨hne, e2⟩
    · cases e2
    · exact E.st1 j S e2
  · have : b ≠ a := fun z => hn ⟨i, s, hi, Sl.mut_of_own hs, z ▸ hv⟩
    rw [upd_ne this]
    exact h
  · exact ⟨j, t, (owner j t e m).2, m, y⟩
end

/-! ### expressions -/
def cst (d : Dt) : Rho → R Dt := fun ρ => .ok d ρ
def var (i : Nat) : Rho → R Dt := fun ρ => match (ρ[i]? : Option (Option Sl)) with
  | some (some (.fr d)) => .ok d ρ
  | some (some (.ol xs)) => .ok (.lst xs) (ρ.set i (some (.fr (.lst xs))))
  | some (some (.od kvs)) => .ok (.dct kvs) (ρ.set i (some (.fr (.dct kvs))))
  | _ => .bad
def bin (g : Dt → Dt → Option Dt) (f1 f2 : Rho → R Dt) : Rho → R Dt := fun ρ => (f1 ρ).bind fun d ρ1 => (f2 ρ1).bind fun e ρ2 => match g d e with
  | some z => .ok z ρ2
  | none => .bad
def un (g : Dt → Option Dt) (f1 : Rho → R Dt) : Rho → R Dt := fun ρ => (f1 ρ).bind fun d ρ1 => match g d with
  | some z => .ok z ρ1
  | none => .bad
/-- the store -/
def stoOf (ρ : Rho) : Option Sto := match (ρ.getLast? : Option (Option Sl)) with
  | some (some (.sto S)) => some S
  | _ => none
/-- a list in the store -/
def lstAt (S : Option Sto) (k : Nat) : Option Dt := match S with
  | some S => match (S[k]? : Option Ob) with
    | some (.lst xs) => some (.lst xs)
    | _ => none
  | none => none
/-- a name's own object, read where it stands -/
def pk (i : Nat) (ρ : Rho) : Option Dt := match (ρ[i]? : Option (Option Sl)) with
  | some (some (.fr d)) => some d
  | some (some (.ol xs)) => some (.lst xs)
  | some (some (.od kvs)) => some (.dct kvs)
  | some (some (.io kvs)) => some (.dct kvs)
  | some (some (.rf k)) => lstAt (stoOf ρ) k
  | _ => none
def pkF (i : Nat) : Rho → R Dt := fun ρ => match pk i ρ with
  | some d => .ok d ρ
  | none => .bad
/-- the name stands first, its object is read when all is there -/
def binP (g : Dt → Dt → Option Dt) (i : Nat) (f2 : Rho → R Dt) : Rho → R Dt := fun ρ => match pk i ρ with
  | none => .bad
  | some _ => (f2 ρ).bind fun e ρ2 => match pk i ρ2 with
    | some d => match g d e with
      | some z => .ok z ρ2
      | none => .bad
    | none => .bad
/-- what is read of a container -/
def Pk (K : PySem.W.Frag) (H0 H : Hp) (v : V) : Dt → Prop
  | .lst ds => ∃ a vs, v = .ref a ∧ H a = some (.lst vs) ∧ DaAll K H0 vs ds
  | .dct kvs => ∃ a ks, v = .ref a ∧ H a = some (.dK ks) ∧ DaKv K H0 ks kvs
  | d => Da K H0 v d
def tK (g : Gx) (F : Fm) (W : WX) (f : Rho → R Dt) : TE := fun σ H Q => ∃ H0 ρ, En g.K F H0 H σ ρ ∧ match f ρ with
  | .ok d ρ' => ∀ v H0' H', En g.K F H0' H' σ ρ' → Mv σ ρ ρ' H0 H H0' H' → Pk g.K H0' H' v d → Q v H'
  | .ex e ρ' => XW g F W σ e ρ'
  | .bad => False
def DK (X : Cx) (W : WX) (e : Expr) (f : Rho → R Dt) : Prop := ∀ F, PE X e (tK (gx X) F W f)
/-- of the data of two things, the base's data of a new one -/
def OpD (K : PySem.W.Frag) (r : R2) (g : Dt → Dt → Option Dt) : Prop := ∀ x y d e z H0 H, Same H0 H → Pk K H0 H x d → Pk K H0 H y e → g d e = some z → ∀ Q : VK, (∀ v H0' H', Gr ⟨H0, H, none, false⟩ H0' H' → Same H0' H' → Da K H0' v z → Q v H') → r x y H Q
def UnD (K : PySem.W.Frag) (r : V → Hp → VK → Prop) (g : Dt → Option Dt) : Prop := ∀ x d z H0 H, Same H0 H → Pk K H0 H x d → g d = some z → ∀ Q : VK, (∀ v H0' H', Gr ⟨H0, H, none, false⟩ H0' H' → Same H0' H' → Da K H0' v z → Q v H') → r x H Q

section
variable {K : PySem.W.Frag} {F : Fm} {H0 H H0' H' : Hp} {σ : L2.St} {ρ : Rho} {v : V} {d : Dt} {s : Sl} {i : Nat} {a p : Addr} {o : HO} {g : Gx} {W : WX}
theorem Da.pk (e : Same H0 H) (h : Da K H0 v d) : Pk K H0 H v d := by
  cases d with
  | lst ds =>
    cases h with
    | lst h1 h2 => exact ⟨_, _, rfl, e.hit h1, h2⟩
  | dct ds =>
    cases h with
    | dct h1 h2 => exact ⟨_, _, rfl, e.hit h1, h2⟩
  | _ => exact h
theorem Pk.up (e : Same H0 H) (h : Pk K H0 H v d) : Da K H v d := by
  cases d with
  | lst ds =>
    obtain ⟨a, vs, rfl, h1, h2⟩ := h
    exact .lst h1 (h2.mono e)
  | dct ds =>
    obtain ⟨a, vs, rfl, h1, h2⟩ := h
    exact .dct h1 (h2.mono e)
  | non => exact Da.mono e h
  | bl _ => exact Da.mono e h
  | int _ => exact Da.mono e h
  | str _ => exact Da.mono e h
  | tup _ => exact Da.mono e h
  | scr _ => exact Da.mono e h
  | xo _ _ _ => exact Da.mono e h
  | fn _ => exact Da.mono e h
theorem stoOf_at (E : En K F H0 H σ ρ) {S : Sto} (h : stoOf ρ = some S) : ρ[ρ.length - 1]? = some (some (.sto S)) ∧ StoR K H0 H S := by
  unfold stoOf at h
  split at h
  · rename_i e
    cases h
    rw [List.getLast?_eq_getElem?] at e
    obtain ⟨_, _, h2⟩ := E.sl _ _ e
    exact ⟨e, h2⟩
  · cases h
theorem pk_at (E : En K F H0 H σ ρ) (h : pk i ρ = some d) : ∃ v, σ[i]? = some (some v) ∧ Pk K H0 H v d := by
  unfold pk at h
  split at h
  · rename_i e
    cases h
    obtain ⟨v, h1, h2⟩ := E.sl i _ e
    exact ⟨v, h1, Da.pk E.ex h2⟩
  · rename_i e
    cases h
    obtain ⟨v, h1, a, vs, rfl, h2, h3, h4, h5⟩ := E.sl i _ e
    exact ⟨_, h1, a, vs, rfl, h4, h5⟩
  · rename_i e
    cases h
    obtain ⟨v, h1, a, vs, rfl, h2, h3, h4, h5⟩ := E.sl i _ e
    exact ⟨_, h1, a, vs, rfl, h4, h5⟩
  · rename_i e
    cases h
    obtain ⟨v, h1, a, vs, rfl, h2, h3, h4, h5⟩ := E.sl i _ e
    exact ⟨_, h1, a, vs, rfl, h4, h5⟩
  · rename_i k e
    unfold lstAt at h
    split at h
    · rename_i S hS
      split at h
      · rename_i xs hk
        cases h
        obtain ⟨v, h1, a, rfl, h2⟩ := E.sl i _ e
        obtain ⟨_, R⟩ := stoOf_at E hS
        obtain ⟨a', g1, vs, g2, g3⟩ := R.at_ k _ hk
        obtain rfl := R.un a a' k h2 g1
        exact ⟨_, h1, a, vs, rfl, g2, g3⟩
      · cases h
    · cases h
  · cases h
theorem tD_var (h : tD g F W (var i) σ H Q) : tVar i σ H Q := by
  obtain ⟨H0, ρ, E, q⟩ := h
  unfold var at q
  split at q
  · rename_i d ρ' e0
    split at e0
    · rename_i e
      cases e0
      obtain ⟨v, h1, h2⟩ := E.sl i _ e
      exact ⟨v, h1, q v H0 H E Mv.refl h2⟩
    · rename_i e
      cases e0
      obtain ⟨v, h1, a, vs, rfl, h2, h3, h4, h5⟩ := E.sl i _ e
      have sm : Same H0 (upd H0 a (.lst vs)) := Same.of fun b u hb => by
        rw [upd_ne (ne_of_none hb h2)]
        exact hb
      have hd : Da g.K (upd H0 a (.lst vs)) (.ref a) (.lst _) := .lst upd_same (h5.mono sm)
      obtain ⟨q1, q2⟩ := E.frz e rfl h1 h2 h3 h4 (nt_lst _) hd
      exact ⟨_, h1, q _ _ _ q1 q2 hd⟩
    · rename_i e
      cases e0
      obtain ⟨v, h1, a, vs, rfl, h2, h3, h4, h5⟩ := E.sl i _ e
      have sm : Same H0 (upd H0 a (.dK vs)) := Same.of fun b u hb => by
        rw [upd_ne (ne_of_none hb h2)]
        exact hb
      have hd : Da g.K (upd H0 a (.dK vs)) (.ref a) (.dct _) := .dct upd_same (h5.mono sm)
      obtain ⟨q1, q2⟩ := E.frz e rfl h1 h2 h3 h4 (nt_dK _) hd
      exact ⟨_, h1, q _ _ _ q1 q2 hd⟩
    · cases e0
  · rename_i e0
    split at e0 <;> cases e0
  · exact q.elim
theorem tK_pk (h : tK g F W (pkF i) σ H Q) : tVar i σ H Q := by
  obtain ⟨H0, ρ, E, q⟩ := h
  unfold pkF at q
  cases e : pk i ρ with
  | none =>
    rw [e] at q
    exact q.elim
  | some d =>
    rw [e] at q
    obtain ⟨v, h1, h2⟩ := pk_at E e
    exact ⟨v, h1, q v H0 H E Mv.refl h2⟩
/-- what came behind a Gr -/
theorem En.post {ρ1 : Rho} {B0 B : Hp} (E : En K F H0 H σ ρ1) (m : Mv σ ρ ρ1 B0 B H0 H) (g : Gr ⟨H0, H, none, false⟩ H0' H') (e : Same H0' H') : En K F H0' H' σ ρ1 ∧ Mv σ ρ ρ1 B0 B H0' H' := ⟨E.grow g e, m.trans g.mv⟩
theorem En.postW {ρ1 : Rho} {B0 B : Hp} (E : En K F H0 H σ ρ1) (m : Mv σ ρ ρ1 B0 B H0 H) (g : Gw ⟨H0, H, none, false⟩ H0' H') (t : TbOk K H0' H') (e : Same H0' H') : En K F H0' H' σ ρ1 ∧ Mv σ ρ ρ1 B0 B H0' H' := ⟨E.growW g t e, m.trans g.mv⟩
theorem tK_of (h : tK g F W f σ H Q) : tD g F W f σ H Q := by
  obtain ⟨H0, ρ, E, q⟩ := h
  refine ⟨H0, ρ, E, ?_⟩
  cases e : f ρ with
  | ok d ρ' =>
    rw [e] at q
    exact fun v H0' H' E' m hd => q v H0' H' E' m (Da.pk E'.ex hd)
  | ex x ρ' =>
    rw [e] at q
    exact q
  | bad =>
    rw [e] at q
    exact q
theorem tOp_bin {r : R2} {gg : Dt → Dt → Option Dt} {f1 f2 : Rho → R Dt} (hr : OpD g.K r gg) {σ : L2.St} {H : Hp} {Q : VK} (h : tD g F W (bin gg f1 f2) σ H Q) : tOp r (tD g F W f1) (tK g F W f2) σ H Q := by
  obtain ⟨H0, ρ, E, q⟩ := h
  unfold bin at q
  refine ⟨H0, ρ, E, ?_⟩
  cases e1 : f1 ρ with
  | ok d ρ1 =>
    rw [e1] at q
    intro x H1 B1 E1 m1 d1
    refine ⟨H1, ρ1, E1, ?_⟩
    dsimp only [R.bind] at q
    cases e2 : f2 ρ1 with
    | ok e ρ2 =>
      rw [e2] at q
      intro y H2 B2 E2 m2 d2
      dsimp only [R.bind] at q
      cases e3 : gg d e with
      | some z =>
        rw [e3] at q
        refine hr x y d e z H2 B2 E2.ex (Da.pk E2.ex (d1.mono m2.b0)) d2 e3 Q fun v H3 B3 g3 s3 d3 => ?_
        obtain ⟨q1, q2⟩ := E2.post (m1.trans m2) g3 s3
        exact q v H3 B3 q1 q2 d3
      | none =>
        rw [e3] at q
        exact q.elim
    | ex x ρ' =>
      rw [e2] at q
      exact q
    | bad =>
      rw [e2] at q
      exact q
  | ex x ρ' =>
    rw [e1] at q
    exact q
  | bad =>
    rw [e1] at q
    exact q
theorem tOp_binP {r : R2} {gg : Dt → Dt → Option Dt} {f2 : Rho → R Dt} (hr : OpD g.K r gg) {σ : L2.St} {H : Hp} {Q : VK} (h : tD g F W (binP gg i f2) σ H Q) : tOp r (tVar i) (tK g F W f2) σ H Q := by
  obtain ⟨H0, ρ, E, q⟩ := h
  unfold binP at q
  cases e1 : pk i ρ with
  | none =>
    rw [e1] at q
    exact q.elim
  | some d0 =>
    rw [e1] at q
    obtain ⟨x, hx, _⟩ := pk_at E e1
    refine ⟨x, hx, H0, ρ, E, ?_⟩
    dsimp only [R.bind] at q
    cases e2 : f2 ρ with
    | ok e ρ2 =>
      rw [e2] at q
      intro y H2 B2 E2 m2 d2
      dsimp only [R.bind] at q
      cases e3 : pk i ρ2 with
      | none =>
        rw [e3] at q
        exact q.elim
      | some d =>
        rw [e3] at q
        dsimp only at q
        obtain ⟨x', hx', px⟩ := pk_at E2 e3
        rw [hx] at hx'
        cases hx'
        cases e4 : gg d e with
        | some z =>
          rw [e4] at q
          refine hr x y d e z H2 B2 E2.ex px d2 e4 Q fun v H3 B3 g3 s3 d3 => ?_
          obtain ⟨q1, q2⟩ := E2.post m2 g3 s3
          exact q v H3 B3 q1 q2 d3
        | none =>
          rw [e4] at q
          exact q.elim
    | ex x ρ' =>
      rw [e2] at q
      exact q
    | bad =>
      rw [e2] at q
      exact q
theorem tUn_un {r : V → Hp → VK → Prop} {gg : Dt → Option Dt} {f1 : Rho → R Dt} (hr : UnD g.K r gg) {σ : L2.St} {H : Hp} {Q : VK} (h : tD g F W (un gg f1) σ H Q) : tUn r (tK g F W f1) σ H Q := by
  obtain ⟨H0, ρ, E, q⟩ := h
  unfold un at q
  refine ⟨H0, ρ, E, ?_⟩
  cases e1 : f1 ρ with
  | ok d ρ1 =>
    rw [e1] at q
    intro x H1 B1 E1 m1 d1
    dsimp only [R.bind] at q
    cases e3 : gg d with
    | some z =>
      rw [e3] at q
      refine hr x d z H1 B1 E1.ex d1 e3 Q fun v H3 B3 g3 s3 d3 => ?_
      obtain ⟨q1, q2⟩ := E1.post m1 g3 s3
      exact q v H3 B3 q1 q2 d3
    | none =>
      rw [e3] at q
      exact q.elim
  | ex x ρ' =>
    rw [e1] at q
    exact q
  | bad =>
    rw [e1] at q
    exact q
end
end DW

set_option Elab.async false
set_option linter.all false
set_option maxRecDepth 100000
set_option maxHeartbeats 4000000
/-! DW4: operators over data -/
namespace DW
open PySem L2

section
variable {K : PySem.W.Frag} {F : Fm} {H0 H H0' H' : Hp} {v : V} {d : Dt} {Q : VK}
theorem al_lst {zs : List V} {ds : List Dt} (e : Same H0 H) (hd : DaAll K H0 zs ds) (k : ∀ v H0' H', Gr ⟨H0, H, none, false⟩ H0' H' → Same H0' H' → Da K H0' v (.lst ds) → Q v H') : ∀ p, H p = none → Q (.ref p) (upd H p (.lst zs)) :=
  fun p hp => k _ _ _ (gr_new hp e) (same_new hp e) (.lst upd_same (hd.mono (gr_new (o := .lst zs) hp e).b0))
theorem al_tup {zs : List V} {ds : List Dt} (e : Same H0 H) (hd : DaAll K H0 zs ds) (k : ∀ v H0' H', Gr ⟨H0, H, none, false⟩ H0' H' → Same H0' H' → Da K H0' v (.tup ds) → Q v H') : ∀ p, H p = none → Q (.ref p) (upd H p (.tup zs)) :=
  fun p hp => k _ _ _ (gr_new hp e) (same_new hp e) (.tup (SqT.of upd_same) (hd.mono (gr_new (o := .tup zs) hp e).b0))
theorem sc (e : Same H0 H) (hd : Da K H0 v d) (k : ∀ v H0' H', Gr ⟨H0, H, none, false⟩ H0' H' → Same H0' H' → Da K H0' v d → Q v H') : Q v H := k v H0 H (Gr.refl H0 H none) e hd
end

section
variable {X : Cx}
theorem opr_or {f : Value → Value → Sem Value} {r r' : R2} (h : OpR X f r) (h' : OpR X f r') : OpR X f (fun x y H Q => r x y H Q ∨ r' x y H Q) := by
  intro pins s σ H x y v u Q I rx ry q
  rcases q with q | q
  · exact h pins s σ H x y v u Q I rx ry q
  · exact h' pins s σ H x y v u Q I rx ry q
theorem callr_or {f : Value} {r r' : List V → Hp → VK → Prop} (h : CallR X f r) (h' : CallR X f r') : CallR X f (fun x H Q => r x H Q ∨ r' x H Q) := by
  intro pins s σ H x v Q I rx q
  rcases q with q | q
  · exact h pins s σ H x v Q I rx q
  · exact h' pins s σ H x v Q I rx q

/-! ### + -/
def addD : Dt → Dt → Option Dt
  | .int a, .int b => some (.int (a + b))
  | .str a, .str b => if a.length + b.length ≤ 1000000 then some (.str (a ++ b)) else none
  | .lst a, .lst b => if a.length + b.length ≤ 1000000 then some (.lst (a ++ b)) else none
  | .tup a, .tup b => if a.length + b.length ≤ 1000000 then some (.tup (a ++ b)) else none
  | _, _ => none
def rAddA (K : PySem.W.Frag) : R2 := fun x y H Q => rI0 (fun i j => .int (i + j)) x y H Q ∨ (∃ i j, x = .str i ∧ y = .str j ∧ i.length + j.length ≤ sizeLine ∧ Q (.str (i ++ j)) H) ∨ rCat x y H Q ∨ rCatA K x y H Q
theorem opr_add : OpR X (binaryOp .Add) (rAddA X.K) := opr_or op_add (opr_or op_add_str (opr_or op_cat op_catA))
theorem sizeM {n : Nat} (h : n ≤ 1000000) : n ≤ sizeLine := Nat.le_trans h (by decide)
theorem opd_add (K : PySem.W.Frag) : OpD K (rAddA K) addD := by
  intro x y d e z H0 H s hx hy hg Q k
  unfold addD at hg
  split at hg
  · cases hg
    cases hx
    cases hy
    exact .inl ⟨_, _, rfl, rfl, sc s (.int _) k⟩
  · split at hg
    · rename_i hl
      cases hg
      cases hx
      cases hy
      exact .inr (.inl ⟨_, _, rfl, rfl, sizeM hl, sc s (.str _) k⟩)
    · cases hg
  · split at hg
    · rename_i hl
      cases hg
      obtain ⟨a, vs, rfl, h1, h2⟩ := hx
      obtain ⟨b, ws, rfl, h3, h4⟩ := hy
      exact .inr (.inr (.inl ⟨a, b, vs, ws, rfl, rfl, h1, h3, by rw [h2.length, h4.length]; exact sizeM hl, al_lst s (h2.append h4) k⟩))
    · cases hg
  · split at hg
    · rename_i hl
      cases hg
      cases hx with
      | tup h1 h2 =>
        cases hy with
        | tup h3 h4 =>
          refine .inr (.inr (.inr ⟨_, _, _, _, rfl, rfl, seqT_mono s h1, seqT_mono s h3, by rw [h2.length, h4.length]; exact sizeM hl, fun z => ?_, fun z z' => ?_, fun _ _ => al_tup s (h2.append h4) k⟩))
          · subst z
            cases h2
            exact sc s (.tup h3 h4) k
          · subst z'
            cases h4
            rw [List.append_nil] at k
            exact sc s (.tup h1 h2) k
    · cases hg
  · cases hg

/-! ### -, *, //, %, ** -/
def subD : Dt → Dt → Option Dt
  | .int a, .int b => some (.int (a - b))
  | _, _ => none
theorem opd_sub (K : PySem.W.Frag) : OpD K (rI0 fun i j => .int (i - j)) subD := by
  intro x y d e z H0 H s hx hy hg Q k
  unfold subD at hg
  split at hg
  · cases hg
    cases hx
    cases hy
    exact ⟨_, _, rfl, rfl, sc s (.int _) k⟩
  · cases hg
def mulOk (a b : Int) : Bool := decide (a.natAbs < 2 ^ 64) || decide (b.natAbs < 2 ^ 64) || decide (a.natAbs.log2 + b.natAbs.log2 < 1000000)
/-- a tuple once, or none of nothing: the very one -/
theorem tuple_mul1 (l : Addr) (items : Array Value) (n : Nat) (sl : Array (Option Value)) (dd : Option Addr) (x : Int) (u : Tok) (c0 : (decide (x < -(2 ^ 63)) || decide (x ≥ 2 ^ 63)) = false) (c1 : (items.isEmpty || x == 1) = true) :
    Meets (Builtin.«tuple.__mul__» ⟨[.ref l, .int x u], []⟩) (fun _ R s => s.heap.get? l = some { cls := .type "tuple", dict := dd, data := .seq items n, slots := sl } ∧ R (.ok (.ret (Value.ref l))) s) :=
  .of_wp fun prog w A R s h => by
    obtain ⟨hp, g, d, tk, os⟩ := s
    obtain ⟨hl, h⟩ := h
    have f1 := AutoSeq1.idx_int
    wp_walk using wpAny_loadPart' hl
    repeat (first
      | (refine wpAny_ite_false (decide_eq_false (by rw [c0]; exact Bool.false_ne_true)) ?_; wp_walk using wpAny_loadPart' hl)
      | (refine wpAny_ite_true (decide_eq_true c1) ?_; wp_walk using wpAny_loadPart' hl))
    exact ⟨_, rfl, h⟩
def rRepT1 (K : PySem.W.Frag) : R2 := fun x y H Q => ∃ l k xs, x = .ref l ∧ y = .int k ∧ SqT K H l xs ∧ (xs = [] ∨ k = 1) ∧ -1000000 ≤ k ∧ k ≤ 1000000 ∧ Q (.ref l) H
theorem op_repT1 : OpR X (binaryOp .Mult) (rRepT1 X.K) := by
  intro pins s σ H x y v u Q I rx ry h
  obtain ⟨l, k, xs, rfl, rfl, hT, h1, h2, h3, q⟩ := h
  cases rx
  obtain ⟨t, rfl⟩ := ry
  obtain ⟨its, r, ⟨⟨cls, dd, data, sl⟩, ho, hc, n, hd⟩, hs⟩ := I.tuple hT
  simp only at hc hd
  subst hc hd
  have c0 : (decide (k < -(2 ^ 63)) || decide (k ≥ 2 ^ 63)) = false := by
    rw [decide_eq_false (by omega), decide_eq_false (by omega)] <;> rfl
  have c1 : (its.toArray.isEmpty || k == 1) = true := by
    rcases h1 with h1 | h1
    · subst h1
      cases r
      rfl
    · subst h1
      simp
  refine wpAny_binaryOp_repeat_ref (T := "tuple") (U := "int") (by decide) ⟨_, ho, rfl⟩ (fun s' => typeIs_int s' k t) noFill_tuple_mul F.fills_int_mul F.slot_int_rmul repeat_tuple F.slot_int_index.lookup
    (call_meets F.slot_int_rmul (typeIs_int s k t) F.entry_int_rmul (F.args_int_rmul_2 _ _) (int_rmul_tuple k t l its.toArray n dd sl)
      ⟨ho, rfl, ⟨_, ho, rfl⟩, call_meets F.slot_tuple_mul ⟨_, ho, rfl⟩ F.entry_tuple_mul (F.args_tuple_mul_2 _ _) (tuple_mul1 l its.toArray n sl dd k t c0 c1) ⟨ho, ?_⟩⟩)
  exact ⟨.ref l, H, I, rfl, q⟩
def mulD : Dt → Dt → Option Dt
  | .int a, .int b => if mulOk a b = true then some (.int (a * b)) else none
  | .lst xs, .int k => if 0 ≤ k ∧ k ≤ 1000 ∧ xs.length ≤ 1000 then some (.lst (List.replicate k.toNat xs).flatten) else none
  | .tup xs, .int k => if 2 ≤ k ∧ k ≤ 1000 ∧ xs.length ≤ 1000 ∧ xs ≠ [] then some (.tup (List.replicate k.toNat xs).flatten) else if k = 1 then some (.tup xs) else none
  | _, _ => none
def rMulA (K : PySem.W.Frag) : R2 := fun x y H Q => rI CMul (fun i j => .int (i * j)) x y H Q ∨ rI CMulW (fun i j => .int (i * j)) x y H Q ∨ rRep x y H Q ∨ rRepT K x y H Q ∨ rRepT1 K x y H Q
theorem opr_mul : OpR X (binaryOp .Mult) (rMulA X.K) := opr_or op_mul (opr_or op_mulW (opr_or op_rep (opr_or op_repT op_repT1)))
theorem DaAll.rep {K : PySem.W.Frag} {H : Hp} {vs : List V} {ds : List Dt} (h : DaAll K H vs ds) : ∀ n : Nat, DaAll K H (List.replicate n vs).flatten (List.replicate n ds).flatten
  | 0 => .nil
  | n + 1 => by
    rw [List.replicate_succ, List.replicate_succ, List.flatten_cons, List.flatten_cons]
    exact h.append (h.rep n)
theorem opd_mul (K : PySem.W.Frag) : OpD K (rMulA K) mulD := by
  intro x y d e z H0 H s hx hy hg Q k
  unfold mulD at hg
  split at hg
  · split at hg
    · rename_i a b hm
      cases hg
      cases hx
      cases hy
      unfold mulOk at hm
      rw [Bool.or_eq_true, Bool.or_eq_true] at hm
      rcases hm with (hm | hm) | hm
      · have := of_decide_eq_true hm
        exact .inl ⟨_, _, rfl, rfl, .inl (by omega), sc s (.int _) k⟩
      · have := of_decide_eq_true hm
        exact .inl ⟨_, _, rfl, rfl, .inr (by omega), sc s (.int _) k⟩
      · have hm' : CMulW a b := of_decide_eq_true (p := a.natAbs.log2 + b.natAbs.log2 < 1000000) hm
        exact .inr (.inl ⟨_, _, rfl, rfl, hm', sc s (.int _) k⟩)
    · cases hg
  · split at hg
    · rename_i xs n hm
      cases hg
      obtain ⟨a, vs, rfl, h1, h2⟩ := hx
      cases hy
      refine .inr (.inr (.inl ⟨a, n, vs, rfl, rfl, h1, by omega, by omega, ?_, al_lst s (h2.rep _) k⟩))
      rw [h2.length]
      exact Nat.le_trans (Nat.mul_le_mul hm.2.2 (show n.toNat ≤ 1000 by omega)) (by decide)
    · cases hg
  · split at hg
    · rename_i xs n hm
      cases hg
      cases hx with
      | tup h1 h2 =>
        cases hy
        refine .inr (.inr (.inr (.inl ⟨_, n, _, rfl, rfl, seqT_mono s h1, fun z => ?_, hm.1, hm.2.1, by rw [h2.length]; exact hm.2.2.1, al_tup s (h2.rep _) k⟩)))
        subst z
        cases h2
        exact hm.2.2.2 rfl
    · split at hg
      · rename_i h1
        cases hg
        subst h1
        cases hx with
        | tup h1 h2 =>
          cases hy
          exact .inr (.inr (.inr (.inr ⟨_, 1, _, rfl, rfl, seqT_mono s h1, .inr rfl, by decide, by decide, sc s (.tup h1 h2) k⟩)))
      · cases hg
  · cases hg
def fdivD : Dt → Dt → Option Dt
  | .int a, .int b => if 0 < b ∧ b.natAbs.log2 < 9000 then some (.int (a / b)) else none
  | _, _ => none
theorem opd_fdiv (K : PySem.W.Frag) : OpD K (rI CDivW fun i j => .int (i / j)) fdivD := by
  intro x y d e z H0 H s hx hy hg Q k
  unfold fdivD at hg
  split at hg
  · split at hg
    · rename_i hm
      cases hg
      cases hx
      cases hy
      exact ⟨_, _, rfl, rfl, hm, sc s (.int _) k⟩
    · cases hg
  · cases hg
def modD : Dt → Dt → Option Dt
  | .int a, .int b => if 0 < b then some (.int (a % b)) else none
  | _, _ => none
theorem opd_mod (K : PySem.W.Frag) : OpD K (rI (fun _ j => 0 < j) fun i j => .int (i % j)) modD := by
  intro x y d e z H0 H s hx hy hg Q k
  unfold modD at hg
  split at hg
  · split at hg
    · rename_i hm
      cases hg
      cases hx
      cases hy
      exact ⟨_, _, rfl, rfl, hm, sc s (.int _) k⟩
    · cases hg
  · cases hg
def powD : Dt → Dt → Option Dt
  | .int a, .int b => if 0 ≤ b ∧ b ≤ 1000000 ∧ a.natAbs < 2 ^ 64 then some (.int (a ^ b.toNat)) else none
  | _, _ => none
theorem opd_pow (K : PySem.W.Frag) : OpD K (rI CPow fun i j => .int (i ^ j.toNat)) powD := by
  intro x y d e z H0 H s hx hy hg Q k
  unfold powD at hg
  split at hg
  · split at hg
    · rename_i hm
      cases hg
      cases hx
      cases hy
      exact ⟨_, _, rfl, rfl, hm, sc s (.int _) k⟩
    · cases hg
  · cases hg

/-! ### comparisons -/
def cmpD (p : Int → Int → Bool) : Dt → Dt → Option Dt
  | .int a, .int b => some (.bl (p a b))
  | _, _ => none
theorem opd_cmp (K : PySem.W.Frag) (p : Int → Int → Bool) : OpD K (rI0 fun i j => .bl (p i j)) (cmpD p) := by
  intro x y d e z H0 H s hx hy hg Q k
  unfold cmpD at hg
  split at hg
  · cases hg
    cases hx
    cases hy
    exact ⟨_, _, rfl, rfl, sc s (.bl _) k⟩
  · cases hg
abbrev ltD := cmpD fun i j => decide (i < j)
abbrev leD := cmpD fun i j => decide (i ≤ j)
abbrev gtD := cmpD fun i j => decide (j < i)
abbrev geD := cmpD fun i j => decide (j ≤ i)
def flatD : Dt → Bool
  | .non => true
  | .bl _ => true
  | .int _ => true
  | .str _ => true
  | _ => false
def toV : Dt → V
  | .non => .non
  | .bl b => .bl b
  | .int i => .int i
  | .str x => .str x
  | _ => .non
theorem Da.flat {K : PySem.W.Frag} {H : Hp} {v : V} {d : Dt} (h : Da K H v d) (f : flatD d = true) : v = toV d ∧ flatV v = true := by
  cases h <;> first | exact ⟨rfl, rfl⟩ | cases f
theorem Pk.flat {K : PySem.W.Frag} {H0 H : Hp} {v : V} {d : Dt} (h : Pk K H0 H v d) (f : flatD d = true) : v = toV d ∧ flatV v = true := by
  cases d <;> first | exact Da.flat h f | cases f
theorem DaAll.flat {K : PySem.W.Frag} {H : Hp} : ∀ {vs : List V} {ds : List Dt}, DaAll K H vs ds → ds.all flatD = true → vs = ds.map toV ∧ vs.all flatV = true
  | _, _, .nil, _ => ⟨rfl, rfl⟩
  | _, _, .cons h1 h2, f => by
    rw [List.all_cons, Bool.and_eq_true] at f
    obtain ⟨e1, e2⟩ := h1.flat f.1
    obtain ⟨e3, e4⟩ := h2.flat f.2
    refine ⟨by rw [e1, e3]; rfl, ?_⟩
    rw [List.all_cons, e2, e4]
    rfl
def eqD (d e : Dt) : Option Dt := match d, e with
  | .int a, .int b => some (.bl (decide (a = b)))
  | .str a, .str b => some (.bl (decide (a = b)))
  | d, e => if shp d = true ∧ shp e = true then some (.bl (eqt d e)) else none
def neD (d e : Dt) : Option Dt := match d, e with
  | .int a, .int b => some (.bl (!decide (a = b)))
  | .str a, .str b => some (.bl (!decide (a = b)))
  | d, e => if shp d = true ∧ shp e = true then some (.bl (!eqt d e)) else none
def rEqA (K : PySem.W.Frag) : R2 := fun x y H Q => rEq x y H Q ∨ rEqD K x y H Q
def rNeA (K : PySem.W.Frag) : R2 := fun x y H Q => rNe x y H Q ∨ rNeD K x y H Q
theorem opr_eq (hu : X.A.units + 64 < cLine) : OpR X (compareOp .Eq) (rEqA X.K) := opr_or op_eq (op_eqD hu)
theorem opr_ne (hu : X.A.units + 64 < cLine) : OpR X (compareOp .NotEq) (rNeA X.K) := opr_or op_ne (op_neD hu)
theorem shp_plain {d : Dt} (h : shp d = true) : plainD d = true ∧ SeqAt.shaped (toPy d) = true := Bool.and_eq_true_iff.mp h
theorem dec_V_int {a b : Int} : decide (V.int a = V.int b) = decide (a = b) := by
  by_cases h : a = b
  · subst h
    simp
  · rw [decide_eq_false h, decide_eq_false (fun z => h (V.int.inj z))]
theorem dec_V_str {a b : Str} : decide (V.str a = V.str b) = decide (a = b) := by
  by_cases h : a = b
  · subst h
    simp
  · rw [decide_eq_false h, decide_eq_false (fun z => h (V.str.inj z))]
theorem opd_eq (K : PySem.W.Frag) : OpD K (rEqA K) eqD := by
  intro x y d e z H0 H s hx hy hg Q k
  unfold eqD at hg
  split at hg
  · cases hg
    cases hx
    cases hy
    refine .inl ⟨rfl, ?_⟩
    rw [dec_V_int]
    exact sc s (.bl _) k
  · cases hg
    cases hx
    cases hy
    refine .inl ⟨rfl, ?_⟩
    rw [dec_V_str]
    exact sc s (.bl _) k
  · split at hg
    · rename_i hm
      cases hg
      obtain ⟨p1, s1⟩ := shp_plain hm.1
      obtain ⟨p2, s2⟩ := shp_plain hm.2
      exact .inr ⟨_, _, (Pk.up s hx).dp p1, (Pk.up s hy).dp p2, s1, s2, sc s (.bl _) k⟩
    · cases hg
theorem opd_ne (K : PySem.W.Frag) : OpD K (rNeA K) neD := by
  intro x y d e z H0 H s hx hy hg Q k
  unfold neD at hg
  split at hg
  · cases hg
    cases hx
    cases hy
    refine .inl ⟨rfl, ?_⟩
    rw [dec_V_int]
    exact sc s (.bl _) k
  · cases hg
    cases hx
    cases hy
    refine .inl ⟨rfl, ?_⟩
    rw [dec_V_str]
    exact sc s (.bl _) k
  · split at hg
    · rename_i hm
      cases hg
      obtain ⟨p1, s1⟩ := shp_plain hm.1
      obtain ⟨p2, s2⟩ := shp_plain hm.2
      exact .inr ⟨_, _, (Pk.up s hx).dp p1, (Pk.up s hy).dp p2, s1, s2, sc s (.bl _) k⟩
    · cases hg

/-! ### dicts: what stands at a key -/
def keyD : Dt → Option Key
  | .int i => some (.inl i)
  | .str x => some (.inr x)
  | _ => none
def getK (kvs : List (Key × Dt)) (k : Key) : Option Dt := (kvs.find? fun kv => decide (kv.1 = k)).map (·.2)
def putKD (kvs : List (Key × Dt)) (k : Key) (d : Dt) : List (Key × Dt) := if (kvs.any fun kv => decide (kv.1 = k)) = true then kvs.map fun kv => if kv.1 = k then (kv.1, d) else kv else kvs ++ [(k, d)]
theorem keyD_V {K : PySem.W.Frag} {H0 H : Hp} {v : V} {d : Dt} {k : Key} (h : Pk K H0 H v d) (e : keyD d = some k) : v = kV k := by
  cases d with
  | int i => cases h; cases e; rfl
  | str x => cases h; cases e; rfl
  | _ => cases e
theorem DaKv.get {K : PySem.W.Frag} {H : Hp} (k : Key) : ∀ {ks : List (Key × V)} {kvs : List (Key × Dt)}, DaKv K H ks kvs → (∀ d, getK kvs k = some d → ∃ v, valV ks k = some v ∧ Da K H v d) ∧ (getK kvs k = none → valV ks k = none)
  | _, _, .nil => ⟨fun d h => by simp [getK] at h, fun _ => rfl⟩
  | _, _, .cons (k := k') h1 h2 => by
    obtain ⟨q1, q2⟩ := h2.get k
    by_cases e : k' = k
    · subst e
      refine ⟨fun d h => ?_, fun h => ?_⟩
      · simp [getK] at h
        subst h
        exact ⟨_, by simp [valV], h1⟩
      · simp [getK] at h
    · refine ⟨fun d h => ?_, fun h => ?_⟩
      · obtain ⟨v, h3, h4⟩ := q1 d (by simpa [getK, List.find?_cons, e] using h)
        exact ⟨v, by rw [valV_neg (by exact e)]; exact h3, h4⟩
      · rw [valV_neg (by exact e)]
        exact q2 (by simpa [getK, List.find?_cons, e] using h)
theorem DaKv.length {K : PySem.W.Frag} {H : Hp} : ∀ {ks : List (Key × V)} {kvs : List (Key × Dt)}, DaKv K H ks kvs → ks.length = kvs.length
  | _, _, .nil => rfl
  | _, _, .cons _ h => congrArg (· + 1) h.length
theorem DaKv.anyK {K : PySem.W.Frag} {H : Hp} (k : Key) : ∀ {ks : List (Key × V)} {kvs : List (Key × Dt)}, DaKv K H ks kvs → (ks.any fun kv => decide (kv.1 = k)) = (kvs.any fun kv => decide (kv.1 = k))
  | _, _, .nil => rfl
  | _, _, .cons _ h => by rw [List.any_cons, List.any_cons, h.anyK k]
theorem DaKv.append {K : PySem.W.Frag} {H : Hp} : ∀ {ks ls : List (Key × V)} {kvs lvs : List (Key × Dt)}, DaKv K H ks kvs → DaKv K H ls lvs → DaKv K H (ks ++ ls) (kvs ++ lvs)
  | _, _, _, _, .nil, h => h
  | _, _, _, _, .cons h1 h2, h => .cons h1 (h2.append h)
theorem DaKv.map {K : PySem.W.Frag} {H : Hp} {k : Key} {v : V} {d : Dt} (hd : Da K H v d) : ∀ {ks : List (Key × V)} {kvs : List (Key × Dt)}, DaKv K H ks kvs →
    DaKv K H (ks.map fun kv => if kv.1 = k then (kv.1, v) else kv) (kvs.map fun kv => if kv.1 = k then (kv.1, d) else kv)
  | _, _, .nil => .nil
  | _, _, .cons (k := k') h1 h2 => by
    rw [List.map_cons, List.map_cons]
    by_cases e : k' = k
    · rw [if_pos (by exact e), if_pos (by exact e)]
      exact .cons hd (h2.map hd)
    · rw [if_neg (by exact e), if_neg (by exact e)]
      exact .cons h1 (h2.map hd)
theorem DaKv.put {K : PySem.W.Frag} {H : Hp} {ks : List (Key × V)} {kvs : List (Key × Dt)} {k : Key} {v : V} {d : Dt} (h : DaKv K H ks kvs) (hd : Da K H v d) : DaKv K H (putK ks k v) (putKD kvs k d) := by
  unfold putK putKD
  rw [h.anyK k]
  split
  · exact h.map hd
  · exact h.append (.cons hd .nil)

/-! ### in -/
def inStr (i j : Str) : Bool := !(Builtin.Str.occurrences j i 0 j.length 1).isEmpty
def inB : Dt → Dt → Option Bool
  | d, .lst xs => if flatD d = true ∧ xs.all flatD = true then some (inV (toV d) (xs.map toV)) else none
  | d, .tup xs => if flatD d = true ∧ xs.all flatD = true then some (inV (toV d) (xs.map toV)) else none
  | .int k, .dct kvs => some (getK kvs (.inl k)).isSome
  | .str k, .dct kvs => some (getK kvs (.inr k)).isSome
  | .str i, .str j => some (inStr i j)
  | _, _ => none
def inD (d e : Dt) : Option Dt := (inB d e).map fun b => .bl b
def ninD (d e : Dt) : Option Dt := (inB d e).map fun b => .bl (!b)
def rInA (K : PySem.W.Frag) : R2 := fun x y H Q => rIn K false x y H Q ∨ (∃ a o, y = .ref a ∧ DGet H a x o ∧ Q (.bl o.isSome) H) ∨ ∃ i j, x = .str i ∧ y = .str j ∧ Q (.bl (!(Builtin.Str.occurrences j i 0 j.length 1).isEmpty)) H
def rNinA (K : PySem.W.Frag) : R2 := fun x y H Q => rIn K true x y H Q ∨ (∃ a o, y = .ref a ∧ DGet H a x o ∧ Q (.bl (!o.isSome)) H) ∨ ∃ i j, x = .str i ∧ y = .str j ∧ Q (.bl (!(!(Builtin.Str.occurrences j i 0 j.length 1).isEmpty))) H
theorem opr_in (hu : X.A.units + 1 < cLine) : OpR X (compareOp .In) (rInA X.K) := opr_or op_in_seq (opr_or (by
  intro pins s σ H x y v u Q I rx ry h
  obtain ⟨a, o, rfl, g, q⟩ := h
  cases ry
  exact d_in hu I g rx fun s' I' => ⟨.bl _, H, I', rfl, q⟩) op_in_str)
theorem opr_nin (hu : X.A.units + 1 < cLine) : OpR X (compareOp .NotIn) (rNinA X.K) := opr_or op_notIn_seq (opr_or (by
  intro pins s σ H x y v u Q I rx ry h
  obtain ⟨a, o, rfl, g, q⟩ := h
  cases ry
  exact d_notIn hu I g rx fun s' I' => ⟨.bl _, H, I', rfl, q⟩) op_notIn_str)
theorem inB_key {K : PySem.W.Frag} {H0 H : Hp} {y : V} {kvs : List (Key × Dt)} {k : Key} (hy : Pk K H0 H y (.dct kvs)) : ∃ a o, y = .ref a ∧ DGet H a (kV k) o ∧ o.isSome = (getK kvs k).isSome := by
  obtain ⟨a, ks, rfl, h1, h2⟩ := hy
  refine ⟨a, _, rfl, DGet.k h1, ?_⟩
  obtain ⟨q1, q2⟩ := h2.get k
  cases e : getK kvs k with
  | none => rw [q2 e]; rfl
  | some d =>
    obtain ⟨v, h3, _⟩ := q1 d e
    rw [h3]
    rfl
theorem opd_in (K : PySem.W.Frag) : OpD K (rInA K) inD := by
  intro x y d e z H0 H s hx hy hg Q k
  obtain ⟨b, hb, rfl⟩ := Option.map_eq_some_iff.mp hg
  have q : Q (.bl b) H := sc s (.bl _) k
  unfold inB at hb
  split at hb
  · split at hb
    · rename_i hm
      cases hb
      obtain ⟨a, vs, rfl, h1, h2⟩ := hy
      obtain ⟨e1, e2⟩ := hx.flat hm.1
      obtain ⟨e3, e4⟩ := h2.flat hm.2
      exact .inl ⟨a, vs, rfl, .inl (SqL.of h1), e2, e4, by rw [e1, e3]; exact q⟩
    · cases hb
  · split at hb
    · rename_i hm
      cases hb
      cases hy with
      | tup h1 h2 =>
        obtain ⟨e1, e2⟩ := hx.flat hm.1
        obtain ⟨e3, e4⟩ := h2.flat hm.2
        exact .inl ⟨_, _, rfl, .inr (seqT_mono s h1), e2, e4, by rw [e1, e3]; exact q⟩
    · cases hb
  · rename_i n kvs
    cases hb
    cases hx
    obtain ⟨a, o, rfl, g, e⟩ := inB_key (k := .inl n) hy
    exact .inr (.inl ⟨a, o, rfl, g, by rw [e]; exact q⟩)
  · rename_i n kvs
    cases hb
    cases hx
    obtain ⟨a, o, rfl, g, e⟩ := inB_key (k := .inr n) hy
    exact .inr (.inl ⟨a, o, rfl, g, by rw [e]; exact q⟩)
  · cases hb
    cases hx
    cases hy
    exact .inr (.inr ⟨_, _, rfl, rfl, q⟩)
  · cases hb
theorem opd_nin (K : PySem.W.Frag) : OpD K (rNinA K) ninD := by
  intro x y d e z H0 H s hx hy hg Q k
  obtain ⟨b, hb, rfl⟩ := Option.map_eq_some_iff.mp hg
  have q : Q (.bl (!b)) H := sc s (.bl _) k
  unfold inB at hb
  split at hb
  · split at hb
    · rename_i hm
      cases hb
      obtain ⟨a, vs, rfl, h1, h2⟩ := hy
      obtain ⟨e1, e2⟩ := hx.flat hm.1
      obtain ⟨e3, e4⟩ := h2.flat hm.2
      exact .inl ⟨a, vs, rfl, .inl (SqL.of h1), e2, e4, by rw [e1, e3]; exact q⟩
    · cases hb
  · split at hb
    · rename_i hm
      cases hb
      cases hy with
      | tup h1 h2 =>
        obtain ⟨e1, e2⟩ := hx.flat hm.1
        obtain ⟨e3, e4⟩ := h2.flat hm.2
        exact .inl ⟨_, _, rfl, .inr (seqT_mono s h1), e2, e4, by rw [e1, e3]; exact q⟩
    · cases hb
  · rename_i n kvs
    cases hb
    cases hx
    obtain ⟨a, o, rfl, g, e⟩ := inB_key (k := .inl n) hy
    exact .inr (.inl ⟨a, o, rfl, g, by rw [e]; exact q⟩)
  · rename_i n kvs
    cases hb
    cases hx
    obtain ⟨a, o, rfl, g, e⟩ := inB_key (k := .inr n) hy
    exact .inr (.inl ⟨a, o, rfl, g, by rw [e]; exact q⟩)
  · cases hb
    cases hx
    cases hy
    exact .inr (.inr ⟨_, _, rfl, rfl, q⟩)
  · cases hb
/-! ### is None -/
def isN : Dt → Bool
  | .non => true
  | _ => false
def isND : Dt → Dt → Option Dt
  | d, .non => some (.bl (isN d))
  | _, _ => none
def notND : Dt → Dt → Option Dt
  | d, .non => some (.bl (!isN d))
  | _, _ => none
theorem Pk.isN {K : PySem.W.Frag} {H0 H : Hp} {v : V} {d : Dt} (h : Pk K H0 H v d) : decide (v = .non) = isN d := by
  cases d with
  | lst _ => obtain ⟨a, _, rfl, _⟩ := h; rfl
  | dct _ => obtain ⟨a, _, rfl, _⟩ := h; rfl
  | _ => cases h <;> rfl
theorem opd_isN (K : PySem.W.Frag) : OpD K (fun x y H Q => y = .non ∧ Q (.bl (decide (x = .non))) H) isND := by
  intro x y d e z H0 H s hx hy hg Q k
  unfold isND at hg
  split at hg
  · cases hg
    cases hy
    refine ⟨rfl, ?_⟩
    rw [hx.isN]
    exact sc s (.bl _) k
  · cases hg
theorem opd_notN (K : PySem.W.Frag) : OpD K (fun x y H Q => y = .non ∧ Q (.bl (!decide (x = .non))) H) notND := by
  intro x y d e z H0 H s hx hy hg Q k
  unfold notND at hg
  split at hg
  · cases hg
    cases hy
    refine ⟨rfl, ?_⟩
    rw [hx.isN]
    exact sc s (.bl _) k
  · cases hg

/-! ### subscripts -/
def ixD : Dt → Dt → Option Dt
  | .lst xs, .int i => atI xs i
  | .tup xs, .int i => atI xs i
  | .str z, .int i => if z.length ≤ 1000000 then (atI z.cps.toList i).map fun c => .str ⟨#[c]⟩ else none
  | .dct kvs, .int k => getK kvs (.inl k)
  | .dct kvs, .str k => getK kvs (.inr k)
  | .scr ns, .int i => (atI ns i).map .int
  | _, _ => none
def rIxA (K : PySem.W.Frag) : R2 := fun x y H Q => rIx K x y H Q ∨ ∃ a v, x = .ref a ∧ DGet H a y (some v) ∧ Q v H
theorem atI_da {K : PySem.W.Frag} {H : Hp} {vs : List V} {ds : List Dt} {i : Int} {z : Dt} (h : DaAll K H vs ds) (e : atI ds i = some z) : ∃ v, atI vs i = some v ∧ Da K H v z := by
  unfold atI at e ⊢
  rw [h.length]
  obtain ⟨j, h1, h2⟩ := Option.bind_eq_some_iff.mp e
  obtain ⟨v, h3, h4⟩ := h.get h2
  exact ⟨v, by rw [h1]; exact h3, h4⟩
theorem ixr_all (hu : X.A.units + 1 < cLine) : IxR X (rIxA X.K) := ix_seq.or (by
  intro value slice pins s σ H x y v u Q I rx ry q hs
  obtain ⟨a, w, rfl, g, q⟩ := q
  cases rx
  refine PyProof.Rows.tail_any (ops := [.ref a, u]) (dict_typeIs I g) PySem.F.slot_dict_getitem.lookup (d_getItem hu I g ry fun w' s' I' r' => ⟨w, H, I', r', q⟩) hs)
theorem opd_ix (K : PySem.W.Frag) : OpD K (rIxA K) ixD := by
  intro x y d e z H0 H s hx hy hg Q k
  unfold ixD at hg
  split at hg
  · obtain ⟨a, vs, rfl, h1, h2⟩ := hx
    cases hy
    obtain ⟨v, h3, h4⟩ := atI_da h2 hg
    exact .inl (.inl ⟨a, vs, _, v, rfl, rfl, SqL.of h1, h3, sc s h4 k⟩)
  · cases hy
    cases hx with
    | tup h1 h2 =>
      obtain ⟨v, h3, h4⟩ := atI_da h2 hg
      exact .inl (.inr (.inl ⟨_, _, _, v, rfl, rfl, seqT_mono s h1, h3, sc s h4 k⟩))
  · split at hg
    · rename_i hl
      cases hy
      cases hx
      obtain ⟨c, h1, rfl⟩ := Option.map_eq_some_iff.mp hg
      exact .inl (.inr (.inr ⟨_, _, c, rfl, rfl, sizeM hl, h1, sc s (.str _) k⟩))
    · cases hg
  · cases hy
    obtain ⟨a, ks, rfl, h1, h2⟩ := hx
    rename_i n
    obtain ⟨v, h3, h4⟩ := (h2.get _).1 _ hg
    exact .inr ⟨a, v, rfl, by rw [← h3]; exact DGet.k (k := .inl n) h1, sc s h4 k⟩
  · cases hy
    obtain ⟨a, ks, rfl, h1, h2⟩ := hx
    rename_i n
    obtain ⟨v, h3, h4⟩ := (h2.get _).1 _ hg
    exact .inr ⟨a, v, rfl, by rw [← h3]; exact DGet.k (k := .inr n) h1, sc s h4 k⟩
  · cases hy
    cases hx with
    | scr h1 =>
      obtain ⟨n, h3, rfl⟩ := Option.map_eq_some_iff.mp hg
      refine .inl (.inl ⟨_, _, _, .int n, rfl, rfl, seqL_mono s h1, ?_, sc s (.int _) k⟩)
      unfold atI at h3 ⊢
      rw [List.length_map]
      obtain ⟨j, h4, h5⟩ := Option.bind_eq_some_iff.mp h3
      rw [h4]
      show (List.map V.int _)[j]? = some (V.int n)
      rw [List.getElem?_map, h5]
      rfl
  · cases hg
end
end DW

set_option Elab.async false
set_option linter.all false
set_option maxRecDepth 100000
set_option maxHeartbeats 4000000
/-! DW5: rules for expressions, tests, arguments -/
namespace DW
open PySem L2

/-! ### the functions -/
def truD : Dt → Option Bool
  | .non => some false
  | .bl b => some b
  | .int i => some (i != 0)
  | .str y => if y.length ≤ 1000000 then some ((y.length : Int) != 0) else none
  | .lst xs => some (!xs.isEmpty)
  | .tup xs => some (!xs.isEmpty)
  | .dct xs => some (!xs.isEmpty)
  | .scr xs => some (!xs.isEmpty)
  | .xo _ _ _ => none
  | .fn _ => none
def truF (f : Rho → R Dt) : Rho → R Bool := fun ρ => (f ρ).bind fun d ρ1 => match truD d with
  | some b => .ok b ρ1
  | none => .bad
def tstF (f : Rho → R Dt) : Rho → R Bool := fun ρ => (f ρ).bind fun d ρ1 => match d with
  | .bl b => .ok b ρ1
  | _ => .bad
def andT (f g : Rho → R Bool) : Rho → R Bool := fun ρ => (f ρ).bind fun b ρ1 => if b = true then g ρ1 else .ok false ρ1
def orT (f g : Rho → R Bool) : Rho → R Bool := fun ρ => (f ρ).bind fun b ρ1 => if b = true then .ok true ρ1 else g ρ1
def notT (f : Rho → R Bool) : Rho → R Bool := fun ρ => (f ρ).bind fun b ρ1 => .ok (!b) ρ1
def andV (f g : Rho → R Dt) : Rho → R Dt := fun ρ => (f ρ).bind fun d ρ1 => match d with
  | .bl b => if b = true then g ρ1 else .ok (.bl false) ρ1
  | _ => .bad
def orV (f g : Rho → R Dt) : Rho → R Dt := fun ρ => (f ρ).bind fun d ρ1 => match d with
  | .bl b => if b = true then .ok (.bl true) ρ1 else g ρ1
  | _ => .bad
def notD (d : Dt) : Option Dt := (truD d).map fun b => .bl (!b)
def ifE (c : Rho → R Bool) (f g : Rho → R Dt) : Rho → R Dt := fun ρ => (c ρ).bind fun b ρ1 => if b = true then f ρ1 else g ρ1
def chainD (g1 g2 : Dt → Dt → Option Dt) (f1 f2 f3 : Rho → R Dt) : Rho → R Dt := fun ρ => (f1 ρ).bind fun x ρ1 => (f2 ρ1).bind fun y ρ2 => match g1 x y with
  | some (.bl true) => (f3 ρ2).bind fun z ρ3 => match g2 y z with
    | some w => .ok w ρ3
    | none => .bad
  | some (.bl false) => .ok (.bl false) ρ2
  | _ => .bad
def nilA : Rho → R (List Dt) := fun ρ => .ok [] ρ
def consA (f : Rho → R Dt) (g : Rho → R (List Dt)) : Rho → R (List Dt) := fun ρ => (f ρ).bind fun d ρ1 => (g ρ1).bind fun ds ρ2 => .ok (d :: ds) ρ2
def tupD (f : Rho → R (List Dt)) : Rho → R Dt := fun ρ => (f ρ).bind fun ds ρ1 => if ds.length ≤ 1000000 then .ok (.tup ds) ρ1 else .bad
def lstD (f : Rho → R (List Dt)) : Rho → R Dt := fun ρ => (f ρ).bind fun ds ρ1 => if ds.length ≤ 1000000 then .ok (.lst ds) ρ1 else .bad
def lstO (f : Rho → R (List Dt)) : Rho → R Sl := fun ρ => (f ρ).bind fun ds ρ1 => if ds.length ≤ 1000000 then .ok (.ol ds) ρ1 else .bad
def dctO0 : Rho → R Sl := fun ρ => .ok (.od []) ρ
def dctD0 : Rho → R Dt := fun ρ => .ok (.dct []) ρ
def frO (f : Rho → R Dt) : Rho → R Sl := fun ρ => (f ρ).bind fun d ρ1 => .ok (.fr d) ρ1
def cb (g : List Dt → Option Dt) (f : Rho → R (List Dt)) : Rho → R Dt := fun ρ => (f ρ).bind fun ds ρ1 => match g ds with
  | some z => .ok z ρ1
  | none => .bad
def noP : Rho → R (Option Int) := fun ρ => .ok none ρ
def someP (f : Rho → R Dt) : Rho → R (Option Int) := fun ρ => (f ρ).bind fun d ρ1 => match d with
  | .int i => .ok (some i) ρ1
  | _ => .bad
def cutD {α : Type} (xs : List α) (lo hi : Option Int) : List α := (xs.drop (HT.sIx xs.length 0 lo)).take (HT.sIx xs.length xs.length hi - HT.sIx xs.length 0 lo)
def slD : Dt → Option Int → Option Int → Option Dt
  | .lst xs, lo, hi => some (.lst (cutD xs lo hi))
  | .tup xs, lo, hi => some (.tup (cutD xs lo hi))
  | .scr ns, lo, hi => some (.lst ((cutD ns lo hi).map .int))
  | .str z, lo, hi => if z.length ≤ 1000000 then some (.str (cutS z lo hi)) else none
  | _, _, _ => none
def sl3 (f : Rho → R Dt) (fl fh : Rho → R (Option Int)) : Rho → R Dt := fun ρ => (f ρ).bind fun d ρ1 => (fl ρ1).bind fun lo ρ2 => (fh ρ2).bind fun hi ρ3 => match slD d lo hi with
  | some z => .ok z ρ3
  | none => .bad

/-! ### readings -/
section
variable {F : Fm} {g : Gx} {W : WX} {σ : L2.St} {H : Hp}
theorem bind_ok {α β : Type} {r : R α} {k : α → Rho → R β} {b : β} {ρ' : Rho} (h : r.bind k = .ok b ρ') : ∃ a ρ1, r = .ok a ρ1 ∧ k a ρ1 = .ok b ρ' := by
  cases r with
  | ok a ρ1 => exact ⟨a, ρ1, rfl, h⟩
  | ex _ _ => cases h
  | bad => cases h
theorem tC_cst {v : V} {d : Dt} {Q : VK} (hd : ∀ H, Da g.K H v d) (h : tD g F W (cst d) σ H Q) : tC v σ H Q := by
  obtain ⟨H0, ρ, E, q⟩ := h
  exact q v H0 H E Mv.refl (hd _)
theorem tTest_of {f : Rho → R Dt} {Q : Bool → Hp → Prop} (h : tDT g F W (tstF f) σ H Q) : tTest (tD g F W f) σ H Q := by
  obtain ⟨H0, ρ, E, q⟩ := h
  refine ⟨H0, ρ, E, ?_⟩
  unfold tstF at q
  cases e : f ρ with
  | ok d ρ1 =>
    rw [e] at q
    dsimp only [R.bind] at q
    intro v H0' H' E' m hd
    cases d with
    | bl b =>
      cases hd
      exact ⟨b, rfl, q H0' H' E' m⟩
    | _ => exact q.elim
  | ex x ρ1 =>
    rw [e] at q
    exact q
  | bad =>
    rw [e] at q
    exact q
theorem truV_of {K : PySem.W.Frag} {H0 H : Hp} {v : V} {d : Dt} {b : Bool} (e : Same H0 H) (h : Pk K H0 H v d) (hb : truD d = some b) : TruV K v H b := by
  cases d with
  | xo _ _ _ => cases hb
  | fn _ => cases hb
  | non => cases h; cases hb; rfl
  | bl _ => cases h; cases hb; rfl
  | int _ => cases h; cases hb; rfl
  | str y =>
    cases h
    by_cases hl : y.length ≤ 1000000
    · simp only [truD, if_pos hl, Option.some.injEq] at hb
      exact ⟨sizeM hl, hb.symm⟩
    · simp only [truD, if_neg hl] at hb
      cases hb
  | lst xs =>
    obtain ⟨a, vs, rfl, h1, h2⟩ := h
    cases hb
    refine .inl ⟨vs, SqL.of h1, ?_⟩
    cases h2 <;> rfl
  | tup xs =>
    cases hb
    cases h with
    | tup h1 h2 =>
      refine .inr (.inl ⟨_, seqT_mono e h1, ?_⟩)
      cases h2 <;> rfl
  | dct xs =>
    obtain ⟨a, vs, rfl, h1, h2⟩ := h
    cases hb
    refine .inr (.inr ⟨vs, h1, ?_⟩)
    cases h2 <;> rfl
  | scr xs =>
    cases hb
    cases h with
    | scr h1 =>
      refine .inl ⟨_, seqL_mono e h1, ?_⟩
      cases xs <;> rfl
theorem tTru_of {f : Rho → R Dt} {Q : Bool → Hp → Prop} (h : tDT g F W (truF f) σ H Q) : tK g F W f σ H (fun x H' => ∃ k, TruV g.K x H' k ∧ Q k H') := by
  obtain ⟨H0, ρ, E, q⟩ := h
  refine ⟨H0, ρ, E, ?_⟩
  unfold truF at q
  cases e : f ρ with
  | ok d ρ1 =>
    rw [e] at q
    dsimp only [R.bind] at q
    intro v H0' H' E' m hd
    cases e2 : truD d with
    | some b =>
      rw [e2] at q
      exact ⟨b, truV_of E'.ex hd e2, q H0' H' E' m⟩
    | none =>
      rw [e2] at q
      exact q.elim
  | ex x ρ1 =>
    rw [e] at q
    exact q
  | bad =>
    rw [e] at q
    exact q
theorem tNotT_of {f : Rho → R Dt} {Q : VK} (h : tD g F W (un notD f) σ H Q) : tNotT g.K (tK g F W f) σ H Q := by
  obtain ⟨H0, ρ, E, q⟩ := h
  refine ⟨H0, ρ, E, ?_⟩
  unfold un at q
  cases e : f ρ with
  | ok d ρ1 =>
    rw [e] at q
    dsimp only [R.bind, notD] at q
    intro v H0' H' E' m hd
    cases e2 : truD d with
    | some b =>
      rw [e2] at q
      exact ⟨b, truV_of E'.ex hd e2, q _ H0' H' E' m (.bl _)⟩
    | none =>
      rw [e2] at q
      exact q.elim
  | ex x ρ1 =>
    rw [e] at q
    exact q
  | bad =>
    rw [e] at q
    exact q
theorem tAnd_of {f k : Rho → R Bool} {Q : Bool → Hp → Prop} (h : tDT g F W (andT f k) σ H Q) : tAnd (tDT g F W f) (tDT g F W k) σ H Q := by
  obtain ⟨H0, ρ, E, q⟩ := h
  refine ⟨H0, ρ, E, ?_⟩
  unfold andT at q
  cases e : f ρ with
  | ok b ρ1 =>
    rw [e] at q
    dsimp only [R.bind] at q
    intro H0' H' E' m
    cases b with
    | true =>
      rw [if_pos rfl] at q ⊢
      refine ⟨H0', ρ1, E', ?_⟩
      cases e2 : k ρ1 with
      | ok b2 ρ2 =>
        rw [e2] at q
        exact fun H0'' H'' E'' m' => q H0'' H'' E'' (m.trans m')
      | ex x ρ1 =>
        rw [e2] at q
        exact q
      | bad =>
        rw [e2] at q
        exact q
    | false =>
      rw [if_neg Bool.false_ne_true] at q ⊢
      exact q H0' H' E' m
  | ex x ρ1 =>
    rw [e] at q
    exact q
  | bad =>
    rw [e] at q
    exact q
theorem tOr_of {f k : Rho → R Bool} {Q : Bool → Hp → Prop} (h : tDT g F W (orT f k) σ H Q) : tOr (tDT g F W f) (tDT g F W k) σ H Q := by
  obtain ⟨H0, ρ, E, q⟩ := h
  refine ⟨H0, ρ, E, ?_⟩
  unfold orT at q
  cases e : f ρ with
  | ok b ρ1 =>
    rw [e] at q
    dsimp only [R.bind] at q
    intro H0' H' E' m
    cases b with
    | false =>
      rw [if_neg Bool.false_ne_true] at q ⊢
      refine ⟨H0', ρ1, E', ?_⟩
      cases e2 : k ρ1 with
      | ok b2 ρ2 =>
        rw [e2] at q
        exact fun H0'' H'' E'' m' => q H0'' H'' E'' (m.trans m')
      | ex x ρ1 =>
        rw [e2] at q
        exact q
      | bad =>
        rw [e2] at q
        exact q
    | true =>
      rw [if_pos rfl] at q ⊢
      exact q H0' H' E' m
  | ex x ρ1 =>
    rw [e] at q
    exact q
  | bad =>
    rw [e] at q
    exact q
theorem tNot_of {f : Rho → R Bool} {Q : Bool → Hp → Prop} (h : tDT g F W (notT f) σ H Q) : tNot (tDT g F W f) σ H Q := by
  obtain ⟨H0, ρ, E, q⟩ := h
  refine ⟨H0, ρ, E, ?_⟩
  unfold notT at q
  cases e : f ρ with
  | ok b ρ1 =>
    rw [e] at q
    exact fun H0' H' E' m => q H0' H' E' m
  | ex x ρ1 =>
    rw [e] at q
    exact q
  | bad =>
    rw [e] at q
    exact q
theorem tAndV_of {f k : Rho → R Dt} {Q : VK} (h : tD g F W (andV f k) σ H Q) : tAndV (tD g F W f) (tD g F W k) σ H Q := by
  obtain ⟨H0, ρ, E, q⟩ := h
  refine ⟨H0, ρ, E, ?_⟩
  unfold andV at q
  cases e : f ρ with
  | ok d ρ1 =>
    rw [e] at q
    dsimp only [R.bind] at q
    intro v H0' H' E' m hd
    cases d with
    | bl b =>
      cases hd
      refine ⟨b, rfl, ?_⟩
      dsimp only at q
      cases b with
      | true =>
        rw [if_pos rfl] at q ⊢
        refine ⟨H0', ρ1, E', ?_⟩
        cases e2 : k ρ1 with
        | ok b2 ρ2 =>
          rw [e2] at q
          exact fun v H0'' H'' E'' m' hd => q v H0'' H'' E'' (m.trans m') hd
        | ex x ρ1 =>
          rw [e2] at q
          exact q
        | bad =>
          rw [e2] at q
          exact q
      | false =>
        rw [if_neg Bool.false_ne_true] at q ⊢
        exact q _ H0' H' E' m (.bl _)
    | _ => exact q.elim
  | ex x ρ1 =>
    rw [e] at q
    exact q
  | bad =>
    rw [e] at q
    exact q
theorem tOrV_of {f k : Rho → R Dt} {Q : VK} (h : tD g F W (orV f k) σ H Q) : tOrV (tD g F W f) (tD g F W k) σ H Q := by
  obtain ⟨H0, ρ, E, q⟩ := h
  refine ⟨H0, ρ, E, ?_⟩
  unfold orV at q
  cases e : f ρ with
  | ok d ρ1 =>
    rw [e] at q
    dsimp only [R.bind] at q
    intro v H0' H' E' m hd
    cases d with
    | bl b =>
      cases hd
      refine ⟨b, rfl, ?_⟩
      dsimp only at q
      cases b with
      | false =>
        rw [if_neg Bool.false_ne_true] at q ⊢
        refine ⟨H0', ρ1, E', ?_⟩
        cases e2 : k ρ1 with
        | ok b2 ρ2 =>
          rw [e2] at q
          exact fun v H0'' H'' E'' m' hd => q v H0'' H'' E'' (m.trans m') hd
        | ex x ρ1 =>
          rw [e2] at q
          exact q
        | bad =>
          rw [e2] at q
          exact q
      | true =>
        rw [if_pos rfl] at q ⊢
        exact q _ H0' H' E' m (.bl _)
    | _ => exact q.elim
  | ex x ρ1 =>
    rw [e] at q
    exact q
  | bad =>
    rw [e] at q
    exact q
theorem tIf_of {c : Rho → R Bool} {f k : Rho → R Dt} {Q : VK} (h : tD g F W (ifE c f k) σ H Q) : tIf (tDT g F W c) (tD g F W f) (tD g F W k) σ H Q := by
  obtain ⟨H0, ρ, E, q⟩ := h
  refine ⟨H0, ρ, E, ?_⟩
  unfold ifE at q
  cases e : c ρ with
  | ok b ρ1 =>
    rw [e] at q
    dsimp only [R.bind] at q
    intro H0' H' E' m
    cases b with
    | true =>
      rw [if_pos rfl] at q ⊢
      refine ⟨H0', ρ1, E', ?_⟩
      cases e2 : f ρ1 with
      | ok b2 ρ2 =>
        rw [e2] at q
        exact fun v H0'' H'' E'' m' hd => q v H0'' H'' E'' (m.trans m') hd
      | ex x ρ1 =>
        rw [e2] at q
        exact q
      | bad =>
        rw [e2] at q
        exact q
    | false =>
      rw [if_neg Bool.false_ne_true] at q ⊢
      refine ⟨H0', ρ1, E', ?_⟩
      cases e2 : k ρ1 with
      | ok b2 ρ2 =>
        rw [e2] at q
        exact fun v H0'' H'' E'' m' hd => q v H0'' H'' E'' (m.trans m') hd
      | ex x ρ1 =>
        rw [e2] at q
        exact q
      | bad =>
        rw [e2] at q
        exact q
  | ex x ρ1 =>
    rw [e] at q
    exact q
  | bad =>
    rw [e] at q
    exact q
theorem tChain_of {r r' : R2} {g1 g2 : Dt → Dt → Option Dt} {f1 f2 f3 : Rho → R Dt} (h1 : OpD g.K r g1) (h2 : OpD g.K r' g2) {Q : VK} (h : tD g F W (chainD g1 g2 f1 f2 f3) σ H Q) :
    tChain r r' (tD g F W f1) (tD g F W f2) (tD g F W f3) σ H Q := by
  obtain ⟨H0, ρ, E, q⟩ := h
  refine ⟨H0, ρ, E, ?_⟩
  unfold chainD at q
  cases e1 : f1 ρ with
  | ok d ρ1 =>
    rw [e1] at q
    dsimp only [R.bind] at q
    intro x B0 B E1 m1 d1
    refine ⟨B0, ρ1, E1, ?_⟩
    cases e2 : f2 ρ1 with
    | ok e ρ2 =>
      rw [e2] at q
      dsimp only [R.bind] at q
      intro y C0 C E2 m2 d2
      cases e3 : g1 d e with
      | none =>
        rw [e3] at q
        exact q.elim
      | some z =>
        rw [e3] at q
        refine h1 x y d e z C0 C E2.ex (Da.pk E2.ex (d1.mono m2.b0)) (Da.pk E2.ex d2) e3 _ fun v D0 D g3 s3 d3 => ?_
        obtain ⟨E3, m3⟩ := E2.post (m1.trans m2) g3 s3
        cases z with
        | bl b =>
          cases d3
          refine ⟨b, rfl, ?_⟩
          cases b with
          | true =>
            rw [if_pos rfl]
            refine ⟨D0, ρ2, E3, ?_⟩
            dsimp only at q
            cases e4 : f3 ρ2 with
            | ok z ρ3 =>
              rw [e4] at q
              dsimp only [R.bind] at q
              intro w' G0 G E4 m4 d4
              cases e5 : g2 e z with
              | none =>
                rw [e5] at q
                exact q.elim
              | some u =>
                rw [e5] at q
                refine h2 y w' e z u G0 G E4.ex (Da.pk E4.ex ((d2.mono g3.b0).mono m4.b0)) (Da.pk E4.ex d4) e5 _ fun v I0 I g5 s5 d5 => ?_
                obtain ⟨E5, m5⟩ := E4.post (m3.trans m4) g5 s5
                exact q v I0 I E5 m5 d5
            | ex x ρ1 =>
              rw [e4] at q
              exact q
            | bad =>
              rw [e4] at q
              exact q
          | false =>
            rw [if_neg Bool.false_ne_true]
            exact q _ D0 D E3 m3 (.bl _)
        | _ => exact q.elim
    | ex x ρ1 =>
      rw [e2] at q
      exact q
    | bad =>
      rw [e2] at q
      exact q
  | ex x ρ1 =>
    rw [e1] at q
    exact q
  | bad =>
    rw [e1] at q
    exact q
theorem tNil_of {Q : List V → Hp → Prop} (h : tDA g F W nilA σ H Q) : tNil σ H Q := by
  obtain ⟨H0, ρ, E, q⟩ := h
  exact q [] H0 H E Mv.refl .nil
theorem tCons_of {f : Rho → R Dt} {k : Rho → R (List Dt)} {Q : List V → Hp → Prop} (h : tDA g F W (consA f k) σ H Q) : tCons (tD g F W f) (tDA g F W k) σ H Q := by
  obtain ⟨H0, ρ, E, q⟩ := h
  refine ⟨H0, ρ, E, ?_⟩
  unfold consA at q
  cases e : f ρ with
  | ok d ρ1 =>
    rw [e] at q
    dsimp only [R.bind] at q
    intro v H0' H' E' m hd
    refine ⟨H0', ρ1, E', ?_⟩
    cases e2 : k ρ1 with
    | ok ds ρ2 =>
      rw [e2] at q
      exact fun vs H0'' H'' E'' m' hs => q (v :: vs) H0'' H'' E'' (m.trans m') (.cons (hd.mono m'.b0) hs)
    | ex x ρ1 =>
      rw [e2] at q
      exact q
    | bad =>
      rw [e2] at q
      exact q
  | ex x ρ1 =>
    rw [e] at q
    exact q
  | bad =>
    rw [e] at q
    exact q
theorem tTup_of {f : Rho → R (List Dt)} {Q : VK} (h : tD g F W (tupD f) σ H Q) : tTup (tDA g F W f) σ H Q := by
  obtain ⟨H0, ρ, E, q⟩ := h
  refine ⟨H0, ρ, E, ?_⟩
  unfold tupD at q
  cases e : f ρ with
  | ok ds ρ1 =>
    rw [e] at q
    dsimp only [R.bind] at q
    intro vs H0' H' E' m hd
    by_cases hl : ds.length ≤ 1000000
    · rw [if_pos hl] at q
      refine ⟨by rw [hd.length]; exact sizeM hl, al_tup E'.ex hd fun v C0 C gr s2 hv => ?_⟩
      obtain ⟨E3, m3⟩ := E'.post m gr s2
      exact q v C0 C E3 m3 hv
    · rw [if_neg hl] at q
      exact q.elim
  | ex x ρ1 =>
    rw [e] at q
    exact q
  | bad =>
    rw [e] at q
    exact q
theorem tLst_of {f : Rho → R (List Dt)} {Q : VK} (h : tD g F W (lstD f) σ H Q) : tLst (tDA g F W f) σ H Q := by
  obtain ⟨H0, ρ, E, q⟩ := h
  refine ⟨H0, ρ, E, ?_⟩
  unfold lstD at q
  cases e : f ρ with
  | ok ds ρ1 =>
    rw [e] at q
    dsimp only [R.bind] at q
    intro vs H0' H' E' m hd
    by_cases hl : ds.length ≤ 1000000
    · rw [if_pos hl] at q
      refine ⟨by rw [hd.length]; exact sizeM hl, al_lst E'.ex hd fun v C0 C gr s2 hv => ?_⟩
      obtain ⟨E3, m3⟩ := E'.post m gr s2
      exact q v C0 C E3 m3 hv
    · rw [if_neg hl] at q
      exact q.elim
  | ex x ρ1 =>
    rw [e] at q
    exact q
  | bad =>
    rw [e] at q
    exact q
end
end DW

set_option Elab.async false
set_option linter.all false
set_option maxRecDepth 100000
set_option maxHeartbeats 4000000
/-! DW6: rules for expressions: the text's side -/
namespace DW
open PySem L2
section
variable {X : Cx} {W : WX} {a b c e : Expr} {es : List Expr} {pos p p2 : Pos} {f1 f2 f3 : Rho → R Dt}

theorem de_int {i j} : DE X W (.Constant (.int i) j pos) (cst (.int i)) := fun F => PE.wk pe_int fun _ _ _ h => tC_cst (fun _ => .int i) h
theorem de_bl {i j} : DE X W (.Constant (.bool i) j pos) (cst (.bl i)) := fun F => PE.wk pe_bl fun _ _ _ h => tC_cst (fun _ => .bl i) h
theorem de_non {j} : DE X W (.Constant .none j pos) (cst .non) := fun F => PE.wk pe_non fun _ _ _ h => tC_cst (fun _ => .non) h
theorem de_str {x j} : DE X W (.Constant (.str x) j pos) (cst (.str x)) := fun F => PE.wk pe_str fun _ _ _ h => tC_cst (fun _ => .str x) h
theorem de_var (i : Nat) {x : Str} (hN : X.N[i]? = some x := by rfl) (hv : Vis X.env.scope x := by first | exact Or.inl rfl | exact Or.inr (Or.inl rfl) | exact Or.inr (Or.inr rfl)) (hd : (x == ("__debug__" : Str)) = false := by decide)
    (hcd : (x == ("__classdict__" : Str)) = false := by decide) : DE X W (.Name x pos) (var i) := fun F => PE.wk (pe_var hN hv hd hcd) fun _ _ _ h => tD_var h
theorem dk_var (i : Nat) {x : Str} (hN : X.N[i]? = some x := by rfl) (hv : Vis X.env.scope x := by first | exact Or.inl rfl | exact Or.inr (Or.inl rfl) | exact Or.inr (Or.inr rfl)) (hd : (x == ("__debug__" : Str)) = false := by decide)
    (hcd : (x == ("__classdict__" : Str)) = false := by decide) : DK X W (.Name x pos) (pkF i) := fun F => PE.wk (pe_var hN hv hd hcd) fun _ _ _ h => tK_pk h
theorem dk_of (h : DE X W e f1) : DK X W e f1 := fun F => PE.wk (h F) fun _ _ _ q => tK_of q
theorem de_gi {x : Str} {i : Int} {t : Tok} (hg : Gl X x) (hm : X.mg x = some (.int i t)) (hd : (x == ("__debug__" : Str)) = false := by decide) : DE X W (.Name x pos) (cst (.int i)) :=
  fun F => PE.wk (pe_glob (v := .int i) hg hm ⟨_, rfl⟩ hd) fun _ _ _ h => tC_cst (v := .int i) (fun _ => .int i) h
theorem de_gs {x : Str} {i : Str} {t : Tok} (hg : Gl X x) (hm : X.mg x = some (.str i t)) (hd : (x == ("__debug__" : Str)) = false := by decide) : DE X W (.Name x pos) (cst (.str i)) :=
  fun F => PE.wk (pe_glob (v := .str i) hg hm ⟨_, rfl⟩ hd) fun _ _ _ h => tC_cst (v := .str i) (fun _ => .str i) h

/-! ### operators -/
theorem de_op {op : Operator} {r : R2} {gg : Dt → Dt → Option Dt} (ho : OpR X (binaryOp op) r) (hd : OpD X.K r gg) (ha : DE X W a f1) (hb : DK X W b f2) : DE X W (.BinOp a op b pos) (bin gg f1 f2) :=
  fun F => PE.wk (pe_op ho (ha F) (hb F)) fun _ _ _ h => tOp_bin hd h
theorem de_opP {op : Operator} {r : R2} {gg : Dt → Dt → Option Dt} {i : Nat} {x : Str} (ho : OpR X (binaryOp op) r) (hd : OpD X.K r gg) (ha : PE X (.Name x p) (tVar i)) (hb : DK X W b f2) : DE X W (.BinOp (.Name x p) op b pos) (binP gg i f2) :=
  fun F => PE.wk (pe_op ho ha (hb F)) fun _ _ _ h => tOp_binP hd h
theorem de_add (ha : DE X W a f1) (hb : DK X W b f2) : DE X W (.BinOp a .Add b pos) (bin addD f1 f2) := de_op opr_add (opd_add _) ha hb
theorem de_sub (ha : DE X W a f1) (hb : DK X W b f2) : DE X W (.BinOp a .Sub b pos) (bin subD f1 f2) := de_op op_sub (opd_sub _) ha hb
theorem de_mul (ha : DE X W a f1) (hb : DK X W b f2) : DE X W (.BinOp a .Mult b pos) (bin mulD f1 f2) := de_op opr_mul (opd_mul _) ha hb
theorem de_fdiv (ha : DE X W a f1) (hb : DK X W b f2) : DE X W (.BinOp a .FloorDiv b pos) (bin fdivD f1 f2) := de_op op_fdivW (opd_fdiv _) ha hb
theorem de_mod (ha : DE X W a f1) (hb : DK X W b f2) : DE X W (.BinOp a .Mod b pos) (bin modD f1 f2) := de_op op_mod (opd_mod _) ha hb
theorem de_pow (ha : DE X W a f1) (hb : DK X W b f2) : DE X W (.BinOp a .Pow b pos) (bin powD f1 f2) := de_op op_pow (opd_pow _) ha hb
def negD : Dt → Option Dt
  | .int i => some (.int (-i))
  | _ => none
theorem de_neg (ha : DE X W a f1) : DE X W (.UnaryOp .USub a pos) (un negD f1) := fun F => PE.wk (pe_un un_neg (dk_of ha F)) fun _ _ _ h => tUn_un (fun x d z H0 H s hx hg Q k => by
  unfold negD at hg
  split at hg
  · cases hg
    cases hx
    exact ⟨_, rfl, sc s (.int _) k⟩
  · cases hg) h

/-! ### comparisons -/
theorem de_cmp {op : CmpOp} {r : R2} {gg : Dt → Dt → Option Dt} (ho : OpR X (compareOp op) r) (hd : OpD X.K r gg) (hm : behindInMarks op b = false) (ha : DE X W a f1) (hb : DK X W b f2) : DE X W (.Compare a [op] [b] pos) (bin gg f1 f2) :=
  fun F => PE.wk (pe_cmpR ho (ha F) (hb F) hm) fun _ _ _ h => tOp_bin hd h
theorem dt_cmp {op : CmpOp} {r : R2} {gg : Dt → Dt → Option Dt} (ho : OpR X (compareOp op) r) (hd : OpD X.K r gg) (hm : behindInMarks op b = false) (ha : DE X W a f1) (hb : DK X W b f2) : DT X W (.Compare a [op] [b] pos) (tstF (bin gg f1 f2)) :=
  fun F => PT.wk (pt_cmpR ho (ha F) (hb F) hm) fun _ _ _ h => tOp_bin hd (tTest_of h)
theorem de_cmpP {op : CmpOp} {r : R2} {gg : Dt → Dt → Option Dt} {i : Nat} {x : Str} (ho : OpR X (compareOp op) r) (hd : OpD X.K r gg) (hm : behindInMarks op b = false) (ha : PE X (.Name x p) (tVar i)) (hb : DK X W b f2) : DE X W (.Compare (.Name x p) [op] [b] pos) (binP gg i f2) :=
  fun F => PE.wk (pe_cmpR ho ha (hb F) hm) fun _ _ _ h => tOp_binP hd h
theorem dt_cmpP {op : CmpOp} {r : R2} {gg : Dt → Dt → Option Dt} {i : Nat} {x : Str} (ho : OpR X (compareOp op) r) (hd : OpD X.K r gg) (hm : behindInMarks op b = false) (ha : PE X (.Name x p) (tVar i)) (hb : DK X W b f2) : DT X W (.Compare (.Name x p) [op] [b] pos) (tstF (binP gg i f2)) :=
  fun F => PT.wk (pt_cmpR ho ha (hb F) hm) fun _ _ _ h => tOp_binP hd (tTest_of h)
theorem de_chain {op op' : CmpOp} {r r' : R2} {g1 g2 : Dt → Dt → Option Dt} (ho : OpR X (compareOp op) r) (h1 : OpD X.K r g1) (ho' : OpR X (compareOp op') r') (h2 : OpD X.K r' g2) (ha : DE X W a f1) (hb : DE X W b f2) (hc : DE X W c f3)
    (hm : lastMarks [op, op'] [b, c] = false := by with_unfolding_all rfl) : DE X W (.Compare a [op, op'] [b, c] pos) (chainD g1 g2 f1 f2 f3) :=
  fun F => PE.wk (pe_chain ho ho' (ha F) (hb F) (hc F) hm) fun _ _ _ h => tChain_of h1 h2 h
theorem dt_chain {op op' : CmpOp} {r r' : R2} {g1 g2 : Dt → Dt → Option Dt} (ho : OpR X (compareOp op) r) (h1 : OpD X.K r g1) (ho' : OpR X (compareOp op') r') (h2 : OpD X.K r' g2) (ha : DE X W a f1) (hb : DE X W b f2) (hc : DE X W c f3)
    (hm : lastMarks [op, op'] [b, c] = false := by with_unfolding_all rfl) : DT X W (.Compare a [op, op'] [b, c] pos) (tstF (chainD g1 g2 f1 f2 f3)) :=
  fun F => PT.wk (pt_chain ho ho' (ha F) (hb F) (hc F) hm) fun _ _ _ h => tChain_of h1 h2 (tTest_of h)

/-! ### tests -/
theorem dt_tru (ha : DK X W a f1) (he : ∀ whole, isTrue a X.env whole = (do let v ← whole; standAt a.pos; holding [v] (truthy v)) := by intro _; rfl) : DT X W a (truF f1) :=
  fun F => PT.wk (pt_truth (ha F) he) fun _ _ _ h => tTru_of h
variable {t1 t2 : Rho → R Bool} {rest : List Expr}
theorem dw_and1 (ha : DT X W a t1) : DW' X W (.BoolOp .And [a] pos) t1 := fun F => pw_and1 (ha F)
theorem dw_or1 (ha : DT X W a t1) : DW' X W (.BoolOp .Or [a] pos) t1 := fun F => pw_or1 (ha F)
theorem dw_and (ha : DT X W a t1) (hb : DW' X W (.BoolOp .And (b :: rest) pos) t2) : DW' X W (.BoolOp .And (a :: b :: rest) pos) (andT t1 t2) := fun F => PW.wk (pw_and (ha F) (hb F)) fun _ _ _ h => tAnd_of h
theorem dw_or (ha : DT X W a t1) (hb : DW' X W (.BoolOp .Or (b :: rest) pos) t2) : DW' X W (.BoolOp .Or (a :: b :: rest) pos) (orT t1 t2) := fun F => PW.wk (pw_or (ha F) (hb F)) fun _ _ _ h => tOr_of h
theorem dt_w (h : DW' X W a t1) : DT X W a t1 := fun F => (h F).pt
theorem dt_not (ha : DT X W a t1) : DT X W (.UnaryOp .Not a pos) (notT t1) := fun F => PT.wk (pt_not (ha F)) fun _ _ _ h => tNot_of h
theorem de_not (ha : DK X W a f1) : DE X W (.UnaryOp .Not a pos) (un notD f1) := fun F => PE.wk (pe_notT (ha F)) fun _ _ _ h => tNotT_of h
theorem de_one {op} (ha : DE X W a f1) : DE X W (.BoolOp op [a] pos) f1 := fun F => pe_one (ha F)
theorem de_and (ha : DE X W a f1) (hb : DE X W (.BoolOp .And (b :: rest) pos) f2) : DE X W (.BoolOp .And (a :: b :: rest) pos) (andV f1 f2) := fun F => PE.wk (pe_and (ha F) (hb F)) fun _ _ _ h => tAndV_of h
theorem de_or (ha : DE X W a f1) (hb : DE X W (.BoolOp .Or (b :: rest) pos) f2) : DE X W (.BoolOp .Or (a :: b :: rest) pos) (orV f1 f2) := fun F => PE.wk (pe_or (ha F) (hb F)) fun _ _ _ h => tOrV_of h
theorem de_if (hc : DT X W c t1) (ha : DE X W a f1) (hb : DE X W b f2) : DE X W (.IfExp c a b pos) (ifE t1 f1 f2) := fun F => PE.wk (pe_ifExp (hc F) (ha F) (hb F)) fun _ _ _ h => tIf_of h

/-! ### arguments, displays -/
variable {fa : Rho → R (List Dt)}
theorem da_nil : DA X W [] nilA := fun F => PA.wk pa_nil fun _ _ _ h => tNil_of h
theorem da_cons (ha : DE X W a f1) (hr : DA X W es fa) (he : starEach (a :: es) X.env = (false, eval a X.env) :: starEach es X.env := by rfl) : DA X W (a :: es) (consA f1 fa) := fun F => PA.wk (pa_cons (ha F) (hr F) he) fun _ _ _ h => tCons_of h
theorem de_tup {k} (h : DA X W es fa) : DE X W (.Tuple es k pos) (tupD fa) := fun F => PE.wk (pe_tup (h F)) fun _ _ _ q => tTup_of q
theorem de_lst (h : DA X W es fa) : DE X W (.List es pos) (lstD fa) := fun F => PE.wk (pe_lst (h F)) fun _ _ _ q => tLst_of q

/-! ### subscripts, slices -/
theorem de_ix (hu : X.A.units + 1 < cLine) (ha : DE X W a f1) (hb : DK X W b f2) (hs : PlainIx b) : DE X W (.Subscript a b pos) (bin ixD f1 f2) := fun F => PE.wk (pe_ix (ixr_all hu) (ha F) (hb F) hs) fun _ _ _ h => tOp_bin (opd_ix _) h
theorem de_ixP {i : Nat} {x : Str} (hu : X.A.units + 1 < cLine) (ha : PE X (.Name x p) (tVar i)) (hb : DK X W b f2) (hs : PlainIx b) : DE X W (.Subscript (.Name x p) b pos) (binP ixD i f2) := fun F => PE.wk (pe_ix (ixr_all hu) ha (hb F) hs) fun _ _ _ h => tOp_binP (opd_ix _) h
def tDP (g : Gx) (F : Fm) (W : WX) (f : Rho → R (Option Int)) : TO := fun σ H Q => ∃ H0 ρ, En g.K F H0 H σ ρ ∧ match f ρ with
  | .ok o ρ' => ∀ H0' H', En g.K F H0' H' σ ρ' → Mv σ ρ ρ' H0 H H0' H' → Q o H'
  | .ex e ρ' => XW g F W σ e ρ'
  | .bad => False
def DP (X : Cx) (W : WX) (e : Option Expr) (f : Rho → R (Option Int)) : Prop := ∀ F, PO X e (tDP (gx X) F W f)
theorem PO.wk {e : Option Expr} {t u : TO} (h : PO X e t) (k : ∀ σ H Q, u σ H Q → t σ H Q) : PO X e u := ⟨fun pins s σ H Q I q => h.run pins s σ H Q I (k σ H Q q)⟩
theorem dp_none : DP X W none noP := fun F => PO.wk po_none fun _ _ _ ⟨H0, ρ, E, q⟩ => q H0 _ E Mv.refl
theorem dp_some (h : DE X W e f1) : DP X W (some e) (someP f1) := fun F => PO.wk (po_some (h F)) fun σ H Q ⟨H0, ρ, E, q⟩ => by
  refine ⟨H0, ρ, E, ?_⟩
  unfold someP at q
  cases e : f1 ρ with
  | ok d ρ1 =>
    rw [e] at q
    dsimp only [R.bind] at q
    intro v H0' H' E' m hd
    cases d with
    | int i =>
      cases hd
      exact ⟨i, rfl, q H0' H' E' m⟩
    | _ => exact q.elim
  | ex x ρ1 =>
    rw [e] at q
    exact q
  | bad =>
    rw [e] at q
    exact q
def rSlAll (K : PySem.W.Frag) : V → Option Int → Option Int → Hp → VK → Prop := fun x lo hi H Q => rSlL K x lo hi H Q ∨ rSlA K x lo hi H Q ∨ rSlS x lo hi H Q
theorem slr_all : L2.SlR X (rSlAll X.K) := sl_list.or (sl_tupA.or sl_str)
theorem DaAll.cut {K : PySem.W.Frag} {H : Hp} {vs : List V} {ds : List Dt} (h : DaAll K H vs ds) (lo hi : Option Int) : DaAll K H (cutV vs lo hi) (cutD ds lo hi) := by
  unfold cutV cutD
  rw [h.length]
  exact (h.drop _).take _
theorem cut_whole {α : Type} (xs : List α) (lo hi : Option Int) (h : HT.sIx xs.length 0 lo = 0 ∧ HT.sIx xs.length xs.length hi = xs.length) : cutD xs lo hi = xs := by
  unfold cutD
  rw [h.1, h.2, List.drop_zero, Nat.sub_zero, List.take_length]
theorem cutD_map {α β : Type} (f : α → β) (xs : List α) (lo hi : Option Int) : cutD (xs.map f) lo hi = (cutD xs lo hi).map f := by
  unfold cutD
  rw [List.length_map, List.map_take, List.map_drop]
theorem slD_ok {K : PySem.W.Frag} {H0 H : Hp} {x : V} {d z : Dt} {lo hi : Option Int} (s : Same H0 H) (hx : Pk K H0 H x d) (hg : slD d lo hi = some z) {Q : VK} (k : ∀ v H0' H', Gr ⟨H0, H, none, false⟩ H0' H' → Same H0' H' → Da K H0' v z → Q v H') : rSlAll K x lo hi H Q := by
  unfold slD at hg
  split at hg
  · cases hg
    obtain ⟨a, vs, rfl, h1, h2⟩ := hx
    exact .inl ⟨a, vs, rfl, SqL.of h1, al_lst s (h2.cut _ _) k⟩
  · cases hg
    cases hx with
    | tup h1 h2 =>
      refine .inr (.inl ⟨_, _, rfl, seqT_mono s h1, fun hw => ?_, fun _ => al_tup s (h2.cut _ _) k⟩)
      rw [h2.length] at hw
      rw [cut_whole _ _ _ hw] at k
      exact sc s (.tup h1 h2) k
  · cases hg
    cases hx with
    | scr h1 =>
      refine .inl ⟨_, _, rfl, seqL_mono s h1, al_lst s ?_ k⟩
      rw [← cutD_map]
      exact (daInts _).cut _ _
  · split at hg
    · rename_i hl
      cases hg
      cases hx
      exact .inr (.inr ⟨_, rfl, sizeM hl, sc s (.str _) k⟩)
    · cases hg
  · cases hg
theorem tSl_of {g : Gx} {F : Fm} {W : WX} {f : Rho → R Dt} {fl fh : Rho → R (Option Int)} {σ : L2.St} {H : Hp} {Q : VK} (h : tD g F W (sl3 f fl fh) σ H Q) : tSl (rSlAll g.K) (tD g F W f) (tDP g F W fl) (tDP g F W fh) σ H Q := by
  obtain ⟨H0, ρ, E, q⟩ := h
  refine ⟨H0, ρ, E, ?_⟩
  unfold sl3 at q
  cases e1 : f ρ with
  | ok d ρ1 =>
    rw [e1] at q
    dsimp only [R.bind] at q
    intro x B0 B E1 m1 d1
    refine ⟨B0, ρ1, E1, ?_⟩
    cases e2 : fl ρ1 with
    | ok lo ρ2 =>
      rw [e2] at q
      dsimp only [R.bind] at q
      intro C0 C E2 m2
      refine ⟨C0, ρ2, E2, ?_⟩
      cases e3 : fh ρ2 with
      | ok hi ρ3 =>
        rw [e3] at q
        dsimp only [R.bind] at q
        intro D0 D E3 m3
        cases e4 : slD d lo hi with
        | none =>
          rw [e4] at q
          exact q.elim
        | some z =>
          rw [e4] at q
          refine slD_ok E3.ex (Da.pk E3.ex ((d1.mono m2.b0).mono m3.b0)) e4 fun v I0 I gr s4 d4 => ?_
          obtain ⟨E4, m4⟩ := E3.post ((m1.trans m2).trans m3) gr s4
          exact q v I0 I E4 m4 d4
      | ex x ρ1 =>
        rw [e3] at q
        exact q
      | bad =>
        rw [e3] at q
        exact q
    | ex x ρ1 =>
      rw [e2] at q
      exact q
    | bad =>
      rw [e2] at q
      exact q
  | ex x ρ1 =>
    rw [e1] at q
    exact q
  | bad =>
    rw [e1] at q
    exact q
theorem de_sl {lo hi : Option Expr} {fl fh : Rho → R (Option Int)} (he : DE X W e f1) (hl : DP X W lo fl) (hh : DP X W hi fh) : DE X W (.Subscript e (.Slice lo hi none p2) pos) (sl3 f1 fl fh) := fun F => PE.wk (pe_slice slr_all (he F) (hl F) (hh F)) fun _ _ _ h => tSl_of h

/-! ### built-in functions of one thing -/
theorem tCB1_of {g : Gx} {F : Fm} {W : WX} {f : Rho → R Dt} {r : List V → Hp → VK → Prop} {gg : Dt → Option Dt} (hr : UnD g.K (fun x H Q => r [x] H Q) gg) {σ : L2.St} {H : Hp} {Q : VK} (h : tD g F W (un gg f) σ H Q) : tCB r (tCons (tK g F W f) tNil) σ H Q := tUn_un (r := fun x H Q => r [x] H Q) hr h
theorem de_b1 {x : Str} {id : String} {r : List V → Hp → VK → Prop} {gg : Dt → Option Dt} (hc : CallR X (.builtin id) r) (hr : UnD X.K (fun x H Q => r [x] H Q) gg) (hg : Gl X x) (hm : X.mg x = none) (hv : bootBuiltins x = some (.builtin id)) (ha : DK X W e f1)
    (hn : x ≠ "__name__" := by decide) (hdb : (x == ("__debug__" : Str)) = false := by decide) (he : starEach (e :: []) X.env = (false, eval e X.env) :: starEach [] X.env := by rfl) (hpl : (backTo pos (starEach [] X.env)).any (·.1) = false := by rfl) :
    DE X W (.Call (.Name x p) [e] [] pos) (un gg f1) := fun F => PE.wk (pe_callB hc hg hm hv (pa_cons (ha F) pa_nil he) hn hdb he hpl) fun _ _ _ h => tCB1_of hr h
theorem de_t1 {x : Str} {T : String} {r : List V → Hp → VK → Prop} {gg : Dt → Option Dt} (hc : CallR X (.type T) r) (hr : UnD X.K (fun x H Q => r [x] H Q) gg) (hg : Gl X x) (hm : X.mg x = none) (hv : bootBuiltins x = some (.type T)) (ha : DK X W e f1)
    (hn : x ≠ "__name__" := by decide) (hdb : (x == ("__debug__" : Str)) = false := by decide) (he : starEach (e :: []) X.env = (false, eval e X.env) :: starEach [] X.env := by rfl) (hpl : (backTo pos (starEach [] X.env)).any (·.1) = false := by rfl) :
    DE X W (.Call (.Name x p) [e] [] pos) (un gg f1) := fun F => PE.wk (pe_callTy hc hg hm hv (pa_cons (ha F) pa_nil he) hn hdb he hpl) fun _ _ _ h => tCB1_of hr h
def lenD : Dt → Option Dt
  | .lst xs => some (.int xs.length)
  | .tup xs => some (.int xs.length)
  | .scr xs => some (.int xs.length)
  | .str z => if z.length ≤ 1000000 then some (.int z.length) else none
  | .dct kvs => some (.int kvs.length)
  | _ => none
def rLenA (K : PySem.W.Frag) : List V → Hp → VK → Prop := fun xs H Q => (∃ p ys, xs = [.ref p] ∧ (SqL K H p ys ∨ SqT K H p ys) ∧ Q (.int ys.length) H) ∨ (∃ z, xs = [.str z] ∧ z.length ≤ sizeLine ∧ Q (.int z.length) H) ∨ ∃ p kvs, xs = [.ref p] ∧ H p = some (.dK kvs) ∧ Q (.int kvs.length) H
theorem callr_len : CallR X (.builtin "len") (rLenA X.K) := callr_or call_len_seq (callr_or call_len_str (by
  intro pins s σ H xs us Q I r h
  obtain ⟨a, kvs, rfl, hd, q⟩ := h
  cases r with
  | cons r1 r2 =>
    cases r2
    cases r1
    exact d_len I (.inl hd) fun t s' I' => ⟨.int _, H, I', ⟨_, rfl⟩, q⟩))
theorem und_len (K : PySem.W.Frag) : UnD K (fun x H Q => rLenA K [x] H Q) lenD := by
  intro x d z H0 H s hx hg Q k
  unfold lenD at hg
  split at hg
  · cases hg
    obtain ⟨a, vs, rfl, h1, h2⟩ := hx
    exact .inl ⟨a, vs, rfl, .inl (SqL.of h1), by rw [h2.length]; exact sc s (.int _) k⟩
  · cases hg
    cases hx with
    | tup h1 h2 => exact .inl ⟨_, _, rfl, .inr (seqT_mono s h1), by rw [h2.length]; exact sc s (.int _) k⟩
  · cases hg
    cases hx with
    | scr h1 => exact .inl ⟨_, _, rfl, .inl (seqL_mono s h1), by rw [List.length_map]; exact sc s (.int _) k⟩
  · split at hg
    · rename_i hl
      cases hg
      cases hx
      exact .inr (.inl ⟨_, rfl, sizeM hl, sc s (.int _) k⟩)
    · cases hg
  · cases hg
    obtain ⟨a, ks, rfl, h1, h2⟩ := hx
    exact .inr (.inr ⟨a, ks, rfl, h1, by rw [h2.length]; exact sc s (.int _) k⟩)
  · cases hg
theorem de_len (hg : Gl X "len") (hm : X.mg "len" = none) (ha : DK X W e f1) (he : starEach (e :: []) X.env = (false, eval e X.env) :: starEach [] X.env := by rfl) : DE X W (.Call (.Name "len" p) [e] [] pos) (un lenD f1) := de_b1 callr_len (und_len _) hg hm PySem.boot_len ha (he := he)
/-- the ints of a list -/
def intsOf : List Dt → Option (List Int)
  | [] => some []
  | .int i :: ds => (intsOf ds).map (i :: ·)
  | _ :: _ => none
theorem intsOf_eq : ∀ {ds : List Dt} {ns : List Int}, intsOf ds = some ns → ds = ns.map .int
  | [], _, h => by cases h; rfl
  | .int i :: ds, ns, h => by
    obtain ⟨ms, h1, rfl⟩ := Option.map_eq_some_iff.mp h
    rw [intsOf_eq h1]
    rfl
  | .non :: _, _, h => by cases h
  | .bl _ :: _, _, h => by cases h
  | .str _ :: _, _, h => by cases h
  | .lst _ :: _, _, h => by cases h
  | .tup _ :: _, _, h => by cases h
  | .dct _ :: _, _, h => by cases h
  | .scr _ :: _, _, h => by cases h
theorem intsOf_map : ∀ ns : List Int, intsOf (ns.map .int) = some ns
  | [] => rfl
  | n :: ns => by
    show (intsOf (ns.map .int)).map (n :: ·) = _
    rw [intsOf_map ns]
    rfl
def sumD : Dt → Option Dt
  | .lst ds => (intsOf ds).map fun ns => .int ns.sum
  | _ => none
theorem und_sum (K : PySem.W.Frag) : UnD K (fun x H Q => rSum K [x] H Q) sumD := by
  intro x d z H0 H s hx hg Q k
  unfold sumD at hg
  split at hg
  · obtain ⟨ns, h, rfl⟩ := Option.map_eq_some_iff.mp hg
    obtain ⟨a, vs, rfl, h1, h2⟩ := hx
    rw [intsOf_eq h] at h2
    rw [h2.ints] at h1
    exact ⟨a, ns, rfl, SqL.of h1, sc s (.int _) k⟩
  · cases hg
theorem de_sum (hc : X.calm = true) (hg : Gl X "sum") (hm : X.mg "sum" = none) (ha : DK X W e f1) (he : starEach (e :: []) X.env = (false, eval e X.env) :: starEach [] X.env := by rfl) : DE X W (.Call (.Name "sum" p) [e] [] pos) (un sumD f1) :=
  de_b1 (cr_sum hc) (und_sum _) hg hm (by decide +kernel) ha (he := he)
/-- the greatest, the least -/
def maxL : Int → List Int → Int
  | m, [] => m
  | m, n :: ns => maxL (if m < n then n else m) ns
def minL : Int → List Int → Int
  | m, [] => m
  | m, n :: ns => minL (if n < m then n else m) ns
theorem maxL_spec : ∀ (ns : List Int) (m : Int), (maxL m ns = m ∨ maxL m ns ∈ ns) ∧ m ≤ maxL m ns ∧ ∀ y ∈ ns, y ≤ maxL m ns
  | [], m => ⟨.inl rfl, Int.le_refl _, fun _ h => nomatch h⟩
  | n :: ns, m => by
    obtain ⟨h1, h2, h3⟩ := maxL_spec ns (if m < n then n else m)
    show (maxL (if m < n then n else m) ns = m ∨ maxL (if m < n then n else m) ns ∈ n :: ns) ∧ m ≤ maxL (if m < n then n else m) ns ∧ ∀ y ∈ n :: ns, y ≤ maxL (if m < n then n else m) ns
    refine ⟨?_, ?_, fun y hy => ?_⟩
    · rcases h1 with h | h
      · rw [h]
        split
        · exact .inr List.mem_cons_self
        · exact .inl rfl
      · exact .inr (List.mem_cons_of_mem _ h)
    · exact Int.le_trans (by split <;> omega) h2
    · rcases List.mem_cons.mp hy with rfl | hy
      · exact Int.le_trans (by split <;> omega) h2
      · exact h3 y hy
theorem minL_spec : ∀ (ns : List Int) (m : Int), (minL m ns = m ∨ minL m ns ∈ ns) ∧ minL m ns ≤ m ∧ ∀ y ∈ ns, minL m ns ≤ y
  | [], m => ⟨.inl rfl, Int.le_refl _, fun _ h => nomatch h⟩
  | n :: ns, m => by
    obtain ⟨h1, h2, h3⟩ := minL_spec ns (if n < m then n else m)
    show (minL (if n < m then n else m) ns = m ∨ minL (if n < m then n else m) ns ∈ n :: ns) ∧ minL (if n < m then n else m) ns ≤ m ∧ ∀ y ∈ n :: ns, minL (if n < m then n else m) ns ≤ y
    refine ⟨?_, ?_, fun y hy => ?_⟩
    · rcases h1 with h | h
      · rw [h]
        split
        · exact .inr List.mem_cons_self
        · exact .inl rfl
      · exact .inr (List.mem_cons_of_mem _ h)
    · exact Int.le_trans h2 (by split <;> omega)
    · rcases List.mem_cons.mp hy with rfl | hy
      · exact Int.le_trans h2 (by split <;> omega)
      · exact h3 y hy
def maxD : Dt → Option Dt
  | .lst ds => (intsOf ds).bind fun ns => match ns with
    | [] => none
    | n :: ns => some (.int (maxL n ns))
  | _ => none
def minD : Dt → Option Dt
  | .lst ds => (intsOf ds).bind fun ns => match ns with
    | [] => none
    | n :: ns => some (.int (minL n ns))
  | _ => none
theorem und_max (K : PySem.W.Frag) : UnD K (fun x H Q => rMax K [x] H Q) maxD := by
  intro x d z H0 H s hx hg Q k
  unfold maxD at hg
  split at hg
  · obtain ⟨ns, h, hg⟩ := Option.bind_eq_some_iff.mp hg
    obtain ⟨a, vs, rfl, h1, h2⟩ := hx
    rw [intsOf_eq h] at h2
    rw [h2.ints] at h1
    cases ns with
    | nil => cases hg
    | cons n ns =>
      cases hg
      refine ⟨a, n :: ns, rfl, SqL.of h1, Nat.succ_pos _, fun m hm hl => ?_⟩
      obtain ⟨q1, q2, q3⟩ := maxL_spec ns n
      have e : m = maxL n ns := by
        have l1 : m ≤ maxL n ns := by
          rcases List.mem_cons.mp hm with rfl | hm
          · exact q2
          · exact q3 m hm
        have l2 : maxL n ns ≤ m := hl _ (by
          rcases q1 with q | q
          · rw [q]; exact List.mem_cons_self
          · exact List.mem_cons_of_mem _ q)
        omega
      rw [e]
      exact sc s (.int _) k
  · cases hg
theorem und_min (K : PySem.W.Frag) : UnD K (fun x H Q => rMin K [x] H Q) minD := by
  intro x d z H0 H s hx hg Q k
  unfold minD at hg
  split at hg
  · obtain ⟨ns, h, hg⟩ := Option.bind_eq_some_iff.mp hg
    obtain ⟨a, vs, rfl, h1, h2⟩ := hx
    rw [intsOf_eq h] at h2
    rw [h2.ints] at h1
    cases ns with
    | nil => cases hg
    | cons n ns =>
      cases hg
      refine ⟨a, n :: ns, rfl, SqL.of h1, Nat.succ_pos _, fun m hm hl => ?_⟩
      obtain ⟨q1, q2, q3⟩ := minL_spec ns n
      have e : m = minL n ns := by
        have l1 : minL n ns ≤ m := by
          rcases List.mem_cons.mp hm with rfl | hm
          · exact q2
          · exact q3 m hm
        have l2 : m ≤ minL n ns := hl _ (by
          rcases q1 with q | q
          · rw [q]; exact List.mem_cons_self
          · exact List.mem_cons_of_mem _ q)
        omega
      rw [e]
      exact sc s (.int _) k
  · cases hg
theorem de_max (hc : X.calm = true) (hg : Gl X "max") (hm : X.mg "max" = none) (ha : DK X W e f1) (he : starEach (e :: []) X.env = (false, eval e X.env) :: starEach [] X.env := by rfl) : DE X W (.Call (.Name "max" p) [e] [] pos) (un maxD f1) :=
  de_b1 (cr_max hc) (und_max _) hg hm (by decide +kernel) ha (he := he)
theorem de_min (hc : X.calm = true) (hg : Gl X "min") (hm : X.mg "min" = none) (ha : DK X W e f1) (he : starEach (e :: []) X.env = (false, eval e X.env) :: starEach [] X.env := by rfl) : DE X W (.Call (.Name "min" p) [e] [] pos) (un minD f1) :=
  de_b1 (cr_min hc) (und_min _) hg hm (by decide +kernel) ha (he := he)
def blsOf : List Dt → Option (List Bool)
  | [] => some []
  | .bl i :: ds => (blsOf ds).map (i :: ·)
  | _ :: _ => none
theorem blsOf_eq : ∀ {ds : List Dt} {ns : List Bool}, blsOf ds = some ns → ds = ns.map .bl
  | [], _, h => by cases h; rfl
  | .bl i :: ds, ns, h => by
    obtain ⟨ms, h1, rfl⟩ := Option.map_eq_some_iff.mp h
    rw [blsOf_eq h1]
    rfl
  | .non :: _, _, h => by cases h
  | .int _ :: _, _, h => by cases h
  | .str _ :: _, _, h => by cases h
  | .lst _ :: _, _, h => by cases h
  | .tup _ :: _, _, h => by cases h
  | .dct _ :: _, _, h => by cases h
  | .scr _ :: _, _, h => by cases h
theorem blsOf_map : ∀ ns : List Bool, blsOf (ns.map .bl) = some ns
  | [] => rfl
  | n :: ns => by
    show (blsOf (ns.map .bl)).map (n :: ·) = _
    rw [blsOf_map ns]
    rfl
def allD : Dt → Option Dt
  | .lst ds => (blsOf ds).map fun bs => .bl (bs.all id)
  | _ => none
theorem und_all (K : PySem.W.Frag) : UnD K (fun x H Q => rAll K [x] H Q) allD := by
  intro x d z H0 H s hx hg Q k
  unfold allD at hg
  split at hg
  · obtain ⟨ns, h, rfl⟩ := Option.map_eq_some_iff.mp hg
    obtain ⟨a, vs, rfl, h1, h2⟩ := hx
    rw [blsOf_eq h] at h2
    rw [h2.bls] at h1
    exact ⟨a, ns, rfl, SqL.of h1, sc s (.bl _) k⟩
  · cases hg
theorem de_all (hc : X.calm = true) (hg : Gl X "all") (hm : X.mg "all" = none) (ha : DK X W e f1) (he : starEach (e :: []) X.env = (false, eval e X.env) :: starEach [] X.env := by rfl) : DE X W (.Call (.Name "all" p) [e] [] pos) (un allD f1) :=
  de_b1 (cr_all hc) (und_all _) hg hm (by decide +kernel) ha (he := he)
/-! ### tuple(x), list(x), int(x) -/
def tupleD : Dt → Option Dt
  | .lst ds => some (.tup ds)
  | .tup ds => some (.tup ds)
  | .scr ns => some (.tup (ns.map .int))
  | _ => none
theorem und_tuple : UnD X.K (fun x H Q => ∃ p ys, [x] = [V.ref p] ∧ ((SqL X.K H p ys ∧ ∀ l, H l = none → Q (.ref l) (upd H l (.tup ys))) ∨ (SqT X.K H p ys ∧ Q (.ref p) H))) tupleD := by
  intro x d z H0 H s hx hg Q k
  unfold tupleD at hg
  split at hg
  · cases hg
    obtain ⟨a, vs, rfl, h1, h2⟩ := hx
    exact ⟨a, vs, rfl, .inl ⟨SqL.of h1, al_tup s h2 k⟩⟩
  · cases hg
    cases hx with
    | tup h1 h2 => exact ⟨_, _, rfl, .inr ⟨seqT_mono s h1, sc s (.tup h1 h2) k⟩⟩
  · cases hg
    cases hx with
    | scr h1 => exact ⟨_, _, rfl, .inl ⟨seqL_mono s h1, al_tup s (daInts _) k⟩⟩
  · cases hg
theorem de_tuple (hg : Gl X "tuple") (hm : X.mg "tuple" = none) (ha : DK X W e f1) (he : starEach (e :: []) X.env = (false, eval e X.env) :: starEach [] X.env := by rfl) : DE X W (.Call (.Name "tuple" p) [e] [] pos) (un tupleD f1) :=
  de_t1 call_tuple_of und_tuple hg hm (by decide +kernel) ha (he := he)
def listD : Dt → Option Dt
  | .lst ds => some (.lst ds)
  | .tup ds => some (.lst ds)
  | .scr ns => some (.lst (ns.map .int))
  | _ => none
theorem und_list : UnD X.K (fun x H Q => ∃ p ys, [x] = [V.ref p] ∧ (SqL X.K H p ys ∨ SqT X.K H p ys) ∧ ∀ l, H l = none → Q (.ref l) (upd H l (.lst ys))) listD := by
  intro x d z H0 H s hx hg Q k
  unfold listD at hg
  split at hg
  · cases hg
    obtain ⟨a, vs, rfl, h1, h2⟩ := hx
    exact ⟨a, vs, rfl, .inl (SqL.of h1), al_lst s h2 k⟩
  · cases hg
    cases hx with
    | tup h1 h2 => exact ⟨_, _, rfl, .inr (seqT_mono s h1), al_lst s h2 k⟩
  · cases hg
    cases hx with
    | scr h1 => exact ⟨_, _, rfl, .inl (seqL_mono s h1), al_lst s (daInts _) k⟩
  · cases hg
theorem de_list (hg : Gl X "list") (hm : X.mg "list" = none) (ha : DK X W e f1) (he : starEach (e :: []) X.env = (false, eval e X.env) :: starEach [] X.env := by rfl) : DE X W (.Call (.Name "list" p) [e] [] pos) (un listD f1) :=
  de_t1 call_list_of und_list hg hm (by decide +kernel) ha (he := he)
def intD : Dt → Option Dt
  | .int i => some (.int i)
  | .bl b => some (.int (if b then 1 else 0))
  | _ => none
theorem und_int (K : PySem.W.Frag) : UnD K (fun x H Q => (∃ i, [x] = [V.int i] ∧ Q (.int i) H) ∨ ∃ k, [x] = [V.bl k] ∧ Q (.int (if k then 1 else 0)) H) intD := by
  intro x d z H0 H s hx hg Q k
  unfold intD at hg
  split at hg
  · cases hg
    cases hx
    exact .inl ⟨_, rfl, sc s (.int _) k⟩
  · cases hg
    cases hx
    exact .inr ⟨_, rfl, sc s (.int _) k⟩
  · cases hg
theorem de_toint (hg : Gl X "int") (hm : X.mg "int" = none) (ha : DK X W e f1) (he : starEach (e :: []) X.env = (false, eval e X.env) :: starEach [] X.env := by rfl) : DE X W (.Call (.Name "int" p) [e] [] pos) (un intD f1) :=
  de_t1 call_int1 (und_int _) hg hm (by decide +kernel) ha (he := he)
end
end DW

set_option Elab.async false
set_option linter.all false
set_option maxRecDepth 100000
set_option maxHeartbeats 4000000
/-! DW7: isinstance, calls of defs, statements, a def's promise -/
namespace DW
open PySem PySem.Spec PyProof.Rows L2

/-! ### isinstance -/
inductive Ty where
  | int | bool | tuple | str | list | dict | none
  deriving DecidableEq
def Ty.nm : Ty → String
  | .int => "int" | .bool => "bool" | .tuple => "tuple" | .str => "str" | .list => "list" | .dict => "dict" | .none => "NoneType"
def tyD : Dt → Ty
  | .non => .none
  | .bl _ => .bool
  | .int _ => .int
  | .str _ => .str
  | .lst _ => .list
  | .tup _ => .tuple
  | .dct _ => .dict
  | .scr _ => .list
  | .xo _ _ _ => .none
  | .fn _ => .none
def isiT : Ty → Ty → Bool
  | .int, .int => true | .int, .bool => true | .bool, .bool => true | .tuple, .tuple => true | .str, .str => true | .list, .list => true | .dict, .dict => true | .none, .none => true
  | _, _ => false
theorem kit_T (T t : Ty) (h : T ≠ .none) : kitB t.nm T.nm = some (isiT T t) := by
  cases T <;> cases t <;> first | exact absurd rfl h | decide +kernel
def isiD (T : Ty) (d : Dt) : Option Dt := match d with
  | .xo _ _ _ => none
  | .fn _ => none
  | d => some (.bl (isiT T (tyD d)))
theorem isiD_some {T : Ty} {d z : Dt} (h : isiD T d = some z) : z = .bl (isiT T (tyD d)) ∧ (∀ c f v, d ≠ .xo c f v) ∧ ∀ i, d ≠ .fn i := by
  cases d with
  | xo _ _ _ => cases h
  | fn _ => cases h
  | _ => cases h; exact ⟨rfl, (fun _ _ _ z => by cases z), fun _ z => by cases z⟩
theorem tyX_of {K : PySem.W.Frag} {H0 H : Hp} {v : V} {d : Dt} (s : Same H0 H) (h : Pk K H0 H v d) (hx : (∀ c f v, d ≠ .xo c f v) ∧ ∀ i, d ≠ .fn i) : TyX K H v (.type (tyD d).nm) := by
  cases d with
  | xo c f v => exact absurd rfl (hx.1 c f v)
  | fn i => exact absurd rfl (hx.2 i)
  | non => cases h; exact .base .non
  | bl b => cases h; exact .base (.bl b)
  | int b => cases h; exact .base (.int b)
  | str b => cases h; exact .base (.str b)
  | lst ds =>
    obtain ⟨a, vs, rfl, h1, _⟩ := h
    exact .base (.lst h1)
  | dct ds =>
    obtain ⟨a, vs, rfl, h1, _⟩ := h
    exact .base (.dK h1)
  | tup ds =>
    cases h with
    | tup h1 h2 =>
      rcases seqT_mono s h1 with (h | ⟨o, h⟩) | ⟨o, its, n, h, c, _⟩
      · exact .base (.tup h)
      · exact .fTuple h
      · exact .kTuple h c
  | scr ds =>
    cases h with
    | scr h1 =>
      rcases seqL_mono s h1 with (h | ⟨o, h⟩) | ⟨o, its, n, h, c, _⟩
      · exact .base (.lst h)
      · exact .base (.frz h)
      · exact .kList h c
section
variable {X : Cx} {W : WX} {a b c e : Expr} {es : List Expr} {pos p p2 : Pos} {f1 f2 f3 : Rho → R Dt}
theorem de_isi (T : Ty) {x : Str} (hT : T ≠ .none) (hg : Gl X "isinstance") (hm : X.mg "isinstance" = none) (hgT : Gl X x) (hmT : X.mg x = none) (hvT : bootBuiltins x = some (.type T.nm)) (ha : DK X W e f1) (hnx : x ≠ "__name__" := by decide) (hdx : (x == ("__debug__" : Str)) = false := by decide)
    (he : starEach (e :: [.Name x p2]) X.env = (false, eval e X.env) :: starEach [.Name x p2] X.env := by rfl) (hpl : (backTo pos (starEach [.Name x p2] X.env)).any (·.1) = false := by rfl) (he2 : starEach (.Name x p2 :: []) X.env = (false, eval (.Name x p2) X.env) :: starEach [] X.env := by rfl) :
    DE X W (.Call (.Name "isinstance" p) [e, .Name x p2] [] pos) (un (isiD T) f1) := fun F =>
  PE.wk (pe_callB call_isi hg hm (by decide +kernel) (pa_cons (ha F) (pa_cons (pe_bltn (v := .ty T.nm) hgT hmT hvT rfl hnx hdx) pa_nil he2) he) (he := he) (hpl := hpl)) fun σ H Q h =>
    tUn_un (r := fun x H Q => rIsi X.K [x, .ty T.nm] H Q) (fun x d z H0 H s hx hg Q k => by
      obtain ⟨rfl, hn⟩ := isiD_some hg
      exact ⟨x, .ty T.nm, _, _, _, rfl, .ty _, tyX_of s hx hn, kit_ty (kit_T T (tyD d) hT), sc s (.bl _) k⟩) h

/-! ### a def's promise -/
inductive FR where
  | ok (s : Sl) | ex (e : Xc) | bad
abbrev Fn := List Dt → FR
def envOf (n : Nat) (ds : List Dt) : Rho := ds.map (fun d => some (.fr d)) ++ List.replicate (n - ds.length) none
def runF (np nn : Nat) (body : Rho → SR) : Fn := fun ds => if ds.length = np then match body (envOf nn ds) with
  | .rt s _ => .ok s
  | .nx _ => .ok (.fr .non)
  | .ex e _ => .ex e
  | _ => .bad
  else .bad
def spF (g : Gx) (fn : Fn) : Sp := fun vs H Q _ => ∃ H0 ds, Same H0 H ∧ TbOk g.K H0 H ∧ DaAll g.K H0 vs ds ∧ match fn ds with
  | .ok s => ∀ v H0' H', Gw ⟨H0, H, none, false⟩ H0' H' → TbOk g.K H0' H' → Same H0' H' → SlR g.K ⟨H0, H, none, false⟩ H0' H' v s → Q v H'
  | _ => False
abbrev WF : WX := fun _ _ _ _ => False
/-- a def with a dict handed in that it may change -/
inductive FM where
  | ok (s : Sl) (kvs : List (Key × Dt)) | ex (e : Xc) | bad
abbrev FnM := List (Key × Dt) → List Dt → FM
def envM (n : Nat) (kvs : List (Key × Dt)) (ds : List Dt) : Rho := some (.io kvs) :: (ds.map (fun d => some (.fr d)) ++ List.replicate (n - (ds.length + 1)) none)
def ioOf (ρ : Rho) : Option (List (Key × Dt)) := match ρ with
  | some (.io kvs) :: _ => some kvs
  | _ => none
def runM (np nn : Nat) (body : Rho → SR) : FnM := fun kvs ds => if ds.length + 1 = np then match body (envM nn kvs ds) with
  | .rt s ρ => match ioOf ρ with
    | some kvs' => .ok s kvs'
    | none => .bad
  | .nx ρ => match ioOf ρ with
    | some kvs' => .ok (.fr .non) kvs'
    | none => .bad
  | .ex e _ => .ex e
  | _ => .bad
  else .bad
def spM (g : Gx) (fn : FnM) : Sp := fun vs H Q _ => ∃ H0 a ks kvs vs' ds, vs = .ref a :: vs' ∧ Same H0 H ∧ TbOk g.K H0 H ∧ H0 a = none ∧ H a = some (.dK ks) ∧ DaKv g.K H0 ks kvs ∧ DaAll g.K H0 vs' ds ∧ match fn kvs ds with
  | .ok s kvs' => ∀ v ks' H0' H', Gw ⟨H0, H, some a, false⟩ H0' H' → TbOk g.K H0' H' → Same H0' H' → H' a = some (.dK ks') → DaKv g.K H0' ks' kvs' → SlR g.K ⟨H0, H, some a, false⟩ H0' H' v s → Q v H'
  | _ => False

theorem envOf_get {n : Nat} {ds : List Dt} {i : Nat} {s : Sl} (h : (envOf n ds)[i]? = some (some s)) : ∃ d, s = .fr d ∧ ds[i]? = some d := by
  unfold envOf at h
  by_cases hi : i < ds.length
  · rw [List.getElem?_append_left (by simpa using hi), List.getElem?_map] at h
    cases e : ds[i]? with
    | none => rw [e] at h; cases h
    | some d =>
      rw [e] at h
      cases h
      exact ⟨d, rfl, rfl⟩
  · rw [List.getElem?_append_right (by simpa using Nat.le_of_not_lt hi)] at h
    obtain ⟨h1, h2⟩ := List.getElem?_eq_some_iff.mp h
    rw [List.getElem_replicate] at h2
    cases h2
theorem start_get {N : List Str} {vs : List V} {i : Nat} {v : V} (h : vs[i]? = some v) : (L2.start N vs)[i]? = some (some v) := by
  unfold L2.start
  have hi := lt_of_get h
  rw [List.getElem?_append_left (by simpa using hi), List.getElem?_map, h]
  rfl
theorem en_start {K : PySem.W.Frag} {H0 H : Hp} {N : List Str} {vs : List V} {ds : List Dt} (s : Same H0 H) (t : TbOk K H0 H) (h : DaAll K H0 vs ds) (hl : ds.length ≤ N.length) : En K ⟨H0, H, none, false⟩ H0 H (L2.start N vs) (envOf N.length ds) where
  gr := Gw.refl H0 H none
  tb := t
  ex := s
  len := by
    unfold L2.start envOf
    simp only [List.length_append, List.length_map, List.length_replicate, h.length]
  sl := fun i s hs => by
    obtain ⟨d, rfl, hd⟩ := envOf_get hs
    obtain ⟨v, h1, h2⟩ := h.get hd
    exact ⟨v, start_get h1, h2⟩
  sep := fun i j s t a _ h1 _ o1 _ _ => by
    obtain ⟨d, rfl, _⟩ := envOf_get h1
    cases o1
  io := fun a z => nomatch z
  io1 := fun i kvs h => by
    obtain ⟨d, z, _⟩ := envOf_get h
    cases z
  st1 := fun i S h => by
    obtain ⟨d, z, _⟩ := envOf_get h
    cases z
theorem envM_get {n : Nat} {kvs : List (Key × Dt)} {ds : List Dt} {i : Nat} {s : Sl} (h : (envM n kvs ds)[i]? = some (some s)) : (i = 0 ∧ s = .io kvs) ∨ ∃ j d, i = j + 1 ∧ s = .fr d ∧ ds[j]? = some d := by
  cases i with
  | zero =>
    simp [envM] at h
    exact .inl ⟨rfl, h.symm⟩
  | succ j =>
    refine .inr ⟨j, ?_⟩
    have h' : (ds.map (fun d => some (Sl.fr d)) ++ List.replicate (n - (ds.length + 1)) none)[j]? = some (some s) := by simpa [envM] using h
    by_cases hi : j < ds.length
    · rw [List.getElem?_append_left (by simpa using hi), List.getElem?_map] at h'
      cases e : ds[j]? with
      | none => rw [e] at h'; cases h'
      | some d =>
        rw [e] at h'
        cases h'
        exact ⟨d, rfl, rfl, rfl⟩
    · rw [List.getElem?_append_right (by simpa using Nat.le_of_not_lt hi)] at h'
      obtain ⟨h1, h2⟩ := List.getElem?_eq_some_iff.mp h'
      rw [List.getElem_replicate] at h2
      cases h2
theorem en_startM {K : PySem.W.Frag} {H0 H : Hp} {N : List Str} {a : Addr} {ks : List (Key × V)} {kvs : List (Key × Dt)} {vs : List V} {ds : List Dt} (s : Same H0 H) (t : TbOk K H0 H) (h0 : H0 a = none) (ha : H a = some (.dK ks)) (hk : DaKv K H0 ks kvs) (h : DaAll K H0 vs ds) (hl : ds.length + 1 ≤ N.length) :
    En K ⟨H0, H, some a, false⟩ H0 H (L2.start N (.ref a :: vs)) (envM N.length kvs ds) where
  gr := Gw.refl H0 H (some a)
  tb := t
  ex := s
  len := by
    unfold L2.start envM
    simp only [List.length_append, List.length_map, List.length_replicate, List.length_cons, h.length]
    omega
  sl := fun i s hs => by
    rcases envM_get hs with ⟨rfl, rfl⟩ | ⟨j, d, rfl, rfl, hd⟩
    · exact ⟨.ref a, start_get rfl, a, ks, rfl, h0, rfl, ha, hk⟩
    · obtain ⟨v, h1, h2⟩ := h.get hd
      exact ⟨v, start_get (by simpa using h1), h2⟩
  sep := fun i j s t b hij h1 _ o1 _ _ => by
    rcases envM_get h1 with ⟨_, rfl⟩ | ⟨_, d, _, rfl, _⟩ <;> cases o1
  io := fun b z => by
    cases z
    refine ⟨start_get rfl, ⟨kvs, rfl⟩, ?_⟩
    show H a ≠ none
    rw [ha]
    exact fun z => nomatch z
  io1 := fun i kvs' h => by
    rcases envM_get h with ⟨rfl, _⟩ | ⟨j, d, _, z, _⟩
    · rfl
    · cases z
  st1 := fun i S h => by
    rcases envM_get h with ⟨_, z⟩ | ⟨j, d, _, z, _⟩ <;> cases z
end
section
variable {P : Program} {w : World} {K : PySem.W.Frag} {mg : Str → Option Value} {base : Heap}
/-- THE RULE for a def that raises nothing -/
theorem fn0 {x qual : Str} {st : Stmt} {f : Addr} {fd : FuncData} {N ps : List Str} {k : Nat} {body : Rho → SR} (F : Fun K x qual st f fd) (S : FnScope N ps (defScope st)) (hN : ps.length ≤ N.length)
    (hb : ∀ (cdv : Value) (A : Around) (outer : List Env) (s : Shared) (H : Hp) (E : XK), Room k (A.deeper (envOfC qual (defScope st) s.heap.objs.size f cdv)) → DSs (cxOf CX0 P w K mg base N qual (defScope st) f cdv A outer s H E).nox WF (defBody st) body) :
    FnOk P w K mg base CX0 (k + 1) f fd ps (spF ⟨K, mg⟩ (runF ps.length N.length body)) := by
  have lem : ∀ ds : List Dt, (∃ s, runF ps.length N.length body ds = .ok s) → ds.length = ps.length := fun ds ⟨s, h⟩ => by
    unfold runF at h
    split at h
    · assumption
    · cases h
  refine F.ok S (fun vs H Q E h => ?_) (fun cdv A outer s H vs Q E hr h => ?_)
  · obtain ⟨H0, ds, h1, tb, h2, h3⟩ := h
    cases e : runF ps.length N.length body ds with
    | ok s => rw [h2.length]; exact lem ds ⟨s, e⟩
    | ex _ => rw [e] at h3; exact h3.elim
    | bad => rw [e] at h3; exact h3.elim
  · obtain ⟨H0, ds, h1, tb, h2, h3⟩ := h
    have hl : ds.length = ps.length := by
      cases e : runF ps.length N.length body ds with
      | ok s => exact lem ds ⟨s, e⟩
      | ex _ => rw [e] at h3; exact h3.elim
      | bad => rw [e] at h3; exact h3.elim
    refine ⟨_, hb cdv A outer s H E hr ⟨H0, H, none, false⟩, H0, envOf N.length ds, en_start h1 tb h2 (by omega), ?_⟩
    unfold runF at h3
    rw [if_pos hl] at h3
    cases e : body (envOf N.length ds) with
    | nx ρ' =>
      rw [e] at h3
      exact fun σ' H0' H' E' _ => h3 _ H0' H' E'.gr E'.tb E'.ex (Da.non : Da K H0' .non .non)
    | rt s ρ' =>
      rw [e] at h3
      exact fun v σ' H0' H' E' hs => h3 _ H0' H' E'.gr E'.tb E'.ex hs
    | bk _ => rw [e] at h3; exact h3.elim
    | ct _ => rw [e] at h3; exact h3.elim
    | ex _ _ => rw [e] at h3; exact h3.elim
    | bad => rw [e] at h3; exact h3.elim
theorem fnM {x qual : Str} {st : Stmt} {f : Addr} {fd : FuncData} {N ps : List Str} {k : Nat} {body : Rho → SR} (F : Fun K x qual st f fd) (S : FnScope N ps (defScope st)) (hN : ps.length ≤ N.length)
    (hb : ∀ (cdv : Value) (A : Around) (outer : List Env) (s : Shared) (H : Hp) (E : XK), Room k (A.deeper (envOfC qual (defScope st) s.heap.objs.size f cdv)) → DSs (cxOf CX0 P w K mg base N qual (defScope st) f cdv A outer s H E).nox WF (defBody st) body) :
    FnOk P w K mg base CX0 (k + 1) f fd ps (spM ⟨K, mg⟩ (runM ps.length N.length body)) := by
  have lem : ∀ kvs (ds : List Dt), (∃ s kvs', runM ps.length N.length body kvs ds = .ok s kvs') → ds.length + 1 = ps.length := fun kvs ds ⟨s, kvs', h⟩ => by
    unfold runM at h
    split at h
    · assumption
    · cases h
  have lem2 : ∀ {Q : VK} {E : XK} {vs : List V} {H : Hp}, spM ⟨K, mg⟩ (runM ps.length N.length body) vs H Q E → vs.length = ps.length := fun {Q E vs H} h => by
    obtain ⟨H0, a, ks, kvs, vs', ds, rfl, h1, tb, h2, h3, h4, h5, h6⟩ := h
    cases e : runM ps.length N.length body kvs ds with
    | ok s kvs' => rw [List.length_cons, h5.length]; exact lem kvs ds ⟨s, kvs', e⟩
    | ex _ => rw [e] at h6; exact h6.elim
    | bad => rw [e] at h6; exact h6.elim
  refine F.ok S (fun vs H Q E h => lem2 h) (fun cdv A outer s H vs Q E hr h => ?_)
  have hvl := lem2 h
  obtain ⟨H0, a, ks, kvs, vs', ds, rfl, h1, tb, h2, h3, h4, h5, h6⟩ := h
  have hl : ds.length + 1 = ps.length := by rw [List.length_cons, h5.length] at hvl; exact hvl
  refine ⟨_, hb cdv A outer s H E hr ⟨H0, H, some a, false⟩, H0, envM N.length kvs ds, en_startM h1 tb h2 h3 h4 h5 (by omega), ?_⟩
  unfold runM at h6
  rw [if_pos hl] at h6
  have atIo : ∀ {σ' : L2.St} {ρ' : Rho} {H0' H' : Hp} {kvs' : List (Key × Dt)}, En K ⟨H0, H, some a, false⟩ H0' H' σ' ρ' → ioOf ρ' = some kvs' → ∃ ks', H' a = some (.dK ks') ∧ DaKv K H0' ks' kvs' := fun {σ' ρ' H0' H' kvs'} E' hio => by
    obtain ⟨y1, ⟨kv, y2⟩, _⟩ := E'.io a rfl
    obtain ⟨v, z1, b, ks2, rfl, z2, z3, z4, z5⟩ := E'.sl 0 _ y2
    rw [y1] at z1
    cases z1
    refine ⟨ks2, z4, ?_⟩
    cases ρ' with
    | nil => cases y2
    | cons x r =>
      have hx : x = some (.io kv) := by simpa using y2
      subst hx
      have : kv = kvs' := by simpa [ioOf] using hio
      subst this
      exact z5
  cases e : body (envM N.length kvs ds) with
  | nx ρ' =>
    rw [e] at h6
    intro σ' H0' H' E' _
    cases e2 : ioOf ρ' with
    | none => dsimp only at h6; rw [e2] at h6; exact h6.elim
    | some kvs' =>
      dsimp only at h6
      rw [e2] at h6
      obtain ⟨ks', q1, q2⟩ := atIo E' e2
      exact h6 _ ks' H0' H' E'.gr E'.tb E'.ex q1 q2 (Da.non : Da K H0' .non .non)
  | rt s ρ' =>
    rw [e] at h6
    intro v σ' H0' H' E' hs
    cases e2 : ioOf ρ' with
    | none => dsimp only at h6; rw [e2] at h6; exact h6.elim
    | some kvs' =>
      dsimp only at h6
      rw [e2] at h6
      obtain ⟨ks', q1, q2⟩ := atIo E' e2
      exact h6 _ ks' H0' H' E'.gr E'.tb E'.ex q1 q2 hs
  | bk _ => rw [e] at h6; exact h6.elim
  | ct _ => rw [e] at h6; exact h6.elim
  | ex _ _ => rw [e] at h6; exact h6.elim
  | bad => rw [e] at h6; exact h6.elim
end

/-! ### calls of defs -/
def callF (fn : Fn) (fa : Rho → R (List Dt)) : Rho → R Dt := fun ρ => (fa ρ).bind fun ds ρ1 => match fn ds with
  | .ok (.fr d) => .ok d ρ1
  | _ => .bad
def callO (fn : Fn) (fa : Rho → R (List Dt)) : Rho → R Sl := fun ρ => (fa ρ).bind fun ds ρ1 => match fn ds with
  | .ok (.raw _ _) => .bad
  | .ok s => .ok s ρ1
  | _ => .bad
/-- the dict in a slot, what stands there when it has become another -/
def dAt (i : Nat) (ρ : Rho) : Option (List (Key × Dt)) := match (ρ[i]? : Option (Option Sl)) with
  | some (some (.od kvs)) => some kvs
  | some (some (.io kvs)) => some kvs
  | _ => none
def dPut (i : Nat) (kvs' : List (Key × Dt)) (ρ : Rho) : Rho := match (ρ[i]? : Option (Option Sl)) with
  | some (some (.od _)) => ρ.set i (some (.od kvs'))
  | some (some (.io _)) => ρ.set i (some (.io kvs'))
  | _ => ρ
def callM (fn : FnM) (i : Nat) (fa : Rho → R (List Dt)) : Rho → R Dt := fun ρ => match dAt i ρ with
  | none => .bad
  | some _ => (fa ρ).bind fun ds ρ1 => match dAt i ρ1 with
    | none => .bad
    | some kvs => match fn kvs ds with
      | .ok (.fr d) kvs' => .ok d (dPut i kvs' ρ1)
      | _ => .bad
section
variable {g : Gx} {F : Fm} {W : WX} {σ : L2.St} {H : Hp} {Q : VK}
theorem tCall_of {fn : Fn} {fa : Rho → R (List Dt)} {E : XK} (h : tD g F W (callF fn fa) σ H Q) : tCall (spF g fn) [] E (tDA g F W fa) σ H Q := by
  obtain ⟨H0, ρ, E, q⟩ := h
  refine ⟨H0, ρ, E, ?_⟩
  unfold callF at q
  cases e : fa ρ with
  | ok ds ρ1 =>
    rw [e] at q
    dsimp only [R.bind] at q
    intro vs H0' H' E' m hd
    rw [List.append_nil]
    refine ⟨H0', ds, E'.ex, E'.tb, hd, ?_⟩
    cases e2 : fn ds with
    | ok s =>
      rw [e2] at q
      cases s with
      | fr d =>
        intro v C0 C gr tt s2 hv
        obtain ⟨E3, m3⟩ := E'.postW m gr tt s2
        exact q v C0 C E3 m3 hv
      | _ => exact q.elim
    | ex _ => rw [e2] at q; exact q.elim
    | bad => rw [e2] at q; exact q.elim
  | ex x ρ1 =>
    rw [e] at q
    exact q
  | bad =>
    rw [e] at q
    exact q
theorem tCallO_of {fn : Fn} {fa : Rho → R (List Dt)} {E : XK} (h : tO g F W (callO fn fa) σ H Q) : tCall (spF g fn) [] E (tDA g F W fa) σ H Q := by
  obtain ⟨H0, ρ, E, q⟩ := h
  refine ⟨H0, ρ, E, ?_⟩
  unfold callO at q
  cases e : fa ρ with
  | ok ds ρ1 =>
    rw [e] at q
    dsimp only [R.bind] at q
    intro vs H0' H' E' m hd
    rw [List.append_nil]
    refine ⟨H0', ds, E'.ex, E'.tb, hd, ?_⟩
    cases e2 : fn ds with
    | ok s =>
      rw [e2] at q
      intro v C0 C gr tt s2 hv
      obtain ⟨E3, m3⟩ := E'.postW m gr tt s2
      have up : ∀ a, H' a = none → F.H a = none := fun a ha => by
        cases z : F.H a with
        | none => rfl
        | some o => exact absurd ha (E'.still (by rw [z]; exact fun z => nomatch z))
      cases s with
      | fr d => exact q v C0 C E3 m3 hv (fun z => nomatch z)
      | ol ds =>
        obtain ⟨a, us, rfl, q1, q2, q3, q4⟩ := hv
        exact q _ C0 C E3 m3 ⟨a, us, rfl, q1, up a q2, q3, q4⟩ (fun _ b z => by cases z; exact m.fresh q2)
      | od ds =>
        obtain ⟨a, us, rfl, q1, q2, q3, q4⟩ := hv
        exact q _ C0 C E3 m3 ⟨a, us, rfl, q1, up a q2, q3, q4⟩ (fun _ b z => by cases z; exact m.fresh q2)
      | raw w _ => exact q.elim
      | rf k => exact q v C0 C E3 m3 hv (fun z => nomatch z)
      | sto S => exact q v C0 C E3 m3 hv (fun z => nomatch z)
      | io ds =>
        obtain ⟨a, us, rfl, q1, q2, q3, q4⟩ := hv
        cases q2
    | ex _ => rw [e2] at q; exact q.elim
    | bad => rw [e2] at q; exact q.elim
  | ex x ρ1 =>
    rw [e] at q
    exact q
  | bad =>
    rw [e] at q
    exact q
theorem dAt_put {K : PySem.W.Frag} {H0 H : Hp} {ρ : Rho} {i : Nat} {kvs : List (Key × Dt)} (E : En K F H0 H σ ρ) (h : dAt i ρ = some kvs) : ∃ a ks, σ[i]? = some (some (.ref a)) ∧ H0 a = none ∧ H a = some (.dK ks) ∧ DaKv K H0 ks kvs ∧ OwnAt σ ρ a ∧
    ∀ (ks' : List (Key × V)) (kvs' : List (Key × Dt)) H0' H', Gw ⟨H0, H, some a, false⟩ H0' H' → TbOk K H0' H' → Same H0' H' → H' a = some (.dK ks') → DaKv K H0' ks' kvs' → En K F H0' H' σ (dPut i kvs' ρ) ∧ Mv σ ρ (dPut i kvs' ρ) H0 H H0' H' := by
  have main : ∀ (s s' : List (Key × Dt) → Sl), (s = .od ∧ s' = .od) ∨ (s = .io ∧ s' = .io) → ρ[i]? = some (some (s kvs)) → (∀ kvs', dPut i kvs' ρ = ρ.set i (some (s' kvs'))) → (∃ a ks, σ[i]? = some (some (.ref a)) ∧ H0 a = none ∧ H a = some (.dK ks) ∧ DaKv K H0 ks kvs ∧ OwnAt σ ρ a ∧
      ∀ (ks' : List (Key × V)) (kvs' : List (Key × Dt)) H0' H', Gw ⟨H0, H, some a, false⟩ H0' H' → TbOk K H0' H' → Same H0' H' → H' a = some (.dK ks') → DaKv K H0' ks' kvs' → En K F H0' H' σ (dPut i kvs' ρ) ∧ Mv σ ρ (dPut i kvs' ρ) H0 H H0' H') := fun s s' hs hi hp => by
    have : ∃ a ks, σ[i]? = some (some (.ref a)) ∧ H0 a = none ∧ H a = some (.dK ks) ∧ DaKv K H0 ks kvs ∧ (s kvs).mut = true := by
      rcases hs with ⟨rfl, rfl⟩ | ⟨rfl, rfl⟩
      · obtain ⟨v, h1, a, ks, rfl, h2, h3, h4, h5⟩ := E.sl i _ hi
        exact ⟨a, ks, h1, h2, h4, h5, rfl⟩
      · obtain ⟨v, h1, a, ks, rfl, h2, h3, h4, h5⟩ := E.sl i _ hi
        exact ⟨a, ks, h1, h2, h4, h5, rfl⟩
    obtain ⟨a, ks, h1, h2, h3, h4, h5⟩ := this
    have own : OwnAt σ ρ a := ⟨i, _, hi, h5, h1⟩
    refine ⟨a, ks, h1, h2, h3, h4, own, fun ks' kvs' H0' H' gr tt sm ha hd => ?_⟩
    rw [hp kvs']
    refine ⟨E.mutD hi h1 (by rcases hs with ⟨rfl, rfl⟩ | ⟨rfl, rfl⟩; exact .inl ⟨_, rfl, rfl⟩; exact .inr ⟨_, rfl, rfl⟩) gr tt sm ha hd, gr.b0, fun b o hb nt _ ho => gr.keep b o hb nt fun z => ho (Option.some.inj z ▸ own), fun b hb h0 _ => gr.off b hb h0, fun b ⟨j, t, e, mt, y⟩ => ?_, fun b hb => ?_, gr.gk⟩
    · rcases set_get e with ⟨rfl, z⟩ | ⟨hne, z⟩
      · exact ⟨j, _, hi, h5, y⟩
      · exact ⟨j, t, z, mt, y⟩
    · exact gr.st b hb
  unfold dAt at h
  split at h
  · rename_i e
    cases h
    exact main .od .od (.inl ⟨rfl, rfl⟩) e fun kvs' => by unfold dPut; rw [e]
  · rename_i e
    cases h
    exact main .io .io (.inr ⟨rfl, rfl⟩) e fun kvs' => by unfold dPut; rw [e]
  · cases h
theorem tCallM_of {fn : FnM} {i : Nat} {fa : Rho → R (List Dt)} {E : XK} (h : tD g F W (callM fn i fa) σ H Q) : tCall (spM g fn) [] E (tCons (tVar i) (tDA g F W fa)) σ H Q := by
  obtain ⟨H0, ρ, E, q⟩ := h
  unfold callM at q
  cases e0 : dAt i ρ with
  | none => rw [e0] at q; exact q.elim
  | some kvs0 =>
    rw [e0] at q
    dsimp only at q
    obtain ⟨a, ks0, ha, _⟩ := dAt_put E e0
    refine ⟨.ref a, ha, H0, ρ, E, ?_⟩
    cases e : fa ρ with
    | ok ds ρ1 =>
      rw [e] at q
      dsimp only [R.bind] at q
      intro vs H0' H' E' m hd
      show spM g fn ((V.ref a :: vs) ++ []) H' Q _
      rw [List.append_nil]
      cases e1 : dAt i ρ1 with
      | none => rw [e1] at q; exact q.elim
      | some kvs =>
        rw [e1] at q
        dsimp only at q
        obtain ⟨a', ks, ha', h2, h3, h4, own, k⟩ := dAt_put E' e1
        rw [ha] at ha'
        cases ha'
        refine ⟨H0', a, ks, kvs, vs, ds, rfl, E'.ex, E'.tb, h2, h3, h4, hd, ?_⟩
        cases e2 : fn kvs ds with
        | ok s kvs' =>
          rw [e2] at q
          cases s with
          | fr d =>
            intro v ks' C0 C gr tt s2 hc hdk hv
            obtain ⟨E3, m3⟩ := k ks' kvs' C0 C gr tt s2 hc hdk
            exact q v C0 C E3 (m.trans m3) hv
          | _ => exact q.elim
        | ex _ => rw [e2] at q; exact q.elim
        | bad => rw [e2] at q; exact q.elim
    | ex x ρ1 =>
      rw [e] at q
      exact q
    | bad =>
      rw [e] at q
      exact q
end
section
variable {X : Cx} {W : WX} {e : Expr} {es : List Expr} {pos p p2 : Pos} {fa : Rho → R (List Dt)} {k : Nat} {f : Addr} {fd : FuncData} {ps : List Str} {x : Str}
theorem de_call {fn : Fn} (G : FnOk X.prog X.w X.K X.mg X.base CX0 k f fd ps (spF ⟨X.K, X.mg⟩ fn)) (hr : Room k X.A) (hg : Gl X x) (hm : X.mg x = some (.ref f)) (hk : PySem.W.keepIn X.K (.ref f) = true) (hb : Binds X.K fd ps [])
    (ha : DA X W (e :: es) fa) (hdb : (x == ("__debug__" : Str)) = false := by decide) (he : starEach (e :: es) X.env = (false, eval e X.env) :: starEach es X.env := by rfl) (hpl : (backTo pos (starEach es X.env)).any (·.1) = false := by rfl) :
    DE X W (.Call (.Name x p) (e :: es) [] pos) (callF fn fa) := fun F => PE.wk (pe_call G hr hg hm hk hb .nil pass0 (ha F) hdb he hpl) fun _ _ _ h => tCall_of h
theorem de_call0 {fn : Fn} (G : FnOk X.prog X.w X.K X.mg X.base CX0 k f fd ps (spF ⟨X.K, X.mg⟩ fn)) (hr : Room k X.A) (hg : Gl X x) (hm : X.mg x = some (.ref f)) (hk : PySem.W.keepIn X.K (.ref f) = true) (hb : Binds X.K fd ps [])
    (hdb : (x == ("__debug__" : Str)) = false := by decide) : DE X W (.Call (.Name x p) [] [] pos) (callF fn nilA) := fun F => PE.wk (pe_call0 G hr hg hm hk hb .nil pass0 hdb) fun σ H Q h => by
  obtain ⟨H0, ρ, E, q⟩ := tCall_of (E := E0) h
  exact q [] H0 H E Mv.refl .nil
theorem do_call {fn : Fn} (G : FnOk X.prog X.w X.K X.mg X.base CX0 k f fd ps (spF ⟨X.K, X.mg⟩ fn)) (hr : Room k X.A) (hg : Gl X x) (hm : X.mg x = some (.ref f)) (hk : PySem.W.keepIn X.K (.ref f) = true) (hb : Binds X.K fd ps [])
    (ha : DA X W (e :: es) fa) (hdb : (x == ("__debug__" : Str)) = false := by decide) (he : starEach (e :: es) X.env = (false, eval e X.env) :: starEach es X.env := by rfl) (hpl : (backTo pos (starEach es X.env)).any (·.1) = false := by rfl) :
    DO X W (.Call (.Name x p) (e :: es) [] pos) (callO fn fa) := fun F => PE.wk (pe_call G hr hg hm hk hb .nil pass0 (ha F) hdb he hpl) fun _ _ _ h => tCallO_of h
theorem de_callM {fn : FnM} {i : Nat} {y : Str} (G : FnOk X.prog X.w X.K X.mg X.base CX0 k f fd ps (spM ⟨X.K, X.mg⟩ fn)) (hr : Room k X.A) (hg : Gl X x) (hm : X.mg x = some (.ref f)) (hk : PySem.W.keepIn X.K (.ref f) = true) (hb : Binds X.K fd ps [])
    (hy : PE X (.Name y p2) (tVar i)) (ha : DA X W es fa) (hdb : (x == ("__debug__" : Str)) = false := by decide) (he : starEach (.Name y p2 :: es) X.env = (false, eval (.Name y p2) X.env) :: starEach es X.env := by rfl) (hpl : (backTo pos (starEach es X.env)).any (·.1) = false := by rfl) :
    DE X W (.Call (.Name x p) (.Name y p2 :: es) [] pos) (callM fn i fa) := fun F => PE.wk (pe_call G hr hg hm hk hb .nil pass0 (pa_cons hy (ha F) he) hdb he hpl) fun _ _ _ h => tCallM_of h
end
end DW

set_option Elab.async false
set_option linter.all false
set_option maxRecDepth 100000
set_option maxHeartbeats 4000000
/-! DW8: statements, loops -/
namespace DW
open PySem PySem.Spec PyProof.Rows L2

def skipS : Rho → SR := fun ρ => .nx ρ
def badS : Rho → SR := fun _ => .bad
def bkS : Rho → SR := fun ρ => .bk ρ
def ctS : Rho → SR := fun ρ => .ct ρ
def seqS (f k : Rho → SR) : Rho → SR := fun ρ => match f ρ with
  | .nx ρ1 => k ρ1
  | .rt s ρ1 => .rt s ρ1
  | .bk ρ1 => .bk ρ1
  | .ct ρ1 => .ct ρ1
  | .ex e ρ1 => .ex e ρ1
  | .bad => .bad
def nxO : Option Rho → SR
  | some ρ => .nx ρ
  | none => .bad
def setS (i : Nat) (f : Rho → R Dt) : Rho → SR := fun ρ => (f ρ).bindS fun d ρ1 => nxO (putR i (.fr d) ρ1)
def setOS (i : Nat) (f : Rho → R Sl) : Rho → SR := fun ρ => (f ρ).bindS fun s ρ1 => match s with
  | .io _ => .bad
  | .sto _ => .bad
  | s => nxO (putR i s ρ1)
def retS (f : Rho → R Dt) : Rho → SR := fun ρ => (f ρ).bindS fun d ρ1 => .rt (.fr d) ρ1
def retOS (f : Rho → R Sl) : Rho → SR := fun ρ => (f ρ).bindS fun s ρ1 => .rt s ρ1
def exprS (f : Rho → R Dt) : Rho → SR := fun ρ => (f ρ).bindS fun _ ρ1 => .nx ρ1
def ifS (c : Rho → R Bool) (f k : Rho → SR) : Rho → SR := fun ρ => (c ρ).bindS fun b ρ1 => if b = true then f ρ1 else k ρ1
def whS (c : Rho → R Bool) (b : Rho → SR) : Nat → Rho → SR
  | 0, _ => .bad
  | n + 1, ρ => (c ρ).bindS fun t ρ1 => if t = true then (match b ρ1 with
    | .nx ρ2 => whS c b n ρ2
    | .ct ρ2 => whS c b n ρ2
    | .bk ρ2 => .nx ρ2
    | .rt s ρ2 => .rt s ρ2
    | .ex e ρ2 => .ex e ρ2
    | .bad => .bad) else .nx ρ1
def forL (t : Dt → Rho → Option Rho) (b : Rho → SR) : List Dt → Rho → SR
  | [], ρ => .nx ρ
  | d :: ds, ρ => match t d ρ with
    | none => .bad
    | some ρ1 => match b ρ1 with
      | .nx ρ2 => forL t b ds ρ2
      | .ct ρ2 => forL t b ds ρ2
      | .bk ρ2 => .nx ρ2
      | .rt s ρ2 => .rt s ρ2
      | .ex e ρ2 => .ex e ρ2
      | .bad => .bad
def forS (it : Rho → R (List Dt)) (t : Dt → Rho → Option Rho) (b : Rho → SR) : Rho → SR := fun ρ => (it ρ).bindS fun ds ρ1 => forL t b ds ρ1
/-- targets -/
def tgN (i : Nat) : Dt → Rho → Option Rho := fun d ρ => putR i (.fr d) ρ
def putAll : List Nat → List Dt → Rho → Option Rho
  | [], [], ρ => some ρ
  | i :: is, d :: ds, ρ => match putR i (.fr d) ρ with
    | some ρ1 => putAll is ds ρ1
    | none => none
  | _, _, _ => none
def tgT (is : List Nat) : Dt → Rho → Option Rho := fun d ρ => match d with
  | .tup ds => putAll is ds ρ
  | _ => none
def asgS (t : Dt → Rho → Option Rho) (f : Rho → R Dt) : Rho → SR := fun ρ => (f ρ).bindS fun d ρ1 => nxO (t d ρ1)
/-- the own list in a slot -/
def lAt (i : Nat) (ρ : Rho) : Option (List Dt) := match (ρ[i]? : Option (Option Sl)) with
  | some (some (.ol xs)) => some xs
  | _ => none
def appS (i : Nat) (f : Rho → R Dt) : Rho → SR := fun ρ => match lAt i ρ with
  | none => .bad
  | some _ => (f ρ).bindS fun d ρ1 => match lAt i ρ1 with
    | none => .bad
    | some xs => if xs.length < 1000000 then .nx (ρ1.set i (some (.ol (xs ++ [d])))) else .bad
/-- d[k] = v -/
def dputS (i : Nat) (fk fv : Rho → R Dt) : Rho → SR := fun ρ => (fv ρ).bindS fun d ρ1 => match dAt i ρ1 with
  | none => .bad
  | some _ => (fk ρ1).bindS fun k ρ2 => match keyD k, dAt i ρ2 with
    | some k, some kvs => if kvs.length < 1000000 then .nx (dPut i (putKD kvs k d) ρ2) else .bad
    | _, _ => .bad
/-- several things that are made, in a row -/
def argsO : List (Rho → R Sl) → Rho → R (List Sl)
  | [], ρ => .ok [] ρ
  | f :: fs, ρ => (f ρ).bind fun s ρ1 => (argsO fs ρ1).bind fun ss ρ2 => .ok (s :: ss) ρ2
def putSl : List Nat → List Sl → Rho → Option Rho
  | [], [], ρ => some ρ
  | i :: is, s :: ss, ρ => match s with
    | .io _ => none
    | .sto _ => none
    | s => match putR i s ρ with
      | some ρ1 => putSl is ss ρ1
      | none => none
  | _, _, _ => none
def parS (is : List Nat) (fs : List (Rho → R Sl)) : Rho → SR := fun ρ => (argsO fs ρ).bindS fun ss ρ1 => nxO (putSl is ss ρ1)

theorem En.notOwn {K : PySem.W.Frag} {F : Fm} {H0 H : Hp} {σ : L2.St} {ρ : Rho} {a : Addr} (E : En K F H0 H σ ρ) (hn : H a = none) : ¬ OwnAt σ ρ a := fun ⟨i, t, h1, h2, h3⟩ => by
  obtain ⟨w, h4, h5⟩ := E.sl i t h1
  rw [h3] at h4
  cases h4
  cases t with
  | fr _ => cases h2
  | ol _ => obtain ⟨b, _, e', _, _, q3, _⟩ := h5; cases e'; rw [hn] at q3; cases q3
  | od _ => obtain ⟨b, _, e', _, _, q3, _⟩ := h5; cases e'; rw [hn] at q3; cases q3
  | raw _ _ => cases h2
  | rf _ => cases h2
  | sto _ => cases h2
  | io _ => obtain ⟨b, _, e', _, _, q3, _⟩ := h5; cases e'; rw [hn] at q3; cases q3
section
variable {g : Gx} {F : Fm} {W : WX} {σ : L2.St} {H : Hp}
theorem tSeq_of {f k : Rho → SR} {D : Ends} (h : tS g F W (seqS f k) D σ H) : tSeq (tS g F W f) (tS g F W k) D σ H := by
  obtain ⟨H0, ρ, E, q⟩ := h
  refine ⟨H0, ρ, E, ?_⟩
  unfold seqS at q
  cases e : f ρ with
  | nx ρ1 =>
    rw [e] at q
    exact fun σ' H0' H' E' s' => ⟨H0', ρ1, E', q.mono s'⟩
  | rt s ρ1 => rw [e] at q; exact q
  | bk ρ1 => rw [e] at q; exact q
  | ct ρ1 => rw [e] at q; exact q
  | ex _ _ => rw [e] at q; exact q
  | bad => rw [e] at q; exact q
/-- an expression, then something -/
theorem tD_bindS {f : Rho → R Dt} {k : Dt → Rho → SR} {D : Ends} {Q : VK} (h : tS g F W (fun ρ => (f ρ).bindS k) D σ H)
    (hQ : ∀ v H0 H' ρ1 d, En g.K F H0 H' σ ρ1 → Da g.K H0 v d → PostS g F W D H0 (k d ρ1) → Q v H') : tD g F W f σ H Q := by
  obtain ⟨H0, ρ, E, q⟩ := h
  refine ⟨H0, ρ, E, ?_⟩
  dsimp only at q
  cases e : f ρ with
  | ok d ρ1 =>
    rw [e] at q
    exact fun v H0' H' E' m hd => hQ v H0' H' ρ1 d E' hd (PostS.mono m.b0 q)
  | ex x ρ1 =>
    rw [e] at q
    exact q σ
  | bad =>
    rw [e] at q
    exact q
theorem tO_bindS {f : Rho → R Sl} {k : Sl → Rho → SR} {D : Ends} {Q : VK} (h : tS g F W (fun ρ => (f ρ).bindS k) D σ H)
    (hQ : ∀ v H0 H' ρ1 s, En g.K F H0 H' σ ρ1 → SlR g.K F H0 H' v s → (s.own = true → ∀ a, v = .ref a → ¬ OwnAt σ ρ1 a) → PostS g F W D H0 (k s ρ1) → Q v H') : tO g F W f σ H Q := by
  obtain ⟨H0, ρ, E, q⟩ := h
  refine ⟨H0, ρ, E, ?_⟩
  dsimp only at q
  cases e : f ρ with
  | ok d ρ1 =>
    rw [e] at q
    intro v H0' H' E' m hd hfr
    exact hQ v H0' H' ρ1 d E' hd (fun ho a ea own => E.notOwn (hfr ho a ea) (m.sub a own)) (PostS.mono m.b0 q)
  | ex x ρ1 =>
    rw [e] at q
    exact q σ
  | bad =>
    rw [e] at q
    exact q
theorem tDT_bindS {f : Rho → R Bool} {k : Bool → Rho → SR} {D : Ends} {Q : Bool → Hp → Prop} (h : tS g F W (fun ρ => (f ρ).bindS k) D σ H)
    (hQ : ∀ H0 H' ρ1 b, En g.K F H0 H' σ ρ1 → PostS g F W D H0 (k b ρ1) → Q b H') : tDT g F W f σ H Q := by
  obtain ⟨H0, ρ, E, q⟩ := h
  refine ⟨H0, ρ, E, ?_⟩
  dsimp only at q
  cases e : f ρ with
  | ok d ρ1 =>
    rw [e] at q
    exact fun H0' H' E' m => hQ H0' H' ρ1 d E' (PostS.mono m.b0 q)
  | ex x ρ1 =>
    rw [e] at q
    exact q σ
  | bad =>
    rw [e] at q
    exact q
theorem nxO_post {D : Ends} {H0 : Hp} {o : Option Rho} (h : PostS g F W D H0 (nxO o)) : ∃ ρ, o = some ρ ∧ ∀ σ' H', En g.K F H0 H' σ' ρ → D.nx σ' H' := by
  cases o with
  | none => exact h.elim
  | some ρ => exact ⟨ρ, rfl, fun σ' H' E => h σ' H0 H' E (Same.refl _)⟩

/-! ### targets -/
def setAll : List Nat → List V → L2.St → L2.St
  | i :: is, v :: vs, σ => setAll is vs (σ.set i (some v))
  | _, _, σ => σ
def tG (g : Gx) (F : Fm) (is : List Nat) (t : Dt → Rho → Option Rho) : TG := fun v σ H Q => ∃ H0 ρ d, En g.K F H0 H σ ρ ∧ Da g.K H0 v d ∧ ∃ ρ', t d ρ = some ρ' ∧ ∀ us, En g.K F H0 H (setAll is us σ) ρ' → (∀ a, OwnAt (setAll is us σ) ρ' a → OwnAt σ ρ a) → Q (setAll is us σ) H
def tGs (g : Gx) (F : Fm) (is : List Nat) : TGs := fun vs σ H Q => ∃ H0 ρ ds, En g.K F H0 H σ ρ ∧ DaAll g.K H0 vs ds ∧ ∃ ρ', putAll is ds ρ = some ρ' ∧ ∀ us, En g.K F H0 H (setAll is us σ) ρ' → (∀ a, OwnAt (setAll is us σ) ρ' a → OwnAt σ ρ a) → Q (setAll is us σ) H
theorem own_put {i : Nat} {v : V} {d : Dt} {σ : L2.St} {ρ ρ' : Rho} (h : putR i (.fr d) ρ = some ρ') {a : Addr} (o : OwnAt (σ.set i (some v)) ρ' a) : OwnAt σ ρ a := by
  unfold putR at h
  split at h
  · cases h
  · cases h
    obtain ⟨j, s, h1, h2, h3⟩ := o
    rcases set_get h1 with ⟨rfl, z⟩ | ⟨hne, z⟩
    · cases z
      cases h2
    · rw [List.getElem?_set_ne (Ne.symm hne)] at h3
      exact ⟨j, s, z, h2, h3⟩

/-! ### loops -/
theorem whS_succ (c : Rho → R Bool) (b : Rho → SR) (n : Nat) (ρ : Rho) : whS c b (n + 1) ρ = (c ρ).bindS fun t ρ1 => if t = true then (match b ρ1 with
    | .nx ρ2 => whS c b n ρ2
    | .ct ρ2 => whS c b n ρ2
    | .bk ρ2 => .nx ρ2
    | .rt s ρ2 => .rt s ρ2
    | .ex e ρ2 => .ex e ρ2
    | .bad => .bad) else .nx ρ1 := rfl
theorem tWhile_of {c : Rho → R Bool} {b : Rho → SR} {n : Nat} {D : Ends} (h : tS g F W (whS c b n) D σ H) : tWhile (tDT g F W c) (tS g F W b) D σ H := by
  refine ⟨fun m σ H => tS g F W (whS c b m) D σ H, ⟨n, h⟩, fun m σ H w => ?_⟩
  cases m with
  | zero =>
    obtain ⟨_, _, _, q⟩ := w
    exact q.elim
  | succ m =>
    have w' : tS g F W (fun ρ => (c ρ).bindS fun t ρ1 => if t = true then (match b ρ1 with
      | .nx ρ2 => whS c b m ρ2
      | .ct ρ2 => whS c b m ρ2
      | .bk ρ2 => .nx ρ2
      | .rt s ρ2 => .rt s ρ2
      | .ex e ρ2 => .ex e ρ2
      | .bad => .bad) else .nx ρ1) D σ H := w
    refine tDT_bindS w' fun H0 H' ρ1 t E q => ?_
    cases t with
    | false =>
      rw [if_neg Bool.false_ne_true] at q ⊢
      exact q σ H0 H' E (Same.refl _)
    | true =>
      rw [if_pos rfl] at q ⊢
      refine ⟨fun σ' H' => tS g F W (whS c b m) D σ' H', fun σ' H' z => ⟨m, Nat.lt_succ_self m, z⟩, H0, ρ1, E, ?_⟩
      cases e : b ρ1 with
      | nx ρ2 => rw [e] at q; exact fun σ' C0 C E' s' => ⟨C0, ρ2, E', q.mono s'⟩
      | ct ρ2 => rw [e] at q; exact fun σ' C0 C E' s' => ⟨C0, ρ2, E', q.mono s'⟩
      | bk ρ2 => rw [e] at q; exact q
      | rt s ρ2 => rw [e] at q; exact q
      | ex _ _ => rw [e] at q; exact q
      | bad => rw [e] at q; exact q
/-- what a walk gives, by data that stand in a base -/
def ItD (K : PySem.W.Frag) (J : It) (H0 : Hp) (ds : List Dt) : Prop := ∃ G Y, Walk J ds.length G Y ∧ (∀ H, Same H0 H → G H) ∧ ∀ i H x H', i < ds.length → Same H0 H → Y i H x H' → ∃ d, ds[i]? = some d ∧
  ((H' = H ∧ Da K H0 x d) ∨ ∃ T vs es, x = .ref T ∧ H T = none ∧ H' = upd H T (.tup vs) ∧ DaAll K H0 vs es ∧ d = .tup es)
def tI (g : Gx) (F : Fm) (W : WX) (f : Rho → R (List Dt)) : TI := fun σ H Rk => ∃ H0 ρ, En g.K F H0 H σ ρ ∧ match f ρ with
  | .ok ds ρ' => ∀ J H0' H', En g.K F H0' H' σ ρ' → Mv σ ρ ρ' H0 H H0' H' → ItD g.K J H0' ds → Rk J H'
  | .ex e ρ' => XW g F W σ e ρ'
  | .bad => False
/-- the item's data over a base of now -/
theorem item_at {K : PySem.W.Frag} {H0 B0 H H' : Hp} {ρ : Rho} {x : V} {d : Dt} (E : En K F B0 H σ ρ) (s : Same H0 B0)
    (h : (H' = H ∧ Da K H0 x d) ∨ ∃ T vs es, x = .ref T ∧ H T = none ∧ H' = upd H T (.tup vs) ∧ DaAll K H0 vs es ∧ d = .tup es) :
    ∃ C0, En K F C0 H' σ ρ ∧ Mv σ ρ ρ B0 H C0 H' ∧ Da K C0 x d := by
  rcases h with ⟨rfl, h⟩ | ⟨T, vs, es, rfl, hT, rfl, hd, rfl⟩
  · exact ⟨B0, E, Mv.refl, h.mono s⟩
  · have g1 := gr_new (o := .tup vs) hT E.ex
    exact ⟨upd B0 T (.tup vs), E.new hT, g1.mv, .tup (SqT.of upd_same) ((hd.mono s).mono g1.b0)⟩
theorem tFor_of {it : Rho → R (List Dt)} {t : Dt → Rho → Option Rho} {b : Rho → SR} {is : List Nat} {D : Ends} (h : tS g F W (forS it t b) D σ H) : tFor (tI g F W it) (tG g F is t) (tS g F W b) D σ H := by
  obtain ⟨H0, ρ, E, q⟩ := h
  refine ⟨H0, ρ, E, ?_⟩
  unfold forS at q
  cases e : it ρ with
  | ok ds ρ1 =>
    rw [e] at q
    intro J B0 B E1 m1 hJ
    obtain ⟨G, Y, wk, hG, hY⟩ := hJ
    have q1 : PostS g F W D B0 (forL t b ds ρ1) := PostS.mono m1.b0 q
    refine for_it wk (fun i σ H => ∃ C0 ρc, En g.K F C0 H σ ρc ∧ Same B0 C0 ∧ PostS g F W D C0 (forL t b (ds.drop i) ρc)) ⟨B0, ρ1, E1, Same.refl _, by rw [List.drop_zero]; exact q1⟩ (fun i σ H _ ⟨C0, ρc, Ec, sc', _⟩ => hG H (sc'.trans Ec.ex)) ?_ ?_
    · rintro i x σ H H' hi ⟨C0, ρc, Ec, sc', qc⟩ y
      obtain ⟨d, hd, hx⟩ := hY i H x H' hi (sc'.trans Ec.ex) y
      obtain ⟨D0, Ed, md, dd⟩ := item_at Ec sc' hx
      have hdrop : ds.drop i = d :: ds.drop (i + 1) := by
        obtain ⟨hlt, hget⟩ := List.getElem?_eq_some_iff.mp hd
        rw [List.drop_eq_getElem_cons hlt, hget]
      rw [hdrop] at qc
      unfold forL at qc
      cases et : t d ρc with
      | none => rw [et] at qc; exact qc.elim
      | some ρ2 =>
        rw [et] at qc
        dsimp only at qc
        refine ⟨D0, ρc, d, Ed, dd, ρ2, et, fun us E2 _ => ⟨D0, ρ2, E2, ?_⟩⟩
        cases eb : b ρ2 with
        | nx ρ3 => rw [eb] at qc; exact fun σ' I0 I E3 s3 => ⟨I0, ρ3, E3, (sc'.trans md.b0).trans s3, qc.mono (md.b0.trans s3)⟩
        | ct ρ3 => rw [eb] at qc; exact fun σ' I0 I E3 s3 => ⟨I0, ρ3, E3, (sc'.trans md.b0).trans s3, qc.mono (md.b0.trans s3)⟩
        | bk ρ3 => rw [eb] at qc; exact PostS.mono (r := .nx ρ3) md.b0 qc
        | rt s ρ3 => rw [eb] at qc; exact qc
        | ex _ _ => rw [eb] at qc; exact qc
        | bad => rw [eb] at qc; exact qc
    · rintro σ H ⟨C0, ρc, Ec, sc', qc⟩
      rw [List.drop_length] at qc
      exact qc σ C0 H Ec (Same.refl _)
  | ex x ρ1 =>
    rw [e] at q
    exact q σ
  | bad =>
    rw [e] at q
    exact q
end

section
variable {X : Cx} {W : WX} {a b c e : Expr} {es : List Expr} {pos p p2 : Pos} {f1 f2 f3 : Rho → R Dt} {st : Stmt} {rest : List Stmt} {s1 s2 : Rho → SR} {t1 : Rho → R Bool}
theorem ds_nil : DSs X W [] skipS := fun F => PSs.wk pss_nil fun D σ H ⟨H0, ρ, E, q⟩ => q σ H0 H E (Same.refl _)
theorem ds_cons (h1 : DS X W st s1) (h2 : DSs X W rest s2) : DSs X W (st :: rest) (seqS s1 s2) := fun F => PSs.wk (pss_cons (h1 F) (h2 F)) fun _ _ _ h => tSeq_of h
theorem ds_one (h1 : DS X W st s1) : DSs X W [st] s1 := fun F => pss_one (h1 F)
theorem ds_never : DS X W st badS := fun F => ⟨fun _ _ _ _ _ _ ⟨_, _, _, q⟩ => q.elim⟩
theorem dss_never {sts : List Stmt} : DSs X W sts badS := fun F => ⟨fun _ _ _ _ _ _ ⟨_, _, _, q⟩ => q.elim⟩
theorem ds_pass : DS X W (.Pass pos) skipS := fun F => PS.wk ps_pass fun D σ H ⟨H0, ρ, E, q⟩ => q σ H0 H E (Same.refl _)
theorem ds_break : DS X W (.Break pos) bkS := fun F => PS.wk ps_break fun D σ H ⟨H0, ρ, E, q⟩ => q σ H0 H E (Same.refl _)
theorem ds_continue : DS X W (.Continue pos) ctS := fun F => PS.wk ps_continue fun D σ H ⟨H0, ρ, E, q⟩ => q σ H0 H E (Same.refl _)
theorem ds_doc {x j p'} : DS X W (.Expr (.Constant (.str x) j p') pos) skipS := fun F => PS.wk ps_doc fun D σ H ⟨H0, ρ, E, q⟩ => q σ H0 H E (Same.refl _)
theorem ds_set (i : Nat) {x : Str} (hN : X.N.Nodup) (he : DE X W e f1) (hi : X.N[i]? = some x := by rfl) (hx : Loc X.env.scope x := by first | exact .inl rfl | exact .inr rfl) (hs : swapsWith e (some (.Name x p)) pos.line X.env = pure false := by rfl)
    (hf : X.fn x = true ∨ X.env.scope.names.lookup x = some .local := by first | exact .inl rfl | exact .inr rfl) : DS X W (.Assign [.Name x p] e pos) (setS i f1) := fun F => PS.wk (ps_set hN hi hx (he F) hs hf) fun D σ H h => by
  refine tD_bindS h fun v H0 H' ρ1 d E hd q => ?_
  obtain ⟨ρ2, e, k⟩ := nxO_post q
  exact k _ H' (E.putFr hd e)
theorem ds_setO (i : Nat) {x : Str} {fo : Rho → R Sl} (hN : X.N.Nodup) (he : DO X W e fo) (hi : X.N[i]? = some x := by rfl) (hx : Loc X.env.scope x := by first | exact .inl rfl | exact .inr rfl) (hs : swapsWith e (some (.Name x p)) pos.line X.env = pure false := by rfl)
    (hf : X.fn x = true ∨ X.env.scope.names.lookup x = some .local := by first | exact .inl rfl | exact .inr rfl) : DS X W (.Assign [.Name x p] e pos) (setOS i fo) := fun F => PS.wk (ps_set hN hi hx (he F) hs hf) fun D σ H h => by
  refine tO_bindS h fun v H0 H' ρ1 s E hd ho q => ?_
  cases s with
  | raw _ _ =>
    obtain ⟨ρ2, e, k⟩ := nxO_post q
    exact k _ H' (E.put hd (fun _ z => nomatch z) ho e)
  | io _ => exact q.elim
  | sto _ => exact q.elim
  | rf d =>
    obtain ⟨ρ2, e, k⟩ := nxO_post q
    exact k _ H' (E.put hd (fun _ z => nomatch z) ho e)
  | fr d =>
    obtain ⟨ρ2, e, k⟩ := nxO_post q
    exact k _ H' (E.put hd (fun _ z => nomatch z) ho e)
  | ol d =>
    obtain ⟨ρ2, e, k⟩ := nxO_post q
    exact k _ H' (E.put hd (fun _ z => nomatch z) ho e)
  | od d =>
    obtain ⟨ρ2, e, k⟩ := nxO_post q
    exact k _ H' (E.put hd (fun _ z => nomatch z) ho e)
theorem ds_ret (he : DE X W e f1) : DS X W (.Return (some e) pos) (retS f1) := fun F => PS.wk (ps_ret (he F)) fun D σ H h => tD_bindS h fun v H0 H' ρ1 d E hd q => q v σ H0 H' E hd
theorem ds_retO {fo : Rho → R Sl} (he : DO X W e fo) : DS X W (.Return (some e) pos) (retOS fo) := fun F => PS.wk (ps_ret (he F)) fun D σ H h => tO_bindS h fun v H0 H' ρ1 d E hd ho q => q v σ H0 H' E hd
theorem ds_retN : DS X W (.Return none pos) (retS (cst .non)) := fun F => PS.wk ps_retN fun D σ H ⟨H0, ρ, E, q⟩ => q .non σ H0 H E (Da.non : Da X.K H0 .non .non)
theorem ds_expr (he : DE X W e f1) (hs : swapsWith e none pos.line X.env = pure false := by rfl) : DS X W (.Expr e pos) (exprS f1) := fun F => PS.wk (ps_expr (he F) hs) fun D σ H h => tD_bindS h fun v H0 H' ρ1 d E hd q => q σ H0 H' E (Same.refl _)
theorem ds_if {sa sb : List Stmt} (hc : DT X W c t1) (ha : DSs X W sa s1) (hb : DSs X W sb s2) : DS X W (.If c sa sb pos) (ifS t1 s1 s2) := fun F => PS.wk (ps_if (hc F) (ha F) (hb F)) fun D σ H h => by
  refine tDT_bindS h fun H0 H' ρ1 b E q => ?_
  cases b with
  | true =>
    rw [if_pos rfl] at q ⊢
    exact ⟨H0, ρ1, E, q⟩
  | false =>
    rw [if_neg Bool.false_ne_true] at q ⊢
    exact ⟨H0, ρ1, E, q⟩
theorem ds_while (n : Nat) {sa : List Stmt} (hp : PassesOwn (model X.prog X.w) X.A X.env X.xe) (hc : DT X W c t1) (ha : DSs X W sa s1) : DS X W (.While c sa [] pos) (whS t1 s1 n) := fun F => PS.wk (ps_while hp (hc F) (ha F)) fun D σ H h => tWhile_of h
def DI (X : Cx) (W : WX) (tg iter : Expr) (f : Rho → R (List Dt)) : Prop := ∀ F, PI X tg iter (tI (gx X) F W f)
def DG (X : Cx) (tg : Expr) (is : List Nat) (t : Dt → Rho → Option Rho) : Prop := ∀ F, PG X tg (tG (gx X) F is t)
def DGs (X : Cx) (tg : List Expr) (is : List Nat) : Prop := ∀ F, PGs X tg (tGs (gx X) F is)
theorem ds_for {tg iter : Expr} {sa : List Stmt} {it : Rho → R (List Dt)} {t : Dt → Rho → Option Rho} {is : List Nat} (hp : PassesOwn (model X.prog X.w) X.A X.env X.xe) (hc : X.calm = true) (hi : DI X W tg iter it) (hg : DG X tg is t) (ha : DSs X W sa s1)
    (hs : ∀ x, foldedSetIterable iter X.env x = pure x := by intro _; rfl) : DS X W (.For tg iter sa [] pos) (forS it t s1) := fun F => PS.wk (ps_for hp hc (hi F) (hg F) (ha F) hs) fun D σ H h => tFor_of h
/-! ### targets -/
theorem PG.wk {e : Expr} {t u : TG} (h : PG X e t) (k : ∀ v σ H Q, u v σ H Q → t v σ H Q) : PG X e u := ⟨fun pins s σ H v w Q I r q => h.run pins s σ H v w Q I r (k v σ H Q q)⟩
theorem PGs.wk {e : List Expr} {t u : TGs} (h : PGs X e t) (k : ∀ v σ H Q, u v σ H Q → t v σ H Q) : PGs X e u := ⟨fun pins s σ H v w Q I r q => h.run pins s σ H v w Q I r (k v σ H Q q)⟩
theorem dg_name (i : Nat) {x : Str} (hN : X.N.Nodup) (hi : X.N[i]? = some x := by rfl) (hx : Loc X.env.scope x := by first | exact .inl rfl | exact .inr rfl) (hf : X.fn x = true ∨ X.env.scope.names.lookup x = some .local := by first | exact .inl rfl | exact .inr rfl) : DG X (.Name x p) [i] (tgN i) :=
  fun F => PG.wk (pg_name hN hi hx hf) fun v σ H Q ⟨H0, ρ, d, E, hd, ρ', e, k⟩ => k [v] (E.putFr hd e) fun a o => own_put e o
theorem dgs_nil : DGs X [] [] := fun F => PGs.wk pgs_nil fun v σ H Q ⟨H0, ρ, d, E, hd, ρ', e, k⟩ => by
  cases d with
  | nil =>
    cases hd
    cases e
    exact ⟨rfl, k [] E fun _ o => o⟩
  | cons _ _ => cases e
theorem dgs_cons (i : Nat) {x : Str} {es : List Expr} {is : List Nat} (hN : X.N.Nodup) (h2 : DGs X es is) (hi : X.N[i]? = some x := by rfl) (hx : Loc X.env.scope x := by first | exact .inl rfl | exact .inr rfl) (hf : X.fn x = true ∨ X.env.scope.names.lookup x = some .local := by first | exact .inl rfl | exact .inr rfl)
    (hs : (assignEach (.Name x p :: es) X.env).map (·.2) = assign (.Name x p) X.env :: (assignEach es X.env).map (·.2) := by rfl) : DGs X (.Name x p :: es) (i :: is) :=
  fun F => PGs.wk (pgs_cons (pg_name hN hi hx hf) (h2 F) hs) fun v σ H Q ⟨H0, ρ, d, E, hd, ρ', e, k⟩ => by
    cases d with
    | nil => cases e
    | cons d ds =>
      cases hd with
      | @cons v0 vs _ _ h3 h4 =>
        refine ⟨v0, vs, rfl, H0, ?_⟩
        unfold putAll at e
        cases e1 : putR i (.fr d) ρ with
        | none => rw [e1] at e; cases e
        | some ρ1 =>
          rw [e1] at e
          exact ⟨ρ1, ds, E.putFr h3 e1, h4, ρ', e, fun us E' o' => k (v0 :: us) E' fun a o => own_put e1 (o' a o)⟩
theorem dg_tup {es : List Expr} {is : List Nat} {k : Nat} (hc : X.calm = true) (h : DGs X es is) (hn : (assignEach es X.env).length = is.length := by rfl) (hst : (assignEach es X.env).findIdx? (·.1) = none := by rfl) : DG X (.Tuple es k p) is (tgT is) :=
  fun F => PG.wk (pg_tup hc (h F) hn hst) fun v σ H Q ⟨H0, ρ, d, E, hd, ρ', e, k⟩ => by
    cases d with
    | tup ds =>
      cases hd with
      | tup h1 h2 =>
        refine ⟨_, _, rfl, seqT_mono E.ex h1, ?_, H0, ρ, ds, E, h2, ρ', e, k⟩
        rw [h2.length]
        have len : ∀ (is : List Nat) (ds : List Dt) (ρ ρ' : Rho), putAll is ds ρ = some ρ' → ds.length = is.length := by
          intro is
          induction is with
          | nil => intro ds ρ ρ' e; cases ds with | nil => rfl | cons _ _ => cases e
          | cons i is ih =>
            intro ds ρ ρ' e
            cases ds with
            | nil => cases e
            | cons d ds =>
              unfold putAll at e
              cases e1 : putR i (.fr d) ρ with
              | none => rw [e1] at e; cases e
              | some ρ1 => rw [e1] at e; rw [List.length_cons, List.length_cons, ih ds ρ1 ρ' e]
        exact len is ds ρ ρ' e
    | _ => cases e
theorem ds_asg {tg : Expr} {t : Dt → Rho → Option Rho} {is : List Nat} (he : DE X W e f1) (hg : DG X tg is t) (hs : swapsWithSole [tg] e pos.line X.env = pure false := by rfl) (hw : swappedStores [tg] e X.env = pure none := by rfl)
    (h1 : (assignEach [tg] X.env).map (·.2) = [assign tg X.env] := by rfl) : DS X W (.Assign [tg] e pos) (asgS t f1) := fun F => PS.wk (ps_asg (he F) (hg F) hs hw h1) fun D σ H h => by
  refine tD_bindS h fun v H0 H' ρ1 d E hd q => ?_
  obtain ⟨ρ2, e, k⟩ := nxO_post q
  exact ⟨H0, ρ1, d, E, hd, ρ2, e, fun us E' _ => k _ H' E'⟩
end
end DW

set_option Elab.async false
set_option linter.all false
set_option maxRecDepth 100000
set_option maxHeartbeats 4000000
/-! DW9: things that are made: displays, comprehensions; append, d[k] = v, a, b = x, y; what is walked -/
namespace DW
open PySem PySem.Spec PyProof.Rows L2

def toD : Sl → Option Dt
  | .fr d => some d
  | .ol xs => some (.lst xs)
  | .od kvs => some (.dct kvs)
  | .io _ => none
  | .raw _ _ => none
  | .rf _ => none
  | .sto _ => none
def frzR (f : Rho → R Sl) : Rho → R Dt := fun ρ => (f ρ).bind fun s ρ1 => match toD s with
  | some d => .ok d ρ1
  | none => .bad
def wipeR (ρ : Rho) : List Nat → Rho
  | [] => ρ
  | v :: vs => (wipeR ρ vs).set v none
def okW (vs : List Nat) (ρ : Rho) : Bool := noIo ρ || vs.all (fun v => decide (v ≠ 0))
def lcL (t : Dt → Rho → Option Rho) (c : Rho → R Bool) (e : Rho → R Dt) (vs : List Nat) : List Dt → Rho → R (List Dt)
  | [], ρ => .ok [] ρ
  | x :: xs, ρ => match t x ρ with
    | none => .bad
    | some ρ1 => (c ρ1).bind fun b ρ2 => if b = true then (e ρ2).bind fun d ρ3 => (lcL t c e vs xs (wipeR ρ3 vs)).bind fun ds ρ4 => .ok (d :: ds) ρ4 else lcL t c e vs xs (wipeR ρ2 vs)
def lcO (it : Rho → R (List Dt)) (t : Dt → Rho → Option Rho) (c : Rho → R Bool) (e : Rho → R Dt) (vs : List Nat) : Rho → R Sl := fun ρ => (it ρ).bind fun xs ρ1 =>
  if okW vs ρ1 = true ∧ xs.length ≤ 1000000 then (match lcL t c e vs xs (wipeR ρ1 vs) with
    | .ok ds ρ2 => .ok (.ol ds) ρ2
    | _ => .bad) else .bad
def yesT : Rho → R Bool := fun ρ => .ok true ρ
def dcL (t : Dt → Rho → Option Rho) (c : Rho → R Bool) (ek ev : Rho → R Dt) (vs : List Nat) : List Dt → Rho → List (Key × Dt) → R (List (Key × Dt))
  | [], ρ, acc => .ok acc ρ
  | x :: xs, ρ, acc => match t x ρ with
    | none => .bad
    | some ρ1 => (c ρ1).bind fun b ρ2 => if b = true then (ek ρ2).bind fun k ρ3 => (ev ρ3).bind fun d ρ4 => (match keyD k with
      | some k => dcL t c ek ev vs xs (wipeR ρ4 vs) (putKD acc k d)
      | none => .bad) else dcL t c ek ev vs xs (wipeR ρ2 vs) acc
def dcO (it : Rho → R (List Dt)) (t : Dt → Rho → Option Rho) (c : Rho → R Bool) (ek ev : Rho → R Dt) (vs : List Nat) : Rho → R Sl := fun ρ => (it ρ).bind fun xs ρ1 =>
  if okW vs ρ1 = true ∧ xs.length ≤ 1000000 then (match dcL t c ek ev vs xs (wipeR ρ1 vs) [] with
    | .ok ds ρ2 => .ok (.od ds) ρ2
    | _ => .bad) else .bad

section
variable {K : PySem.W.Frag} {F : Fm} {H0 H H0' H' : Hp} {σ : L2.St} {ρ : Rho} {v : V} {d : Dt} {s : Sl} {i : Nat} {a p : Addr} {o : HO} {g : Gx} {W : WX}
theorem wipe_get : ∀ (vs : List Nat) {i : Nat} {x : V}, (wipe σ vs)[i]? = some (some x) → σ[i]? = some (some x)
  | [], _, _, h => h
  | v :: vs, i, x, h => by
    unfold wipe at h
    rcases set_get h with ⟨_, z⟩ | ⟨_, z⟩
    · cases z
    · exact wipe_get vs z
theorem wipeR_get : ∀ (vs : List Nat) {i : Nat} {x : Sl}, (wipeR ρ vs)[i]? = some (some x) → ρ[i]? = some (some x)
  | [], _, _, h => h
  | v :: vs, i, x, h => by
    unfold wipeR at h
    rcases set_get h with ⟨_, z⟩ | ⟨_, z⟩
    · cases z
    · exact wipeR_get vs z
theorem noIo_iff : noIo ρ = true ↔ ∀ kvs, ρ[0]? ≠ some (some (.io kvs)) := by
  unfold noIo
  split
  · rename_i k e
    exact ⟨fun h => (Bool.false_ne_true h).elim, fun h => (h k e).elim⟩
  · rename_i h
    exact ⟨fun _ k e => h k e, fun _ => rfl⟩
theorem En.setN (E : En K F H0 H σ ρ) (hi : noIo ρ = true ∨ i ≠ 0) : En K F H0 H (σ.set i none) (ρ.set i none) := by
  have get : ∀ {j : Nat} {t : Sl}, (ρ.set i none)[j]? = some (some t) → j ≠ i ∧ ρ[j]? = some (some t) := fun {j t} e => by
    rcases set_get e with ⟨_, z⟩ | ⟨hne, z⟩
    · cases z
    · exact ⟨hne, z⟩
  refine ⟨E.gr, E.tb, E.ex, by rw [List.length_set, List.length_set, E.len], fun j t e => ?_, fun j k t u b hjk e1 e2 o1 o2 h1 h2 => ?_, fun b hb => ?_, fun j kvs e => E.io1 j kvs (get e).2, fun j S e => by rw [List.length_set]; exact E.st1 j S (get e).2⟩
  · obtain ⟨hne, z⟩ := get e
    obtain ⟨w, h1, h2⟩ := E.sl j t z
    exact ⟨w, by rw [List.getElem?_set_ne (Ne.symm hne)]; exact h1, h2⟩
  · obtain ⟨n1, z1⟩ := get e1
    obtain ⟨n2, z2⟩ := get e2
    rw [List.getElem?_set_ne (Ne.symm n1)] at h1
    rw [List.getElem?_set_ne (Ne.symm n2)] at h2
    exact E.sep j k t u b hjk z1 z2 o1 o2 h1 h2
  · obtain ⟨h1, ⟨kvs, h2⟩, h3⟩ := E.io b hb
    have hi0 : i ≠ 0 := by
      rcases hi with hi | hi
      · exact absurd h2 (noIo_iff.mp hi kvs)
      · exact hi
    exact ⟨by rw [List.getElem?_set_ne hi0]; exact h1, ⟨kvs, by rw [List.getElem?_set_ne hi0]; exact h2⟩, h3⟩
theorem noIo_wipe : ∀ (vs : List Nat), noIo ρ = true → noIo (wipeR ρ vs) = true := fun vs h => noIo_iff.mpr fun kvs e => noIo_iff.mp h kvs (wipeR_get vs e)
theorem En.wipe (E : En K F H0 H σ ρ) : ∀ (vs : List Nat), okW vs ρ = true → En K F H0 H (L2.wipe σ vs) (wipeR ρ vs)
  | [], _ => E
  | v :: vs, h => by
    unfold okW at h
    rw [Bool.or_eq_true] at h
    have h1 : okW vs ρ = true := by
      unfold okW
      rw [Bool.or_eq_true]
      rcases h with h | h
      · exact .inl h
      · rw [List.all_cons, Bool.and_eq_true] at h
        exact .inr h.2
    refine (E.wipe vs h1).setN ?_
    rcases h with h | h
    · exact .inl (noIo_wipe vs h)
    · rw [List.all_cons, Bool.and_eq_true] at h
      exact .inr (of_decide_eq_true h.1)
theorem En.unwipe {vs : List Nat} (E : En K F H0 H (L2.wipe σ vs) ρ) (hl : σ.length = ρ.length) : En K F H0 H σ ρ where
  gr := E.gr
  tb := E.tb
  ex := E.ex
  len := hl
  sl := fun j t e => by
    obtain ⟨w, h1, h2⟩ := E.sl j t e
    exact ⟨w, wipe_get vs h1, h2⟩
  sep := fun j k t u b hjk e1 e2 o1 o2 h1 h2 => by
    obtain ⟨w1, y1, _⟩ := E.sl j t e1
    obtain ⟨w2, y2, _⟩ := E.sl k u e2
    have z1 := wipe_get vs y1
    have z2 := wipe_get vs y2
    rw [h1] at z1
    rw [h2] at z2
    cases z1
    cases z2
    exact E.sep j k t u b hjk e1 e2 o1 o2 y1 y2
  io := fun b hb => by
    obtain ⟨h1, h2, h3⟩ := E.io b hb
    exact ⟨wipe_get vs h1, h2, h3⟩
  io1 := E.io1
  st1 := E.st1
theorem own_wipe {vs : List Nat} (o : OwnAt (wipe σ vs) ρ a) : OwnAt σ ρ a := by
  obtain ⟨i, s, h1, h2, h3⟩ := o
  exact ⟨i, s, h1, h2, wipe_get vs h3⟩
theorem own_wipeR {vs : List Nat} (o : OwnAt σ (wipeR ρ vs) a) : OwnAt σ ρ a := by
  obtain ⟨i, s, h1, h2, h3⟩ := o
  exact ⟨i, s, wipeR_get vs h1, h2, h3⟩
theorem wipe_set : ∀ (vs : List Nat) (σ : L2.St) {i : Nat} (x : Option V), i ∈ vs → wipe (σ.set i x) vs = wipe σ vs
  | v :: vs, σ, i, x, h => by
    unfold wipe
    by_cases hv : i = v
    · subst hv
      by_cases hm : i ∈ vs
      · rw [wipe_set vs σ x hm]
      · have : ∀ (us : List Nat) (σ : L2.St), i ∉ us → wipe (σ.set i x) us = (wipe σ us).set i x := by
          intro us
          induction us with
          | nil => intro σ _; rfl
          | cons u us ih =>
            intro σ hu
            unfold wipe
            rw [ih σ (fun z => hu (List.mem_cons_of_mem _ z))]
            have hne : i ≠ u := fun z => hu (by rw [z]; exact List.mem_cons_self)
            exact List.set_comm _ _ hne
        rw [this vs σ hm, List.set_set]
    · rw [wipe_set vs σ x (by rcases List.mem_cons.mp h with z | z; exact absurd z hv; exact z)]
theorem wipe_idem : ∀ (vs us : List Nat) (σ : L2.St), (∀ i ∈ us, i ∈ vs) → wipe (wipe σ us) vs = wipe σ vs
  | vs, [], σ, _ => rfl
  | vs, u :: us, σ, h => by
    show wipe ((wipe σ us).set u none) vs = _
    rw [wipe_set vs _ none (h u List.mem_cons_self), wipe_idem vs us σ fun i hi => h i (List.mem_cons_of_mem _ hi)]
theorem wipe_setAll (vs : List Nat) : ∀ (is : List Nat) (us : List V) (σ : L2.St), (∀ i ∈ is, i ∈ vs) → wipe (setAll is us σ) vs = wipe σ vs
  | [], _, σ, _ => rfl
  | i :: is, [], σ, _ => rfl
  | i :: is, u :: us, σ, h => by
    show wipe (setAll is us (σ.set i (some u))) vs = _
    rw [wipe_setAll vs is us _ fun j hj => h j (List.mem_cons_of_mem _ hj), wipe_set vs σ _ (h i List.mem_cons_self)]
/-- an object beside all is changed -/
theorem En.beside (E : En K F H0 H σ ρ) (h0 : H0 p = none) (hF : F.H p = none) (hn : ¬ OwnAt σ ρ p) (hl : (∃ xs, H p = some (.lst xs)) ∨ (∃ xs, H p = some (.dK xs)) ∨ H p = none) : En K F H0 (upd H p o) σ ρ := by
  have np : ∀ b u, H b = some u → (∀ xs, u ≠ .lst xs) → (∀ xs, u ≠ .dK xs) → b ≠ p := fun b u hb n1 n2 z => by
    rw [z] at hb
    rcases hl with ⟨xs, e⟩ | ⟨xs, e⟩ | e
    · rw [e] at hb; exact n1 xs (Option.some.inj hb).symm
    · rw [e] at hb; exact n2 xs (Option.some.inj hb).symm
    · rw [e] at hb; cases hb
  refine ⟨⟨E.gr.b0, fun b u hb nt hi => ?_, E.gr.off, fun b hb => ?_, E.gr.gk, E.gr.gs⟩, tab_away E.tb (fun b u hb n1 n2 => by rw [upd_ne (np b u hb n1 n2)]; exact hb) (fun _ _ h _ _ => h), fun b u hb => ?_, E.len, fun j t e => ?_, E.sep, E.io, E.io1, E.st1⟩
  · have : b ≠ p := fun z => by rw [z, hF] at hb; cases hb
    rw [upd_ne this]
    exact E.gr.keep b u hb nt hi
  · have nb : b ≠ p := fun z => hb (by rw [z]; exact hF)
    rw [upd_ne nb]
    exact E.gr.st b hb
  · rw [upd_ne (ne_of_none hb h0)]
    exact E.ex b u hb
  · obtain ⟨w, y1, y2⟩ := E.sl j t e
    refine ⟨w, y1, ?_⟩
    cases t with
    | fr d => exact y2
    | ol es =>
      obtain ⟨c, us, rfl, q1, q2, q3, q4⟩ := y2
      have : c ≠ p := fun z => hn ⟨j, _, e, rfl, z ▸ y1⟩
      exact ⟨c, us, rfl, q1, q2, by rw [upd_ne this]; exact q3, q4⟩
    | od es =>
      obtain ⟨c, us, rfl, q1, q2, q3, q4⟩ := y2
      have : c ≠ p := fun z => hn ⟨j, _, e, rfl, z ▸ y1⟩
      exact ⟨c, us, rfl, q1, q2, by rw [upd_ne this]; exact q3, q4⟩
    | raw w _ => exact y2
    | rf k => exact y2
    | sto S => exact StoR.mono (Same.refl _) (fun _ _ => Iff.rfl) (fun c j u h1 h2 _ => by rw [upd_ne (fun z => by rw [z, h0] at h1; cases h1)]; exact h2) y2
    | io es =>
      obtain ⟨c, us, rfl, q1, q2, q3, q4⟩ := y2
      have : c ≠ p := fun z => hn ⟨j, _, e, rfl, z ▸ y1⟩
      exact ⟨c, us, rfl, q1, q2, by rw [upd_ne this]; exact q3, q4⟩
theorem En.upF (E : En K F H0 H σ ρ) (hp : H p = none) : F.H p = none := by
  cases z : F.H p with
  | none => rfl
  | some o => exact absurd hp (E.still (by rw [z]; exact fun z => nomatch z))
theorem En.up0 (E : En K F H0 H σ ρ) (hp : H p = none) : H0 p = none := by
  exact E.ex.no hp
/-- a new thing becomes the base's -/
theorem tO_frz {f : Rho → R Sl} {σ : L2.St} {H : Hp} {Q : VK} (h : tD g F W (frzR f) σ H Q) : tO g F W f σ H Q := by
  obtain ⟨H0, ρ, E, q⟩ := h
  refine ⟨H0, ρ, E, ?_⟩
  unfold frzR at q
  cases e : f ρ with
  | ok s ρ1 =>
    rw [e] at q
    dsimp only [R.bind] at q
    intro v H0' H' E' m hs hfr
    cases s with
    | fr d => exact q v H0' H' E' m hs
    | raw d => exact q.elim
    | rf d => exact q.elim
    | sto d => exact q.elim
    | io d => exact q.elim
    | ol ds =>
      obtain ⟨a, vs, rfl, h1, h2, h3, h4⟩ := hs
      have hn := hfr rfl a rfl
      have no : ¬ OwnAt σ ρ1 a := fun z => E.notOwn hn (m.sub a z)
      have sm : Same H0' (upd H0' a (.lst vs)) := Same.of fun b u hb => by rw [upd_ne (ne_of_none hb h1)]; exact hb
      have gr : Gr ⟨H0', H', none, false⟩ H0' H' := Gr.refl H0' H' none
      have E2 : En g.K F (upd H0' a (.lst vs)) H' σ ρ1 := by
        refine ⟨⟨E'.gr.b0.trans sm, E'.gr.keep, fun b hb h => ?_, E'.gr.st, fun b ps h => (gg_new h1 (nt_lst _) b ps).mpr (E'.gr.gk b ps h), fun b ps h => E'.gr.gs b ps ((gg_new h1 (nt_lst _) b ps).mp h)⟩, fun p hp => ⟨by
          have np : p.1 ≠ a := fun z => by
            obtain ⟨_, ps, w2, _⟩ := E'.tb p hp
            rw [z, h3] at w2
            cases w2
          exact ⟨by rw [upd_ne np]; exact (E'.tb p hp).1.1, tbf_b (E'.tb p hp).1.2 sm⟩, (E'.tb p hp).2⟩, fun b u hb => ?_, E'.len, fun j t ej => ?_, E'.sep, E'.io, E'.io1, E'.st1⟩
        · have : b ≠ a := fun z => hb (z ▸ h2)
          rw [upd_ne this]
          exact E'.gr.off b hb h
        · by_cases hba : b = a
          · subst hba; rw [upd_same] at hb; cases hb; exact ⟨fun _ => h3, by rw [h3]; exact fun z => nomatch z⟩
          · rw [upd_ne hba] at hb; exact E'.ex b u hb
        · obtain ⟨w, y1, y2⟩ := E'.sl j t ej
          refine ⟨w, y1, ?_⟩
          cases t with
          | fr d => exact Da.mono sm y2
          | ol es =>
            obtain ⟨c, us, rfl, q1, q2, q3, q4⟩ := y2
            have : c ≠ a := fun z => no ⟨j, _, ej, rfl, z ▸ y1⟩
            exact ⟨c, us, rfl, by rw [upd_ne this]; exact q1, q2, q3, q4.mono sm⟩
          | od es =>
            obtain ⟨c, us, rfl, q1, q2, q3, q4⟩ := y2
            have : c ≠ a := fun z => no ⟨j, _, ej, rfl, z ▸ y1⟩
            exact ⟨c, us, rfl, by rw [upd_ne this]; exact q1, q2, q3, q4.mono sm⟩
          | raw w _ => exact y2
          | rf k =>
            obtain ⟨c, rfl, q⟩ := y2
            exact ⟨c, rfl, (gg_new h1 (nt_lst _) _ _).mpr q⟩
          | sto S => exact StoR.mono sm (gg_new h1 (nt_lst _)) (fun _ _ _ _ h _ => h) y2
          | io es =>
            obtain ⟨c, us, rfl, q1, q2, q3, q4⟩ := y2
            have : c ≠ a := fun z => no ⟨j, _, ej, rfl, z ▸ y1⟩
            exact ⟨c, us, rfl, by rw [upd_ne this]; exact q1, q2, q3, q4.mono sm⟩
      refine q _ _ H' E2 ⟨m.b0.trans sm, m.keep, fun b hb h hno => ?_, m.sub, m.st, fun b ps h => (gg_new h1 (nt_lst _) b ps).mpr (m.gk b ps h)⟩ (.lst upd_same (h4.mono sm))
      have : b ≠ a := fun z => hb (z ▸ hn)
      rw [upd_ne this]
      exact m.off b hb h hno
    | od ds =>
      obtain ⟨a, vs, rfl, h1, h2, h3, h4⟩ := hs
      have hn := hfr rfl a rfl
      have no : ¬ OwnAt σ ρ1 a := fun z => E.notOwn hn (m.sub a z)
      have sm : Same H0' (upd H0' a (.dK vs)) := Same.of fun b u hb => by rw [upd_ne (ne_of_none hb h1)]; exact hb
      have E2 : En g.K F (upd H0' a (.dK vs)) H' σ ρ1 := by
        refine ⟨⟨E'.gr.b0.trans sm, E'.gr.keep, fun b hb h => ?_, E'.gr.st, fun b ps h => (gg_new h1 (nt_dK _) b ps).mpr (E'.gr.gk b ps h), fun b ps h => E'.gr.gs b ps ((gg_new h1 (nt_dK _) b ps).mp h)⟩, fun p hp => ⟨by
          have np : p.1 ≠ a := fun z => by
            obtain ⟨_, ps, w2, _⟩ := E'.tb p hp
            rw [z, h3] at w2
            cases w2
          exact ⟨by rw [upd_ne np]; exact (E'.tb p hp).1.1, tbf_b (E'.tb p hp).1.2 sm⟩, (E'.tb p hp).2⟩, fun b u hb => ?_, E'.len, fun j t ej => ?_, E'.sep, E'.io, E'.io1, E'.st1⟩
        · have : b ≠ a := fun z => hb (z ▸ h2)
          rw [upd_ne this]
          exact E'.gr.off b hb h
        · by_cases hba : b = a
          · subst hba; rw [upd_same] at hb; cases hb; exact ⟨fun _ => h3, by rw [h3]; exact fun z => nomatch z⟩
          · rw [upd_ne hba] at hb; exact E'.ex b u hb
        · obtain ⟨w, y1, y2⟩ := E'.sl j t ej
          refine ⟨w, y1, ?_⟩
          cases t with
          | fr d => exact Da.mono sm y2
          | ol es =>
            obtain ⟨c, us, rfl, q1, q2, q3, q4⟩ := y2
            have : c ≠ a := fun z => no ⟨j, _, ej, rfl, z ▸ y1⟩
            exact ⟨c, us, rfl, by rw [upd_ne this]; exact q1, q2, q3, q4.mono sm⟩
          | od es =>
            obtain ⟨c, us, rfl, q1, q2, q3, q4⟩ := y2
            have : c ≠ a := fun z => no ⟨j, _, ej, rfl, z ▸ y1⟩
            exact ⟨c, us, rfl, by rw [upd_ne this]; exact q1, q2, q3, q4.mono sm⟩
          | raw w _ => exact y2
          | rf k =>
            obtain ⟨c, rfl, q⟩ := y2
            exact ⟨c, rfl, (gg_new h1 (nt_dK _) _ _).mpr q⟩
          | sto S => exact StoR.mono sm (gg_new h1 (nt_dK _)) (fun _ _ _ _ h _ => h) y2
          | io es =>
            obtain ⟨c, us, rfl, q1, q2, q3, q4⟩ := y2
            have : c ≠ a := fun z => no ⟨j, _, ej, rfl, z ▸ y1⟩
            exact ⟨c, us, rfl, by rw [upd_ne this]; exact q1, q2, q3, q4.mono sm⟩
      refine q _ _ H' E2 ⟨m.b0.trans sm, m.keep, fun b hb h hno => ?_, m.sub, m.st, fun b ps h => (gg_new h1 (nt_dK _) b ps).mpr (m.gk b ps h)⟩ (.dct upd_same (h4.mono sm))
      have : b ≠ a := fun z => hb (z ▸ hn)
      rw [upd_ne this]
      exact m.off b hb h hno
  | ex x ρ1 =>
    rw [e] at q
    exact q
  | bad =>
    rw [e] at q
    exact q
/-- a new thing, not the base's -/
theorem En.postO {ρ1 : Rho} {B0 B : Hp} (E : En K F H0 H σ ρ1) (m : Mv σ ρ ρ1 B0 B H0 H) (hp : H p = none) : En K F H0 (upd H p o) σ ρ1 ∧ Mv σ ρ ρ1 B0 B H0 (upd H p o) ∧ H0 p = none ∧ F.H p = none ∧ B p = none :=
  ⟨E.grow (gr_newO hp) (same_newO hp E.ex), m.trans (gr_newO hp).mv, E.up0 hp, E.upF hp, m.fresh hp⟩
theorem tLstO_of {f : Rho → R (List Dt)} {σ : L2.St} {H : Hp} {Q : VK} (h : tO g F W (lstO f) σ H Q) : tLst (tDA g F W f) σ H Q := by
  obtain ⟨H0, ρ, E, q⟩ := h
  refine ⟨H0, ρ, E, ?_⟩
  unfold lstO at q
  cases e : f ρ with
  | ok ds ρ1 =>
    rw [e] at q
    dsimp only [R.bind] at q
    intro vs H0' H' E' m hd
    by_cases hl : ds.length ≤ 1000000
    · rw [if_pos hl] at q
      refine ⟨by rw [hd.length]; exact sizeM hl, fun p hp => ?_⟩
      obtain ⟨q1, q2, q3, q4, q5⟩ := E'.postO (o := .lst vs) m hp
      exact q _ _ _ q1 q2 ⟨p, vs, rfl, q3, q4, upd_same, hd⟩ fun _ b z => by cases z; exact q5
    · rw [if_neg hl] at q
      exact q.elim
  | ex x ρ1 =>
    rw [e] at q
    exact q
  | bad =>
    rw [e] at q
    exact q
theorem tDNew_of {σ : L2.St} {H : Hp} {Q : VK} (h : tO g F W dctO0 σ H Q) : tDNewK σ H Q := by
  obtain ⟨H0, ρ, E, q⟩ := h
  intro p hp
  obtain ⟨q1, q2, q3, q4, q5⟩ := E.postO (o := .dK []) Mv.refl hp
  exact q _ _ _ q1 q2 ⟨p, [], rfl, q3, q4, upd_same, .nil⟩ fun _ b z => by cases z; exact q5
theorem tO_fr {f : Rho → R Dt} {σ : L2.St} {H : Hp} {Q : VK} (h : tO g F W (frO f) σ H Q) : tD g F W f σ H Q := by
  obtain ⟨H0, ρ, E, q⟩ := h
  refine ⟨H0, ρ, E, ?_⟩
  unfold frO at q
  cases e : f ρ with
  | ok d ρ1 =>
    rw [e] at q
    exact fun v H0' H' E' m hd => q v H0' H' E' m hd (fun z => nomatch z)
  | ex x ρ1 =>
    rw [e] at q
    exact q
  | bad =>
    rw [e] at q
    exact q
theorem bind_okR {α β : Type} {r : R α} {k : α → Rho → R β} {b : β} {ρ' : Rho} (h : r.bind k = .ok b ρ') : ∃ a ρ1, r = .ok a ρ1 ∧ k a ρ1 = .ok b ρ' := bind_ok h

/-- [e for t in it if c] -/
theorem tLc_of {it : Rho → R (List Dt)} {t : Dt → Rho → Option Rho} {c : Rho → R Bool} {el : Rho → R Dt} {vs is : List Nat} (his : ∀ i ∈ is, i ∈ vs) {σ : L2.St} {H : Hp} {Q : VK} (h : tO g F W (lcO it t c el vs) σ H Q) :
    tLc (tI g F W it) (tG g F is t) (tDT g F WF c) (tD g F WF el) vs σ H Q := by
  obtain ⟨H0, ρ, E, q⟩ := h
  refine ⟨H0, ρ, E, ?_⟩
  unfold lcO at q
  cases e : it ρ with
  | ex x ρ1 =>
    rw [e] at q
    exact q
  | bad =>
    rw [e] at q
    exact q
  | ok xs ρ1 =>
    rw [e] at q
    dsimp only [R.bind] at q
    intro J B0 B E1 m1 hJ D hD
    by_cases hc : okW vs ρ1 = true ∧ xs.length ≤ 1000000
    · rw [if_pos hc] at q
      cases er : lcL t c el vs xs (wipeR ρ1 vs) with
      | ex _ _ => rw [er] at q; exact q.elim
      | bad => rw [er] at q; exact q.elim
      | ok full ρe =>
        rw [er] at q
        dsimp only at q
        obtain ⟨G, Y, wk, hG, hY⟩ := hJ
        have hFD : F.H D = none := E1.upF hD
        have nD : ¬ OwnAt σ ρ1 D := E1.notOwn hD
        have Ew := E1.wipe vs hc.1
        have nDw : ¬ OwnAt (wipe σ vs) (wipeR ρ1 vs) D := fun z => nD (own_wipe (own_wipeR z))
        refine lc_it wk (fun i H => ∃ C0 ρc acc done tl, En g.K F C0 H (wipe σ vs) ρc ∧ Mw σ ρ1 (wipe σ vs) ρc B0 B C0 H ∧ H D = some (.lst acc) ∧ C0 D = none ∧ DaAll g.K C0 acc done ∧ done.length ≤ i ∧
          lcL t c el vs (xs.drop i) ρc = .ok tl ρe ∧ full = done ++ tl) ?_ (fun i H _ ⟨C0, ρc, acc, done, tl, Ec, mc, _⟩ => hG H (mc.b0.trans Ec.ex)) ?_ ?_
        · refine ⟨B0, wipeR ρ1 vs, [], [], full, Ew.beside (E1.up0 hD) hFD nDw (.inr (.inr hD)), ⟨Same.refl _, fun a o h _ _ _ => ?_, fun _ _ h _ => h, fun a o => own_wipe (own_wipeR o), fun a h => ?_, fun _ _ h => h⟩, upd_same, E1.up0 hD, .nil, Nat.le_refl _, by rw [List.drop_zero]; exact er, rfl⟩
          · rw [upd_ne (ne_of_none h hD)]
            exact h
          · have : a ≠ D := fun z => h (z ▸ hD)
            rw [upd_ne this]
            exact h
        · rintro i x H H' hi ⟨C0, ρc, acc, done, tl, Ec, mc, hacc, hC, hdd, hlen, hrun, hfull⟩ y
          obtain ⟨d, hd, hx⟩ := hY i H x H' hi (mc.b0.trans Ec.ex) y
          have nc : ¬ OwnAt (wipe σ vs) ρc D := fun z => nD (mc.sub D z)
          obtain ⟨D0, Ed, md, dd⟩ := item_at Ec mc.b0 hx
          have hacc' : H' D = some (.lst acc) := md.kl D hacc hC nc
          have hC' : D0 D = none := md.off D (by rw [hacc]; exact fun z => nomatch z) hC nc
          have hdrop : xs.drop i = d :: xs.drop (i + 1) := by
            obtain ⟨hlt, hget⟩ := List.getElem?_eq_some_iff.mp hd
            rw [List.drop_eq_getElem_cons hlt, hget]
          rw [hdrop] at hrun
          unfold lcL at hrun
          cases et : t d ρc with
          | none => rw [et] at hrun; cases hrun
          | some ρ2 =>
            rw [et] at hrun
            dsimp only at hrun
            obtain ⟨b, ρ3, hb, hrun⟩ := bind_ok hrun
            refine ⟨D0, ρc, d, Ed, dd, ρ2, et, fun us E2 ow => ?_⟩
            have hw2 : wipe (setAll is us (wipe σ vs)) vs = wipe σ vs := by rw [wipe_setAll vs is us _ his, wipe_idem vs vs σ fun _ z => z]
            have n2 : ¬ OwnAt (setAll is us (wipe σ vs)) ρ2 D := fun z => nc (ow D z)
            have m2 : Mw (wipe σ vs) ρc (setAll is us (wipe σ vs)) ρ2 D0 H' D0 H' := ⟨Same.refl _, fun _ _ h _ _ _ => h, fun _ _ h _ => h, fun a o => ow a o, fun _ h => h, fun _ _ h => h⟩
            refine ⟨hw2, D0, ρ2, E2, ?_⟩
            rw [hb]
            intro I0 I E3 m3
            have n3 : ¬ OwnAt (setAll is us (wipe σ vs)) ρ3 D := fun z => n2 (m3.sub D z)
            have acc3 : I D = some (.lst acc) := m3.kl D hacc' hC' n2
            have C3 : I0 D = none := m3.off D (by rw [hacc']; exact fun z => nomatch z) hC' n2
            have M3 := (mc.trans md).trans (m2.trans m3)
            have down : ∀ {J0 J : Hp} {ρ4 : Rho}, En g.K F J0 J (setAll is us (wipe σ vs)) ρ4 → Mw σ ρ1 (setAll is us (wipe σ vs)) ρ4 B0 B J0 J → En g.K F J0 J (wipe σ vs) (wipeR ρ4 vs) ∧ Mw σ ρ1 (wipe σ vs) (wipeR ρ4 vs) B0 B J0 J := fun {J0 J ρ4} E4 M4 => by
              have ok4 : okW vs ρ4 = true := by
                have h1 := hc.1
                unfold okW at h1 ⊢
                rw [Bool.or_eq_true] at h1 ⊢
                rcases h1 with h1 | h1
                · left
                  refine noIo_iff.mpr fun kvs ek => ?_
                  obtain ⟨w, y1, a, ks, rfl, z2, z3, z4, z5⟩ := E4.sl 0 _ ek
                  obtain ⟨_, ⟨kv, y2⟩, _⟩ := E1.io a z3
                  exact noIo_iff.mp h1 kv y2
                · exact .inr h1
              have E5 := E4.wipe vs ok4
              rw [hw2] at E5
              refine ⟨E5, M4.b0, M4.keep, M4.off, fun a o => M4.sub a ?_, M4.st, M4.gk⟩
              have o2 := own_wipeR o
              obtain ⟨i, s, y1, y2, y3⟩ := o2
              rw [← hw2] at y3
              exact ⟨i, s, y1, y2, wipe_get vs y3⟩
            cases b with
            | true =>
              rw [if_pos rfl] at hrun ⊢
              obtain ⟨d2, ρ4, hel, hrun⟩ := bind_ok hrun
              obtain ⟨ds, ρ5, hrest, hrun⟩ := bind_ok hrun
              cases hrun
              refine ⟨I0, ρ3, E3, ?_⟩
              rw [hel]
              intro v2 J0 J' E4 m4 dv
              have n4 : ¬ OwnAt (setAll is us (wipe σ vs)) ρ4 D := fun z => n3 (m4.sub D z)
              have acc4 : J' D = some (.lst acc) := m4.kl D acc3 C3 n3
              have C4 : J0 D = none := m4.off D (by rw [acc3]; exact fun z => nomatch z) C3 n3
              obtain ⟨E5, M5⟩ := down E4 (M3.trans m4)
              have n5 : ¬ OwnAt (wipe σ vs) (wipeR ρ4 vs) D := fun z => nD (M5.sub D z)
              have hal : acc.length = done.length := hdd.length
              refine ⟨acc, acc4, Nat.lt_of_le_of_lt (by rw [hal]; exact Nat.le_trans hlen (Nat.le_trans (Nat.le_of_lt hi) hc.2)) (by decide), J0, wipeR ρ4 vs, acc ++ [v2], done ++ [d2], ds, E5.beside C4 hFD n5 (.inl ⟨_, acc4⟩), ⟨M5.b0, fun a o h nt ng ho => ?_, M5.off, M5.sub, fun a h => ?_, M5.gk⟩, upd_same, C4,
                (((hdd.mono md.b0).mono m3.b0).mono m4.b0).append (.cons dv .nil), by rw [List.length_append]; exact Nat.succ_le_succ hlen, hrest, by rw [hfull, List.append_assoc]; rfl⟩
              · rw [upd_ne (ne_of_none h hD)]
                exact M5.keep a o h nt ng ho
              · have : a ≠ D := fun z => h (z ▸ hD)
                rw [upd_ne this]
                exact M5.st a h
            | false =>
              rw [if_neg Bool.false_ne_true] at hrun ⊢
              obtain ⟨E5, M5⟩ := down E3 M3
              exact ⟨I0, wipeR ρ3 vs, acc, done, tl, E5, M5, acc3, C3, (hdd.mono md.b0).mono m3.b0, Nat.le_succ_of_le hlen, hrun, hfull⟩
        · rintro H ⟨C0, ρc, acc, done, tl, Ec, mc, hacc, hC, hdd, hlen, hrun, hfull⟩
          rw [List.drop_length] at hrun
          cases hrun
          rw [List.append_nil] at hfull
          subst hfull
          have E6 : En g.K F C0 H σ ρe := Ec.unwipe (by rw [E1.len, ← E1.len, ← wipe_length σ vs, Ec.len])
          refine q _ C0 H E6 (m1.trans ⟨mc.b0, mc.keep, mc.off, fun a o => ?_, mc.st, mc.gk⟩) ⟨D, acc, rfl, hC, hFD, hacc, hdd⟩ fun _ b z => by cases z; exact m1.fresh hD
          obtain ⟨i, s, y1, y2, y3⟩ := o
          obtain ⟨w, z1, _⟩ := Ec.sl i s y1
          have z2 := wipe_get vs z1
          rw [y3] at z2
          cases z2
          exact mc.sub a ⟨i, s, y1, y2, z1⟩
    · rw [if_neg hc] at q
      exact q.elim
end
end DW

set_option Elab.async false
set_option linter.all false
set_option maxRecDepth 100000
set_option maxHeartbeats 4000000
/-! DWA: the text's side of DW9; walks; append, d[k] = v, a, b = x, y -/
namespace DW
open PySem PySem.Spec PyProof.Rows L2

/-! ### what is walked -/
def itD : Dt → Option (List Dt)
  | .lst ds => some ds
  | .tup ds => some ds
  | .scr ns => some (ns.map .int)
  | .str z => some (z.cps.toList.map fun c => .str ⟨#[c]⟩)
  | _ => none
def itF (f : Rho → R Dt) : Rho → R (List Dt) := fun ρ => (f ρ).bind fun d ρ1 => match itD d with
  | some ds => .ok ds ρ1
  | none => .bad
def rngD1 : List Dt → Option (List Dt)
  | [.int n] => if -(2 ^ 62) ≤ n ∧ n < 2 ^ 62 then some ((List.range n.toNat).map fun i => .int (i : Nat)) else none
  | _ => none
def rngD2 : List Dt → Option (List Dt)
  | [.int a, .int b] => if -(2 ^ 62) ≤ a ∧ a < 2 ^ 62 ∧ -(2 ^ 62) ≤ b ∧ b < 2 ^ 62 then some ((List.range (b - a).toNat).map fun i => .int (a + (i : Nat))) else none
  | _ => none
def rngD3 : List Dt → Option (List Dt)
  | [.int a, .int b, .int c] => if 0 < c ∧ c < 2 ^ 29 ∧ -(2 ^ 62) ≤ a ∧ a < 2 ^ 62 ∧ -(2 ^ 62) ≤ b ∧ b < 2 ^ 62 then some ((List.range (if a < b then (b - a - 1) / c + 1 else 0).toNat).map fun i => .int (a + (i : Nat) * c)) else none
  | _ => none
def rngF (gd : List Dt → Option (List Dt)) (f : Rho → R (List Dt)) : Rho → R (List Dt) := fun ρ => (f ρ).bind fun ds ρ1 => match gd ds with
  | some xs => .ok xs ρ1
  | none => .bad
theorem PI.wk {X : Cx} {tg e : Expr} {t u : TI} (h : PI X tg e t) (k : ∀ σ H Q, u σ H Q → t σ H Q) : PI X tg e u := ⟨fun pins s σ H Q I q => h.run pins s σ H Q I (k σ H Q q)⟩
theorem PI.or {X : Cx} {tg e : Expr} {t u : TI} (h : PI X tg e t) (h' : PI X tg e u) : PI X tg e (fun σ H Q => t σ H Q ∨ u σ H Q) := ⟨fun pins s σ H Q I q => by
  rcases q with q | q
  · exact h.run pins s σ H Q I q
  · exact h'.run pins s σ H Q I q⟩
section
variable {g : Gx} {F : Fm} {W : WX} {σ : L2.St} {H : Hp} {K : PySem.W.Frag}
theorem itd_list {H0 : Hp} {a : Addr} {vs : List V} {ds : List Dt} (h1 : H0 a = some (.lst vs)) (h2 : DaAll K H0 vs ds) : ItD K (Itl K a) H0 ds := by
  refine ⟨_, _, by rw [← h2.length]; exact walk_list (K := K) (a := a) (xs := vs), fun H s => SqL.of (s.hit h1), fun i H x H' hi s y => ?_⟩
  obtain ⟨rfl, hx⟩ := y
  obtain ⟨d, hd, dd⟩ := h2.getV hx
  exact ⟨d, hd, .inl ⟨rfl, dd⟩⟩
theorem itd_tup {H0 : Hp} {a : Addr} {vs : List V} {ds : List Dt} (h1 : SqT K H0 a vs) (h2 : DaAll K H0 vs ds) : ItD K (Itt K a) H0 ds := by
  refine ⟨_, _, by rw [← h2.length]; exact walk_tup (K := K) (a := a) (xs := vs), fun H s => seqT_mono s h1, fun i H x H' hi s y => ?_⟩
  obtain ⟨rfl, hx⟩ := y
  obtain ⟨d, hd, dd⟩ := h2.getV hx
  exact ⟨d, hd, .inl ⟨rfl, dd⟩⟩
theorem itd_scr {H0 : Hp} {a : Addr} {ns : List Int} (h1 : SqL K H0 a (ns.map V.int)) : ItD K (Itl K a) H0 (ns.map .int) := by
  refine ⟨_, _, by rw [List.length_map, ← List.length_map (f := V.int) (as := ns)]; exact walk_list (K := K) (a := a) (xs := ns.map V.int), fun H s => seqL_mono s h1, fun i H x H' hi s y => ?_⟩
  obtain ⟨rfl, hx⟩ := y
  obtain ⟨d, hd, dd⟩ := (daInts (K := K) (H := H0) ns).getV hx
  exact ⟨d, hd, .inl ⟨rfl, dd⟩⟩
theorem itd_str {H0 : Hp} {z : Str} : ItD K (Its z) H0 (z.cps.toList.map fun c => .str ⟨#[c]⟩) := by
  refine ⟨_, _, by rw [List.length_map]; exact walk_str (z := z), fun H s => trivial, fun i H x H' hi s y => ?_⟩
  obtain ⟨rfl, c, hc, rfl⟩ := y
  refine ⟨.str ⟨#[c]⟩, ?_, .inl ⟨rfl, .str _⟩⟩
  rw [List.getElem?_map, Array.getElem?_toList, hc]
  rfl
theorem itd_rng {H0 : Hp} (lo : Int) (n : Nat) : ItD K (Itr lo n) H0 ((List.range n).map fun i => .int (lo + (i : Nat))) := by
  refine ⟨_, _, by rw [List.length_map, List.length_range]; exact walk_range (lo := lo) (n := n), fun H s => trivial, fun i H x H' hi s y => ?_⟩
  rw [List.length_map, List.length_range] at hi
  obtain ⟨rfl, rfl⟩ := y
  refine ⟨.int (lo + i), ?_, .inl ⟨rfl, .int _⟩⟩
  rw [List.getElem?_map, List.getElem?_range hi]
  rfl
theorem itd_rngC {H0 : Hp} (lo c : Int) (n : Nat) : ItD K (Itc lo c n) H0 ((List.range n).map fun i => .int (lo + (i : Nat) * c)) := by
  refine ⟨_, _, by rw [List.length_map, List.length_range]; exact walk_rangeC (lo := lo) (c := c) (n := n), fun H s => trivial, fun i H x H' hi s y => ?_⟩
  rw [List.length_map, List.length_range] at hi
  obtain ⟨rfl, rfl⟩ := y
  refine ⟨.int (lo + i * c), ?_, .inl ⟨rfl, .int _⟩⟩
  rw [List.getElem?_map, List.getElem?_range hi]
  rfl
def iAll (K : PySem.W.Frag) (t : TE) : TI := fun σ H R => iList K t σ H R ∨ iTup K t σ H R ∨ iStr t σ H R
theorem iAll_of {f : Rho → R Dt} {Rk : It → Hp → Prop} (h : tI g F W (itF f) σ H Rk) : iAll g.K (tD g F W f) σ H Rk := by
  obtain ⟨H0, ρ, E, q⟩ := h
  unfold itF at q
  cases e : f ρ with
  | ok d ρ1 =>
    rw [e] at q
    dsimp only [R.bind] at q
    cases d with
    | lst ds =>
      refine .inl ⟨H0, ρ, E, ?_⟩
      rw [e]
      intro v H0' H' E' m hd
      cases hd with
      | lst h1 h2 => exact ⟨_, rfl, ⟨_, SqL.of (E'.ex.hit h1)⟩, q _ H0' H' E' m (itd_list h1 h2)⟩
    | scr ds =>
      refine .inl ⟨H0, ρ, E, ?_⟩
      rw [e]
      intro v H0' H' E' m hd
      cases hd with
      | scr h1 => exact ⟨_, rfl, ⟨_, seqL_mono E'.ex h1⟩, q _ H0' H' E' m (itd_scr h1)⟩
    | tup ds =>
      refine .inr (.inl ⟨H0, ρ, E, ?_⟩)
      rw [e]
      intro v H0' H' E' m hd
      cases hd with
      | tup h1 h2 => exact ⟨_, rfl, ⟨_, seqT_mono E'.ex h1⟩, q _ H0' H' E' m (itd_tup h1 h2)⟩
    | str z =>
      refine .inr (.inr ⟨H0, ρ, E, ?_⟩)
      rw [e]
      intro v H0' H' E' m hd
      cases hd
      exact ⟨z, rfl, q _ H0' H' E' m itd_str⟩
    | _ => exact q.elim
  | ex x ρ1 =>
    rw [e] at q
    refine .inl ⟨H0, ρ, E, ?_⟩
    rw [e]
    exact q
  | bad =>
    rw [e] at q
    exact q.elim
theorem rng_small {a b c : Int} (h : 0 < c ∧ c < 2 ^ 29 ∧ -(2 ^ 62) ≤ a ∧ a < 2 ^ 62 ∧ -(2 ^ 62) ≤ b ∧ b < 2 ^ 62) : RgC a b c (if a < b then (b - a - 1) / c + 1 else 0).toNat := by
  obtain ⟨h1, h2, h3, h4, h5, h6⟩ := h
  refine ⟨by omega, by omega, ?_, ?_⟩
  · have hs : Builtin.Range.rangeSize a b c = (if a < b then (b - a - 1) / c + 1 else 0) := by
      unfold Builtin.Range.rangeSize
      rw [if_pos h1]
    have hq : a < b → 0 ≤ (b - a - 1) / c ∧ (b - a - 1) / c ≤ b - a - 1 := fun hab => ⟨Int.ediv_nonneg (by omega) (by omega), Int.ediv_le_self _ (by omega)⟩
    unfold Builtin.Range.small
    rw [hs]
    simp only [Builtin.Range.rangeFitsLong, Bool.and_eq_true, Bool.or_eq_true, decide_eq_true_eq, beq_iff_eq, gt_iff_lt, h1, if_true]
    split
    · rename_i hab
      obtain ⟨q1, q2⟩ := hq hab
      omega
    · omega
  · unfold Builtin.Range.rangeSize
    rw [if_pos h1]
    split
    · have : 0 ≤ (b - a - 1) / c := Int.ediv_nonneg (by omega) (by omega)
      omega
    · rfl
theorem iRng1_of {f : Rho → R (List Dt)} {Rk : It → Hp → Prop} (h : tI g F W (rngF rngD1 f) σ H Rk) : iRng1 (tDA g F W f) σ H Rk := by
  obtain ⟨H0, ρ, E, q⟩ := h
  refine ⟨H0, ρ, E, ?_⟩
  unfold rngF at q
  cases e : f ρ with
  | ok ds ρ1 =>
    rw [e] at q
    dsimp only [R.bind] at q
    intro vs H0' H' E' m hd
    cases e2 : rngD1 ds with
    | none => rw [e2] at q; exact q.elim
    | some xs =>
      rw [e2] at q
      unfold rngD1 at e2
      split at e2
      · split at e2
        · rename_i n hb
          cases e2
          have : vs = [V.int n] := hd.ints (ns := [n])
          refine ⟨n, this, hb.1, hb.2, q _ H0' H' E' m ?_⟩
          have z := itd_rng (K := g.K) (H0 := H0') 0 n.toNat
          simpa using z
        · cases e2
      · cases e2
  | ex x ρ1 =>
    rw [e] at q
    exact q
  | bad =>
    rw [e] at q
    exact q
theorem iRng2_of {f : Rho → R (List Dt)} {Rk : It → Hp → Prop} (h : tI g F W (rngF rngD2 f) σ H Rk) : iRng2 (tDA g F W f) σ H Rk := by
  obtain ⟨H0, ρ, E, q⟩ := h
  refine ⟨H0, ρ, E, ?_⟩
  unfold rngF at q
  cases e : f ρ with
  | ok ds ρ1 =>
    rw [e] at q
    dsimp only [R.bind] at q
    intro vs H0' H' E' m hd
    cases e2 : rngD2 ds with
    | none => rw [e2] at q; exact q.elim
    | some xs =>
      rw [e2] at q
      unfold rngD2 at e2
      split at e2
      · split at e2
        · rename_i a b hb
          cases e2
          have : vs = [V.int a, V.int b] := hd.ints (ns := [a, b])
          exact ⟨a, b, this, hb, q _ H0' H' E' m (itd_rng _ _)⟩
        · cases e2
      · cases e2
  | ex x ρ1 =>
    rw [e] at q
    exact q
  | bad =>
    rw [e] at q
    exact q
theorem iRng3_of {f : Rho → R (List Dt)} {Rk : It → Hp → Prop} (h : tI g F W (rngF rngD3 f) σ H Rk) : iRng3 (tDA g F W f) σ H Rk := by
  obtain ⟨H0, ρ, E, q⟩ := h
  refine ⟨H0, ρ, E, ?_⟩
  unfold rngF at q
  cases e : f ρ with
  | ok ds ρ1 =>
    rw [e] at q
    dsimp only [R.bind] at q
    intro vs H0' H' E' m hd
    cases e2 : rngD3 ds with
    | none => rw [e2] at q; exact q.elim
    | some xs =>
      rw [e2] at q
      unfold rngD3 at e2
      split at e2
      · split at e2
        · rename_i a b c hb
          cases e2
          have : vs = [V.int a, V.int b, V.int c] := hd.ints (ns := [a, b, c])
          exact ⟨a, b, c, _, this, rng_small hb, q _ H0' H' E' m (itd_rngC _ _ _)⟩
        · cases e2
      · cases e2
  | ex x ρ1 =>
    rw [e] at q
    exact q
  | bad =>
    rw [e] at q
    exact q
end
end DW

set_option Elab.async false
set_option linter.all false
set_option maxRecDepth 100000
set_option maxHeartbeats 4000000
/-! DWB: rules: made things, walks, append, stores, methods -/
namespace DW
open PySem PySem.Spec PyProof.Rows L2

section
variable {X : Cx} {W : WX} {a b c e : Expr} {es : List Expr} {pos p p2 p3 : Pos} {f1 f2 f3 : Rho → R Dt} {fa : Rho → R (List Dt)} {fo : Rho → R Sl}
theorem do_lst (h : DA X W es fa) : DO X W (.List es pos) (lstO fa) := fun F => PE.wk (pe_lst (h F)) fun _ _ _ q => tLstO_of q
theorem do_dct0 : DO X W (.Dict [] [] pos) dctO0 := fun F => PE.wk pe_dnewK fun _ _ _ q => tDNew_of q
theorem do_fr (h : DE X W e f1) : DO X W e (frO f1) := fun F => PE.wk (h F) fun _ _ _ q => tO_fr q
theorem de_do (h : DO X W e fo) : DE X W e (frzR fo) := fun F => PE.wk (h F) fun _ _ _ q => tO_frz q
/-! ### walks -/
theorem di_all {tg : Expr} (h : DE X W e f1) : DI X W tg e (itF f1) := fun F => PI.wk (PI.or (pi_list (h F)) (PI.or (pi_tup (h F)) (pi_str (h F)))) fun _ _ _ q => iAll_of q
theorem di_range1 {tg : Expr} (hg : Gl X "range") (hm : X.mg "range" = none) (h : DA X W [a] fa) (hs : starEach [a] X.env = [(false, eval a X.env)] := by rfl) : DI X W tg (.Call (.Name "range" p) [a] [] pos) (rngF rngD1 fa) := fun F => PI.wk (pi_range1 hg hm (h F) hs) fun _ _ _ q => iRng1_of q
theorem di_range2 {tg : Expr} (hg : Gl X "range") (hm : X.mg "range" = none) (h : DA X W [a, b] fa) (hs : starEach [a, b] X.env = [(false, eval a X.env), (false, eval b X.env)] := by rfl) (hs2 : starEach [b] X.env = [(false, eval b X.env)] := by rfl) : DI X W tg (.Call (.Name "range" p) [a, b] [] pos) (rngF rngD2 fa) := fun F => PI.wk (pi_range2 hg hm (h F) hs hs2) fun _ _ _ q => iRng2_of q
theorem di_range3 {tg : Expr} (hg : Gl X "range") (hm : X.mg "range" = none) (h : DA X W [a, b, c] fa) (hs : starEach [a, b, c] X.env = (false, eval a X.env) :: starEach [b, c] X.env := by rfl) (hpl : (backTo pos (starEach [b, c] X.env)).any (·.1) = false := by rfl) : DI X W tg (.Call (.Name "range" p) [a, b, c] [] pos) (rngF rngD3 fa) := fun F => PI.wk (pi_range3 hg hm (h F) hs hpl) fun _ _ _ q => iRng3_of q
/-! ### tests of comprehensions -/
def DTs (X : Cx) (W : WX) (ifs : List Expr) (f : Rho → R Bool) : Prop := ∀ F, PTs X ifs (tDT (gx X) F W f)
theorem PTs.wk {ifs : List Expr} {t u : TT} (h : PTs X ifs t) (k : ∀ σ H Q, u σ H Q → t σ H Q) : PTs X ifs u := ⟨fun pins s σ H Q I q => h.run pins s σ H Q I (k σ H Q q)⟩
theorem dts_nil : DTs X W [] yesT := fun F => PTs.wk pts_nil fun σ H Q ⟨H0, ρ, E, q⟩ => q H0 H E Mv.refl
theorem dts_one {t1 : Rho → R Bool} (h : DT X W c t1) : DTs X W [c] t1 := fun F => pts_one (h F)
abbrev blkX (X : Cx) (scope : Scope) (s : Shared) (H : Hp) (C : Addr) (cl : List (Str × Addr)) (fp : List Addr) : Cx := X.blk s H scope (compEnvC scope cl C X.env) fp
theorem do_lc {elt tg iter : Expr} {ifs : List Expr} {scope : Scope} {own : List (Str × Nat)} {it : Rho → R (List Dt)} {t : Dt → Rho → Option Rho} {ct : Rho → R Bool} {el : Rho → R Dt} {is : List Nat} (hc : X.calm = true) (hN : X.N.Nodup) (hi : DI X W tg iter it) (ok : BlkOk X.N X.env.scope scope own)
    (hg : ∀ s H C cl fp, DG (blkX X scope s H C cl fp) tg is t) (ht : ∀ s H C cl fp, DTs (blkX X scope s H C cl fp) WF ifs ct) (he : ∀ s H C cl fp, DE (blkX X scope s H C cl fp) WF elt el) (his : ∀ i ∈ is, i ∈ own.map (·.2))
    (hs : ∀ x, foldedSetIterable iter X.env x = pure x := by intro _; rfl) : DO X W (.ListComp elt [⟨tg, iter, ifs, 0⟩] scope pos) (lcO it t ct el (own.map (·.2))) :=
  fun F => PE.wk (pe_lc hc hN (hi F) ok (fun s H C cl fp => hg s H C cl fp F) (fun s H C cl fp => ht s H C cl fp F) (fun s H C cl fp => he s H C cl fp F) hs) fun _ _ _ q => tLc_of his q
theorem ds_setLc (i : Nat) {y : Str} {py spos : Pos} {elt tg iter : Expr} {ifs : List Expr} {scope : Scope} {own : List (Str × Nat)} {it : Rho → R (List Dt)} {t : Dt → Rho → Option Rho} {ct : Rho → R Bool} {el : Rho → R Dt} {is : List Nat} (hc : X.calm = true) (hN : X.N.Nodup)
    (hsw : swapsWith (.ListComp elt [⟨tg, iter, ifs, 0⟩] scope pos) (some (.Name y py)) spos.line X.env = pure true) (hi : DI X W tg iter it) (ok : BlkOk X.N X.env.scope scope own)
    (hg : ∀ s H C cl fp, DG (blkX X scope s H C cl fp) tg is t) (ht : ∀ s H C cl fp, DTs (blkX X scope s H C cl fp) WF ifs ct) (he : ∀ s H C cl fp, DE (blkX X scope s H C cl fp) WF elt el) (his : ∀ i ∈ is, i ∈ own.map (·.2))
    (hy : X.N[i]? = some y := by rfl) (hyl : X.env.scope.names.lookup y = some .local := by rfl)
    (hs : ∀ x, foldedSetIterable iter X.env x = pure x := by intro _; rfl) : DS X W (.Assign [.Name y py] (.ListComp elt [⟨tg, iter, ifs, 0⟩] scope pos) spos) (setS i (frzR (lcO it t ct el (own.map (·.2))))) :=
  fun F => PS.wk (ps_setLc hc hN hy hyl hsw (hi F) ok (fun s H C cl fp => hg s H C cl fp F) (fun s H C cl fp => ht s H C cl fp F) (fun s H C cl fp => he s H C cl fp F) hs) fun D σ H h => by
    have h2 : tD (gx X) F W (frzR (lcO it t ct el (own.map (·.2)))) σ H (fun x H1 => gName i x σ H1 D.nx) := by
      refine tD_bindS h fun v H0 H' ρ1 d E hd q => ?_
      obtain ⟨ρ2, e, k⟩ := nxO_post q
      exact k _ H' (E.putFr hd e)
    exact tLc_of his (tO_frz h2)
theorem ds_setLcO (i : Nat) {y : Str} {py spos : Pos} {elt tg iter : Expr} {ifs : List Expr} {scope : Scope} {own : List (Str × Nat)} {it : Rho → R (List Dt)} {t : Dt → Rho → Option Rho} {ct : Rho → R Bool} {el : Rho → R Dt} {is : List Nat} (hc : X.calm = true) (hN : X.N.Nodup)
    (hsw : swapsWith (.ListComp elt [⟨tg, iter, ifs, 0⟩] scope pos) (some (.Name y py)) spos.line X.env = pure true) (hi : DI X W tg iter it) (ok : BlkOk X.N X.env.scope scope own)
    (hg : ∀ s H C cl fp, DG (blkX X scope s H C cl fp) tg is t) (ht : ∀ s H C cl fp, DTs (blkX X scope s H C cl fp) WF ifs ct) (he : ∀ s H C cl fp, DE (blkX X scope s H C cl fp) WF elt el) (his : ∀ i ∈ is, i ∈ own.map (·.2))
    (hy : X.N[i]? = some y := by rfl) (hyl : X.env.scope.names.lookup y = some .local := by rfl)
    (hs : ∀ x, foldedSetIterable iter X.env x = pure x := by intro _; rfl) : DS X W (.Assign [.Name y py] (.ListComp elt [⟨tg, iter, ifs, 0⟩] scope pos) spos) (setOS i (lcO it t ct el (own.map (·.2)))) :=
  fun F => PS.wk (ps_setLc hc hN hy hyl hsw (hi F) ok (fun s H C cl fp => hg s H C cl fp F) (fun s H C cl fp => ht s H C cl fp F) (fun s H C cl fp => he s H C cl fp F) hs) fun D σ H h => by
    refine tLc_of his (tO_bindS h fun v H0 H' ρ1 s E hd ho q => ?_)
    cases s with
    | raw _ _ =>
      obtain ⟨ρ2, e, k⟩ := nxO_post q
      exact k _ H' (E.put hd (fun _ z => nomatch z) ho e)
    | io _ => exact q.elim
    | sto _ => exact q.elim
    | rf d =>
      obtain ⟨ρ2, e, k⟩ := nxO_post q
      exact k _ H' (E.put hd (fun _ z => nomatch z) ho e)
    | fr d =>
      obtain ⟨ρ2, e, k⟩ := nxO_post q
      exact k _ H' (E.put hd (fun _ z => nomatch z) ho e)
    | ol d =>
      obtain ⟨ρ2, e, k⟩ := nxO_post q
      exact k _ H' (E.put hd (fun _ z => nomatch z) ho e)
    | od d =>
      obtain ⟨ρ2, e, k⟩ := nxO_post q
      exact k _ H' (E.put hd (fun _ z => nomatch z) ho e)

/-! ### x.append(e) -/
theorem ds_app (i : Nat) {x : Str} {apos cpos spos : Pos} (hx : PE X (.Name x p) (tVar i)) (he : DE X W e f1) (hbase : attributeBase (.Name x p) "append" X.env (eval (.Name x p) X.env) = eval (.Name x p) X.env := by rfl)
    (hfew : ((backTo cpos (starEach (e :: []) X.env)).all (fun x => !x.1) && (backToKw cpos (keywordEach [] X.env)).all (fun x => x.1.isSome)
      && decide ((e :: ([] : List Expr)).length + ([] : List Keyword).length + (if ([] : List Keyword).isEmpty then 0 else 1) < 30)) = true := by rfl)
    (hline : (apos.endLine == cpos.line) = true := by rfl) (hs : starEach (e :: []) X.env = (false, eval e X.env) :: starEach [] X.env := by rfl) (hplain : (backTo cpos (starEach [] X.env)).any (·.1) = false := by rfl)
    (hsw : swapsWith (.Call (.Attribute (.Name x p) "append" apos) [e] [] cpos) none spos.line X.env = pure false := by rfl) :
    DS X W (.Expr (.Call (.Attribute (.Name x p) "append" apos) [e] [] cpos) spos) (appS i f1) :=
  fun F => PS.wk (ps_expr (pe_bm PySem.F.plainAttrs_list PySem.F.slot_list_append PySem.F.type_list_append mt_append hx (pa_cons (he F) pa_nil hs) hbase hfew hline hs hplain) hsw) fun D σ H ⟨H0, ρ, E, q⟩ => by
    unfold appS at q
    cases e0 : lAt i ρ with
    | none => rw [e0] at q; exact q.elim
    | some xs0 =>
      rw [e0] at q
      dsimp only at q
      have at_ : ∀ {H0 H : Hp} {ρ : Rho} {xs : List Dt}, En X.K F H0 H σ ρ → lAt i ρ = some xs → ∃ a vs, σ[i]? = some (some (.ref a)) ∧ H a = some (.lst vs) ∧ DaAll X.K H0 vs xs ∧ ρ[i]? = some (some (.ol xs)) := fun {H0 H ρ xs} E h => by
        unfold lAt at h
        split at h
        · rename_i e
          cases h
          obtain ⟨v, h1, a, vs, rfl, h2, h3, h4, h5⟩ := E.sl i _ e
          exact ⟨a, vs, h1, h4, h5, e⟩
        · cases h
      obtain ⟨a, vs, ha, hv, _⟩ := at_ E e0
      refine ⟨.ref a, ha, .inl ⟨rfl, _, SqL.of hv⟩, H0, ρ, E, ?_⟩
      cases e1 : f1 ρ with
      | ok d ρ1 =>
        rw [e1] at q
        dsimp only [R.bindS] at q
        intro v H0' H' E' m hd
        cases e2 : lAt i ρ1 with
        | none => rw [e2] at q; exact q.elim
        | some xs =>
          rw [e2] at q
          dsimp only at q
          obtain ⟨a', vs', ha', hv', hd', hi'⟩ := at_ E' e2
          rw [ha] at ha'
          cases ha'
          split at q
          · rename_i hl
            refine ⟨a, vs', v, rfl, rfl, hv', by rw [hd'.length]; exact Nat.lt_of_lt_of_le hl (by decide), ?_⟩
            exact q σ H0' _ (E'.mutL hi' ha (hd'.append (.cons hd .nil))) m.b0
          · exact q.elim
      | ex x ρ1 => rw [e1] at q; exact q σ
      | bad => rw [e1] at q; exact q
/-! ### d[k] = v -/
theorem ds_dput (i : Nat) {x : Str} {k v : Expr} {spos : Pos} {fk fv : Rho → R Dt} (hu : X.A.units + 1 < cLine) (hx : PE X (.Name x p) (tVar i)) (hk : DE X W k fk) (hv : DE X W v fv) (hs : swapsWith v (some (.Subscript (.Name x p) k p2)) spos.line X.env = pure false := by rfl) :
    DS X W (.Assign [.Subscript (.Name x p) k p2] v spos) (dputS i fk fv) := fun F => PS.wk (ps_dput hu hx (hk F) (hv F) hs) fun D σ H h => by
  refine tD_bindS h fun v H0 H' ρ1 d E hd q => ?_
  cases e0 : dAt i ρ1 with
  | none => rw [e0] at q; exact q.elim
  | some kvs0 =>
    rw [e0] at q
    dsimp only at q
    obtain ⟨a, ks0, ha, _⟩ := dAt_put E e0
    refine ⟨.ref a, ha, H0, ρ1, E, ?_⟩
    cases e1 : fk ρ1 with
    | ok kd ρ2 =>
      rw [e1] at q
      dsimp only [R.bindS] at q
      intro y B0 B E2 m2 dy
      cases ek : keyD kd with
      | none => rw [ek] at q; exact q.elim
      | some key =>
        cases e2 : dAt i ρ2 with
        | none => rw [ek, e2] at q; exact q.elim
        | some kvs =>
          rw [ek, e2] at q
          dsimp only at q
          obtain ⟨a', ks, ha', h0, hH, hkv, own, put⟩ := dAt_put E2 e2
          rw [ha] at ha'
          cases ha'
          split at q
          · rename_i hl
            have hy : y = kV key := keyD_V (H := B) (Da.pk E2.ex dy) ek
            refine ⟨a, upd B a (.dK (putK ks key v)), rfl, ?_, q σ B0 _ (put (putK ks key v) _ B0 _ (gw_upd hH) (tb_upd E2.tb hH) ?_ upd_same (hkv.put (hd.mono m2.b0))).1 m2.b0⟩
            · rw [hy]
              exact DPut.k hH (by rw [hkv.length]; exact Nat.lt_of_lt_of_le hl (by decide))
            · intro b o hb
              rw [upd_ne (ne_of_none hb h0)]
              exact E2.ex b o hb
          · exact q.elim
    | ex x ρ1 => rw [e1] at q; exact q σ
    | bad => rw [e1] at q; exact q
end
end DW

set_option Elab.async false
set_option linter.all false
set_option maxRecDepth 100000
set_option maxHeartbeats 4000000
/-! DWC: a, b = x, y; dict comprehensions; methods of dicts and lists; sorted; ranges as lists -/
namespace DW
open PySem PySem.Spec PyProof.Rows L2
structure PlS (s : Sl) : Prop where
  io : ∀ k, s ≠ .io k
  st : ∀ S, s ≠ .sto S

/-! ### a, b = x, y -/
def SlAll (K : PySem.W.Frag) (F : Fm) (B H0 H : Hp) : List V → List Sl → Prop
  | [], [] => True
  | v :: vs, s :: ss => SlR K F H0 H v s ∧ PlS s ∧ (s.own = true → ∀ a, v = .ref a → B a = none ∧ ∀ w ∈ vs, w ≠ v ∨ ∀ (i : Nat) (t : Sl), vs[i]? = some w → ss[i]? = some t → t.own = false) ∧ SlAll K F B H0 H vs ss
  | _, _ => False
def notIo : Sl → Bool
  | .io _ => false
  | .sto _ => false
  | _ => true
def argsP : List (Rho → R Sl) → Rho → R (List Sl)
  | [], ρ => .ok [] ρ
  | f :: fs, ρ => (f ρ).bind fun s ρ1 => if notIo s = true then (argsP fs ρ1).bind fun ss ρ2 => .ok (s :: ss) ρ2 else .bad
def putP : List Nat → List Sl → Rho → Option Rho
  | [], [], ρ => some ρ
  | i :: is, s :: ss, ρ => match putR i s ρ with
    | some ρ1 => putP is ss ρ1
    | none => none
  | _, _, _ => none
def parP (is : List Nat) (fs : List (Rho → R Sl)) : Rho → SR := fun ρ => (argsP fs ρ).bindS fun ss ρ1 => nxO (putP is ss ρ1)
theorem pls_of {s : Sl} (h : notIo s = true) : PlS s := ⟨fun k z => (by rw [z] at h; cases h), fun S z => (by rw [z] at h; cases h)⟩
theorem SlR.mv {K : PySem.W.Frag} {F : Fm} {H0 H H0' H' : Hp} {σ : L2.St} {ρ ρ' : Rho} {v : V} {s : Sl} (h : SlR K F H0 H v s) (hn : s.own = true → ∀ a, v = .ref a → ¬ OwnAt σ ρ a) (hio : PlS s) (m : Mv σ ρ ρ' H0 H H0' H') : SlR K F H0' H' v s := by
  cases s with
  | fr d => exact Da.mono m.b0 h
  | ol ds =>
    obtain ⟨a, vs, rfl, h1, h2, h3, h4⟩ := h
    exact ⟨a, vs, rfl, m.off a (by rw [h3]; exact fun z => nomatch z) h1 (hn rfl a rfl), h2, m.kl a h3 h1 (hn rfl a rfl), h4.mono m.b0⟩
  | od ds =>
    obtain ⟨a, vs, rfl, h1, h2, h3, h4⟩ := h
    exact ⟨a, vs, rfl, m.off a (by rw [h3]; exact fun z => nomatch z) h1 (hn rfl a rfl), h2, m.kd a h3 h1 (hn rfl a rfl), h4.mono m.b0⟩
  | raw w _ => exact h
  | rf k =>
    obtain ⟨a, rfl, h⟩ := h
    exact ⟨a, rfl, m.gk _ _ h⟩
  | sto S => exact absurd rfl (hio.st S)
  | io k => exact absurd rfl (hio.io k)
theorem own_addr {K : PySem.W.Frag} {F : Fm} {H0 H : Hp} {v : V} {s : Sl} (h : SlR K F H0 H v s) (ho : s.own = true) : ∃ a, v = .ref a ∧ H a ≠ none := by
  cases s with
  | fr d => cases ho
  | ol ds => obtain ⟨a, vs, rfl, h1, h2, h3, h4⟩ := h; exact ⟨a, rfl, by rw [h3]; exact fun z => nomatch z⟩
  | od ds => obtain ⟨a, vs, rfl, h1, h2, h3, h4⟩ := h; exact ⟨a, rfl, by rw [h3]; exact fun z => nomatch z⟩
  | raw w _ => cases ho
  | rf _ => cases ho
  | sto _ => cases ho
  | io k => cases ho
def tP (g : Gx) (F : Fm) (W : WX) (fs : List (Rho → R Sl)) : TA := fun σ H Q => ∃ H0 ρ, En g.K F H0 H σ ρ ∧ match argsP fs ρ with
  | .ok ss ρ' => ∀ vs H0' H', En g.K F H0' H' σ ρ' → Mv σ ρ ρ' H0 H H0' H' → vs.length = ss.length → (∀ (i : Nat) v s, vs[i]? = some v → ss[i]? = some s → SlR g.K F H0' H' v s ∧ PlS s ∧ (s.own = true → ∀ a, v = .ref a → H a = none)) →
      (∀ (i j : Nat) v s t, i ≠ j → vs[i]? = some v → vs[j]? = some v → ss[i]? = some s → ss[j]? = some t → s.own = true → t.own = true → False) → Q vs H'
  | .ex e ρ' => XW g F W σ e ρ'
  | .bad => False
section
variable {g : Gx} {F : Fm} {W : WX} {σ : L2.St} {H : Hp}
theorem tP_nil {Q : List V → Hp → Prop} (h : tP g F W [] σ H Q) : tNil σ H Q := by
  obtain ⟨H0, ρ, E, q⟩ := h
  exact q [] H0 H E Mv.refl rfl (fun i v s z => by simp at z) (fun i j v s t _ z => by simp at z)
theorem tP_cons {f : Rho → R Sl} {fs : List (Rho → R Sl)} {Q : List V → Hp → Prop} (h : tP g F W (f :: fs) σ H Q) : tCons (tO g F W f) (tP g F W fs) σ H Q := by
  obtain ⟨H0, ρ, E, q⟩ := h
  refine ⟨H0, ρ, E, ?_⟩
  unfold argsP at q
  cases e : f ρ with
  | ok s ρ1 =>
    rw [e] at q
    dsimp only [R.bind] at q
    intro v H0' H' E' m hs hfr
    by_cases hio : notIo s = true
    · rw [if_pos hio] at q
      have hio' : PlS s := pls_of hio
      refine ⟨H0', ρ1, E', ?_⟩
      cases e2 : argsP fs ρ1 with
      | ok ss ρ2 =>
        rw [e2] at q
        intro vs C0 C E2 m2 hl hall hdis
        have hno : s.own = true → ∀ a, v = .ref a → ¬ OwnAt σ ρ1 a := fun ho a ea z => E.notOwn (hfr ho a ea) (m.sub a z)
        have hs2 := hs.mv hno hio' m2
        refine q (v :: vs) C0 C E2 (m.trans m2) (by rw [List.length_cons, List.length_cons, hl]) (fun i w t hw ht => ?_) (fun i j w t u hij hw hw' ht hu o1 o2 => ?_)
        · cases i with
          | zero =>
            simp at hw ht
            subst hw ht
            exact ⟨hs2, hio', hfr⟩
          | succ i =>
            obtain ⟨q1, q2, q3⟩ := hall i w t (by simpa using hw) (by simpa using ht)
            exact ⟨q1, q2, fun o a ea => m.fresh (q3 o a ea)⟩
        · have cross : ∀ (k : Nat) (w : V) (u : Sl), vs[k]? = some w → ss[k]? = some u → u.own = true → s.own = true → w = v → False := fun k w u hw hu o2 o1 ev => by
            obtain ⟨_, _, q3⟩ := hall k w u hw hu
            obtain ⟨a, ea, hne⟩ := own_addr hs o1
            exact hne (q3 o2 a (ev.trans ea))
          cases i with
          | zero =>
            cases j with
            | zero => exact hij rfl
            | succ j =>
              simp at hw ht
              subst hw ht
              exact cross j _ u (by simpa using hw') (by simpa using hu) o2 o1 rfl
          | succ i =>
            cases j with
            | zero =>
              simp at hw' hu
              subst hw' hu
              exact cross i _ t (by simpa using hw) (by simpa using ht) o1 o2 rfl
            | succ j => exact hdis i j w t u (fun z => hij (by rw [z])) (by simpa using hw) (by simpa using hw') (by simpa using ht) (by simpa using hu) o1 o2
      | ex x ρ1 => rw [e2] at q; exact q
      | bad => rw [e2] at q; exact q
    · rw [if_neg hio] at q
      exact q.elim
  | ex x ρ1 => rw [e] at q; exact q
  | bad => rw [e] at q; exact q
theorem put_all {K : PySem.W.Frag} : ∀ (is : List Nat) (vs : List V) (ss : List Sl) {σ : L2.St} {ρ ρ' : Rho} {H0 H : Hp}, En K F H0 H σ ρ → vs.length = ss.length → (∀ (i : Nat) v s, vs[i]? = some v → ss[i]? = some s → SlR K F H0 H v s ∧ PlS s ∧ (s.own = true → ∀ a, v = .ref a → ¬ OwnAt σ ρ a)) →
    (∀ (i j : Nat) v s t, i ≠ j → vs[i]? = some v → vs[j]? = some v → ss[i]? = some s → ss[j]? = some t → s.own = true → t.own = true → False) → putP is ss ρ = some ρ' → En K F H0 H (setAll is vs σ) ρ'
  | [], vs, [], σ, ρ, ρ', H0, H, E, hl, hall, hd, h => by
    cases h
    cases vs with
    | nil => exact E
    | cons _ _ => cases hl
  | [], vs, s :: ss, σ, ρ, ρ', H0, H, E, hl, hall, hd, h => by cases h
  | i :: is, vs, [], σ, ρ, ρ', H0, H, E, hl, hall, hd, h => by cases h
  | i :: is, [], s :: ss, σ, ρ, ρ', H0, H, E, hl, hall, hd, h => by cases hl
  | i :: is, v :: vs, s :: ss, σ, ρ, ρ', H0, H, E, hl, hall, hd, h => by
    unfold putP at h
    cases e : putR i s ρ with
    | none => rw [e] at h; cases h
    | some ρ1 =>
      rw [e] at h
      obtain ⟨h1, h2, h3⟩ := hall 0 v s rfl rfl
      have E1 := E.put h1 h2.io h3 e h2.st
      refine put_all is vs ss E1 (by simpa using hl) (fun k w t hw ht => ?_) (fun j k w t u hjk hw hw' ht hu o1 o2 => hd (j + 1) (k + 1) w t u (fun z => hjk (Nat.succ.inj z)) (by simpa using hw) (by simpa using hw') (by simpa using ht) (by simpa using hu) o1 o2) h
      obtain ⟨q1, q2, q3⟩ := hall (k + 1) w t (by simpa using hw) (by simpa using ht)
      refine ⟨q1, q2, fun o a ea own => ?_⟩
      unfold putR at e
      split at e
      · cases e
      · cases e
        obtain ⟨j, u, y1, y2, y3⟩ := own
        rcases set_get y1 with ⟨rfl, z⟩ | ⟨hne, z⟩
        · cases z
          rcases set_get y3 with ⟨_, z3⟩ | ⟨hne, _⟩
          · cases z3
            refine hd (k + 1) 0 (.ref a) t s (Nat.succ_ne_zero k) (by rw [← ea]; simpa using hw) rfl (by simpa using ht) rfl o ?_
            cases s with
            | fr _ => cases y2
            | ol _ => rfl
            | od _ => rfl
            | raw w _ => cases y2
            | rf _ => cases y2
            | sto _ => cases y2
            | io k => exact absurd rfl (h2.io k)
          · exact hne rfl
        · rw [List.getElem?_set_ne (Ne.symm hne)] at y3
          exact q3 o a ea ⟨j, u, z, y2, y3⟩
theorem tPar_post {D : Ends} {fs : List (Rho → R Sl)} {is : List Nat} {Q : List V → Hp → Prop} (h : tS g F W (parP is fs) D σ H) (hQ : ∀ vs H', vs.length = is.length → D.nx (setAll is vs σ) H' → Q vs H') : tP g F W fs σ H Q := by
  obtain ⟨H0, ρ, E, q⟩ := h
  refine ⟨H0, ρ, E, ?_⟩
  unfold parP at q
  cases e : argsP fs ρ with
  | ok ss ρ1 =>
    rw [e] at q
    intro vs H0' H' E' m hl hall hd
    obtain ⟨ρ2, e2, k⟩ := nxO_post (PostS.mono m.b0 q)
    have hlen : ∀ (is : List Nat) (ss : List Sl) (ρ ρ' : Rho), putP is ss ρ = some ρ' → ss.length = is.length := by
      intro is
      induction is with
      | nil => intro ss ρ ρ' e; cases ss with | nil => rfl | cons _ _ => cases e
      | cons i is ih =>
        intro ss ρ ρ' e
        cases ss with
        | nil => cases e
        | cons s ss =>
          unfold putP at e
          cases e1 : putR i s ρ with
          | none => rw [e1] at e; cases e
          | some ρ1 => rw [e1] at e; rw [List.length_cons, List.length_cons, ih ss ρ1 ρ' e]
    refine hQ vs H' (by rw [hl]; exact hlen is ss ρ1 ρ2 e2) (k _ H' (put_all is vs ss E' hl (fun i v s hv hs => ?_) hd e2))
    obtain ⟨q1, q2, q3⟩ := hall i v s hv hs
    exact ⟨q1, q2, fun o a ea z => E.notOwn (q3 o a ea) (m.sub a z)⟩
  | ex x ρ1 => rw [e] at q; exact q σ
  | bad => rw [e] at q; exact q
end
section
variable {X : Cx} {W : WX} {a b c e : Expr} {es : List Expr} {pos p p2 p3 : Pos} {f1 f2 f3 : Rho → R Dt} {fa : Rho → R (List Dt)} {fo : Rho → R Sl} {fs : List (Rho → R Sl)}
def DPs (X : Cx) (W : WX) (es : List Expr) (fs : List (Rho → R Sl)) : Prop := ∀ F, PA X es (tP (gx X) F W fs)
theorem dps_nil : DPs X W [] [] := fun F => PA.wk pa_nil fun _ _ _ h => tP_nil h
theorem dps_cons (ha : DO X W a fo) (hr : DPs X W es fs) (he : starEach (a :: es) X.env = (false, eval a X.env) :: starEach es X.env := by rfl) : DPs X W (a :: es) (fo :: fs) := fun F => PA.wk (pa_cons (ha F) (hr F) he) fun _ _ _ h => tP_cons h
theorem ds_par2 {i j : Nat} {x y : Str} {px py pt : Pos} {kt k2 pt2} (hc : X.calm = true) (hN : X.N.Nodup) (hij : i ≠ j) (ha : DPs X W [a, b] fs) (hw : swappedStores [.Tuple [.Name x px, .Name y py] kt pt] (.Tuple [a, b] k2 pt2) X.env = pure (some [x, y]))
    (hi : X.N[i]? = some x := by rfl) (hj : X.N[j]? = some y := by rfl) (hx : X.env.scope.names.lookup x = some .local := by rfl) (hy : X.env.scope.names.lookup y = some .local := by rfl)
    (hs : swapsWithSole [.Tuple [.Name x px, .Name y py] kt pt] (.Tuple [a, b] k2 pt2) pos.line X.env = pure false := by rfl) :
    DS X W (.Assign [.Tuple [.Name x px, .Name y py] kt pt] (.Tuple [a, b] k2 pt2) pos) (parP [i, j] fs) := fun F => PS.wk (ps_par hc hN hi hj hij hx hy (ha F) hw hs) fun D σ H h => tPar_post h fun vs H' hl k => by
  match vs, hl with
  | [v, w], _ => exact ⟨v, w, rfl, k⟩
theorem ds_par3 {i j l : Nat} {x y z : Str} {px py pz pt : Pos} {kt k2 pt2} (hc : X.calm = true) (hN : X.N.Nodup) (hij : i ≠ j) (hil : i ≠ l) (hjl : j ≠ l) (ha : DPs X W [a, b, c] fs)
    (hw : swappedStores [.Tuple [.Name x px, .Name y py, .Name z pz] kt pt] (.Tuple [a, b, c] k2 pt2) X.env = pure (some [x, y, z]))
    (hi : X.N[i]? = some x := by rfl) (hj : X.N[j]? = some y := by rfl) (hl : X.N[l]? = some z := by rfl) (hx : X.env.scope.names.lookup x = some .local := by rfl) (hy : X.env.scope.names.lookup y = some .local := by rfl) (hz : X.env.scope.names.lookup z = some .local := by rfl)
    (hs : swapsWithSole [.Tuple [.Name x px, .Name y py, .Name z pz] kt pt] (.Tuple [a, b, c] k2 pt2) pos.line X.env = pure false := by rfl) :
    DS X W (.Assign [.Tuple [.Name x px, .Name y py, .Name z pz] kt pt] (.Tuple [a, b, c] k2 pt2) pos) (parP [i, j, l] fs) := fun F => PS.wk (ps_par3 hc hN hi hj hl hij hil hjl hx hy hz (ha F) hw hs) fun D σ H h => tPar_post h fun vs H' hl k => by
  match vs, hl with
  | [v, w, u], _ => exact ⟨v, w, u, rfl, k⟩
end
end DW

set_option Elab.async false
set_option linter.all false
set_option maxRecDepth 100000
set_option maxHeartbeats 4000000
/-! DWD: dict comprehensions; methods of dicts and lists; sorted; ranges as lists -/
namespace DW
open PySem PySem.Spec PyProof.Rows L2
theorem dc_it {J : It} {n : Nat} {G : Hp → Prop} {Y : Nat → Hp → V → Hp → Prop} (w : Walk J n G Y) {g : TG} {tt : TT} {tk tv : TE} {vs : List Nat} {σ : L2.St} {H1 : Hp} {D : Addr} {Qd : Hp → Prop} (Pv : Nat → Hp → Prop) (h0 : Pv 0 (upd H1 D (.dK []))) (hG : ∀ i H, i ≤ n → Pv i H → G H)
    (hs : ∀ i x H H', i < n → Pv i H → Y i H x H' → g x (wipe σ vs) H' fun σ2 H2 => wipe σ2 vs = wipe σ vs ∧ tt σ2 H2 fun b H3 =>
      if b = true then tk σ2 H3 fun y H4 => tv σ2 H4 fun z H5 => ∃ kvs k, y = kV k ∧ H5 D = some (.dK kvs) ∧ kvs.length < sizeLine ∧ Pv (i + 1) (upd H5 D (.dK (putK kvs k z))) else Pv (i + 1) H3) (hd : ∀ H, Pv n H → Qd H) :
    ∃ W : Nat → Nat → Hp → Prop, (∃ m, W 0 m (upd H1 D (.dK []))) ∧ ∀ i m H, W i m H →
      (J.stop i H ∧ Qd H) ∨ (J.go i H ∧ ∃ Nx : Hp → Prop, (∀ H', Nx H' → ∃ m', m' < m ∧ W (i + 1) m' H') ∧ ∀ x H', J.yld i H x H' → g x (wipe σ vs) H' fun σ2 H2 => wipe σ2 vs = wipe σ vs ∧ tt σ2 H2 fun b H3 =>
        if b = true then tk σ2 H3 fun y H4 => tv σ2 H4 fun z H5 => ∃ kvs k, y = kV k ∧ H5 D = some (.dK kvs) ∧ kvs.length < sizeLine ∧ Nx (upd H5 D (.dK (putK kvs k z))) else Nx H3) := by
  refine ⟨fun i m H => m = n - i ∧ i ≤ n ∧ Pv i H, ⟨n, by simp, Nat.zero_le _, h0⟩, ?_⟩
  rintro i m H ⟨rfl, hi, p⟩
  have q := hG i H hi p
  by_cases hlt : i < n
  · exact .inr ⟨w.goes i H hlt q, Pv (i + 1), fun H' p' => ⟨n - (i + 1), by omega, rfl, hlt, p'⟩, fun x H' y => hs i x H H' hlt p (w.yields i H x H' hlt q y)⟩
  · have e : i = n := by omega
    subst e
    exact .inl ⟨w.stops H q, hd H p⟩
section
variable {K : PySem.W.Frag} {F : Fm} {H0 H H0' H' : Hp} {σ : L2.St} {ρ : Rho} {v : V} {d : Dt} {s : Sl} {i : Nat} {a p : Addr} {o : HO} {g : Gx} {W : WX}
/-- {k: v for t in it if c} -/
theorem tDc_of {it : Rho → R (List Dt)} {t : Dt → Rho → Option Rho} {c : Rho → R Bool} {ek ev : Rho → R Dt} {vs is : List Nat} (his : ∀ i ∈ is, i ∈ vs) {σ : L2.St} {H : Hp} {Q : VK} (h : tO g F W (dcO it t c ek ev vs) σ H Q) :
    tDc (tI g F W it) (tG g F is t) (tDT g F WF c) (tD g F WF ek) (tD g F WF ev) vs σ H Q := by
  obtain ⟨H0, ρ, E, q⟩ := h
  refine ⟨H0, ρ, E, ?_⟩
  unfold dcO at q
  cases e : it ρ with
  | ex x ρ1 =>
    rw [e] at q
    exact q
  | bad =>
    rw [e] at q
    exact q
  | ok xs ρ1 =>
    rw [e] at q
    dsimp only [R.bind] at q
    intro J B0 B E1 m1 hJ D hD
    by_cases hc : okW vs ρ1 = true ∧ xs.length ≤ 1000000
    · rw [if_pos hc] at q
      cases er : dcL t c ek ev vs xs (wipeR ρ1 vs) [] with
      | ex _ _ => rw [er] at q; exact q.elim
      | bad => rw [er] at q; exact q.elim
      | ok full ρe =>
        rw [er] at q
        dsimp only at q
        obtain ⟨G, Y, wk, hG, hY⟩ := hJ
        have hFD : F.H D = none := E1.upF hD
        have nD : ¬ OwnAt σ ρ1 D := E1.notOwn hD
        have Ew := E1.wipe vs hc.1
        have nDw : ¬ OwnAt (wipe σ vs) (wipeR ρ1 vs) D := fun z => nD (own_wipe (own_wipeR z))
        refine dc_it wk (fun i H => ∃ C0 ρc acc done, En g.K F C0 H (wipe σ vs) ρc ∧ Mw σ ρ1 (wipe σ vs) ρc B0 B C0 H ∧ H D = some (.dK acc) ∧ C0 D = none ∧ DaKv g.K C0 acc done ∧ done.length ≤ i ∧
          dcL t c ek ev vs (xs.drop i) ρc done = .ok full ρe) ?_ (fun i H _ ⟨C0, ρc, acc, done, Ec, mc, _⟩ => hG H (mc.b0.trans Ec.ex)) ?_ ?_
        · refine ⟨B0, wipeR ρ1 vs, [], [], Ew.beside (E1.up0 hD) hFD nDw (.inr (.inr hD)), ⟨Same.refl _, fun a o h _ _ _ => ?_, fun _ _ h _ => h, fun a o => own_wipe (own_wipeR o), fun a h => ?_, fun _ _ h => h⟩, upd_same, E1.up0 hD, .nil, Nat.le_refl _, by rw [List.drop_zero]; exact er⟩
          · rw [upd_ne (ne_of_none h hD)]
            exact h
          · have : a ≠ D := fun z => h (z ▸ hD)
            rw [upd_ne this]
            exact h
        · rintro i x H H' hi ⟨C0, ρc, acc, done, Ec, mc, hacc, hC, hdd, hlen, hrun⟩ y
          obtain ⟨d, hd, hx⟩ := hY i H x H' hi (mc.b0.trans Ec.ex) y
          have nc : ¬ OwnAt (wipe σ vs) ρc D := fun z => nD (mc.sub D z)
          obtain ⟨D0, Ed, md, dd⟩ := item_at Ec mc.b0 hx
          have hacc' : H' D = some (.dK acc) := md.kd D hacc hC nc
          have hC' : D0 D = none := md.off D (by rw [hacc]; exact fun z => nomatch z) hC nc
          have hdrop : xs.drop i = d :: xs.drop (i + 1) := by
            obtain ⟨hlt, hget⟩ := List.getElem?_eq_some_iff.mp hd
            rw [List.drop_eq_getElem_cons hlt, hget]
          rw [hdrop] at hrun
          unfold dcL at hrun
          cases et : t d ρc with
          | none => rw [et] at hrun; cases hrun
          | some ρ2 =>
            rw [et] at hrun
            dsimp only at hrun
            obtain ⟨b, ρ3, hb, hrun⟩ := bind_ok hrun
            refine ⟨D0, ρc, d, Ed, dd, ρ2, et, fun us E2 ow => ?_⟩
            have hw2 : wipe (setAll is us (wipe σ vs)) vs = wipe σ vs := by rw [wipe_setAll vs is us _ his, wipe_idem vs vs σ fun _ z => z]
            have n2 : ¬ OwnAt (setAll is us (wipe σ vs)) ρ2 D := fun z => nc (ow D z)
            have m2 : Mw (wipe σ vs) ρc (setAll is us (wipe σ vs)) ρ2 D0 H' D0 H' := ⟨Same.refl _, fun _ _ h _ _ _ => h, fun _ _ h _ => h, fun a o => ow a o, fun _ h => h, fun _ _ h => h⟩
            refine ⟨hw2, D0, ρ2, E2, ?_⟩
            rw [hb]
            intro I0 I E3 m3
            have n3 : ¬ OwnAt (setAll is us (wipe σ vs)) ρ3 D := fun z => n2 (m3.sub D z)
            have acc3 : I D = some (.dK acc) := m3.kd D hacc' hC' n2
            have C3 : I0 D = none := m3.off D (by rw [hacc']; exact fun z => nomatch z) hC' n2
            have M3 := (mc.trans md).trans (m2.trans m3)
            have down : ∀ {J0 J : Hp} {ρ4 : Rho}, En g.K F J0 J (setAll is us (wipe σ vs)) ρ4 → Mw σ ρ1 (setAll is us (wipe σ vs)) ρ4 B0 B J0 J → En g.K F J0 J (wipe σ vs) (wipeR ρ4 vs) ∧ Mw σ ρ1 (wipe σ vs) (wipeR ρ4 vs) B0 B J0 J := fun {J0 J ρ4} E4 M4 => by
              have ok4 : okW vs ρ4 = true := by
                have h1 := hc.1
                unfold okW at h1 ⊢
                rw [Bool.or_eq_true] at h1 ⊢
                rcases h1 with h1 | h1
                · left
                  refine noIo_iff.mpr fun kvs ek => ?_
                  obtain ⟨w, y1, a, ks, rfl, z2, z3, z4, z5⟩ := E4.sl 0 _ ek
                  obtain ⟨_, ⟨kv, y2⟩, _⟩ := E1.io a z3
                  exact noIo_iff.mp h1 kv y2
                · exact .inr h1
              have E5 := E4.wipe vs ok4
              rw [hw2] at E5
              refine ⟨E5, M4.b0, M4.keep, M4.off, fun a o => M4.sub a ?_, M4.st, M4.gk⟩
              have o2 := own_wipeR o
              obtain ⟨i, s, y1, y2, y3⟩ := o2
              rw [← hw2] at y3
              exact ⟨i, s, y1, y2, wipe_get vs y3⟩
            cases b with
            | true =>
              rw [if_pos rfl] at hrun ⊢
              obtain ⟨kd, ρ4, hek, hrun⟩ := bind_ok hrun
              obtain ⟨d2, ρ5, hev, hrun⟩ := bind_ok hrun
              cases eky : keyD kd with
              | none => rw [eky] at hrun; cases hrun
              | some key =>
                rw [eky] at hrun
                dsimp only at hrun
                refine ⟨I0, ρ3, E3, ?_⟩
                rw [hek]
                intro yv J0 J' E4 m4 dy
                have n4 : ¬ OwnAt (setAll is us (wipe σ vs)) ρ4 D := fun z => n3 (m4.sub D z)
                have acc4 : J' D = some (.dK acc) := m4.kd D acc3 C3 n3
                have C4 : J0 D = none := m4.off D (by rw [acc3]; exact fun z => nomatch z) C3 n3
                refine ⟨J0, ρ4, E4, ?_⟩
                rw [hev]
                intro zv L0 L E5 m5 dz
                have n5 : ¬ OwnAt (setAll is us (wipe σ vs)) ρ5 D := fun z => n4 (m5.sub D z)
                have acc5 : L D = some (.dK acc) := m5.kd D acc4 C4 n4
                have C5 : L0 D = none := m5.off D (by rw [acc4]; exact fun z => nomatch z) C4 n4
                have hy : yv = kV key := keyD_V (H := J') (Da.pk E4.ex dy) eky
                obtain ⟨E6, M6⟩ := down E5 ((M3.trans m4).trans m5)
                have n6 : ¬ OwnAt (wipe σ vs) (wipeR ρ5 vs) D := fun z => nD (M6.sub D z)
                have hal : acc.length = done.length := hdd.length
                have hdd5 := ((((hdd.mono md.b0).mono m3.b0).mono m4.b0).mono m5.b0)
                refine ⟨acc, key, hy, acc5, Nat.lt_of_le_of_lt (by rw [hal]; exact Nat.le_trans hlen (Nat.le_trans (Nat.le_of_lt hi) hc.2)) (by decide), L0, wipeR ρ5 vs, putK acc key zv, putKD done key d2, E6.beside C5 hFD n6 (.inr (.inl ⟨_, acc5⟩)), ⟨M6.b0, fun a o h nt ng ho => ?_, M6.off, M6.sub, fun a h => ?_, M6.gk⟩, upd_same, C5,
                  hdd5.put dz, ?_, hrun⟩
                · rw [upd_ne (ne_of_none h hD)]
                  exact M6.keep a o h nt ng ho
                · have : a ≠ D := fun z => h (z ▸ hD)
                  rw [upd_ne this]
                  exact M6.st a h
                · have h1 := length_putK acc key zv
                  have h2 := (hdd5.put (k := key) dz).length
                  omega
            | false =>
              rw [if_neg Bool.false_ne_true] at hrun ⊢
              obtain ⟨E5, M5⟩ := down E3 M3
              exact ⟨I0, wipeR ρ3 vs, acc, done, E5, M5, acc3, C3, (hdd.mono md.b0).mono m3.b0, Nat.le_succ_of_le hlen, hrun⟩
        · rintro H ⟨C0, ρc, acc, done, Ec, mc, hacc, hC, hdd, hlen, hrun⟩
          rw [List.drop_length] at hrun
          cases hrun
          have E6 : En g.K F C0 H σ ρe := Ec.unwipe (by rw [E1.len, ← E1.len, ← wipe_length σ vs, Ec.len])
          refine q _ C0 H E6 (m1.trans ⟨mc.b0, mc.keep, mc.off, fun a o => ?_, mc.st, mc.gk⟩) ⟨D, acc, rfl, hC, hFD, hacc, hdd⟩ fun _ b z => by cases z; exact m1.fresh hD
          obtain ⟨i, s, y1, y2, y3⟩ := o
          obtain ⟨w, z1, _⟩ := Ec.sl i s y1
          have z2 := wipe_get vs z1
          rw [y3] at z2
          cases z2
          exact mc.sub a ⟨i, s, y1, y2, z1⟩
    · rw [if_neg hc] at q
      exact q.elim
end
section
variable {X : Cx} {W : WX} {a b c e : Expr} {es : List Expr} {pos p p2 p3 : Pos} {f1 f2 f3 : Rho → R Dt} {fa : Rho → R (List Dt)} {fo : Rho → R Sl}
theorem do_dc {kx vx tg iter : Expr} {ifs : List Expr} {scope : Scope} {own : List (Str × Nat)} {it : Rho → R (List Dt)} {t : Dt → Rho → Option Rho} {ct : Rho → R Bool} {ek ev : Rho → R Dt} {is : List Nat} (hc : X.calm = true) (hN : X.N.Nodup) (hi : DI X W tg iter it) (ok : BlkOk X.N X.env.scope scope own)
    (hg : ∀ s H C cl fp, DG (blkX X scope s H C cl fp) tg is t) (ht : ∀ s H C cl fp, DTs (blkX X scope s H C cl fp) WF ifs ct) (hk : ∀ s H C cl fp, DE (blkX X scope s H C cl fp) WF kx ek) (he : ∀ s H C cl fp, DE (blkX X scope s H C cl fp) WF vx ev) (his : ∀ i ∈ is, i ∈ own.map (·.2))
    (hs : ∀ x, foldedSetIterable iter X.env x = pure x := by intro _; rfl) : DO X W (.DictComp kx vx [⟨tg, iter, ifs, 0⟩] scope pos) (dcO it t ct ek ev (own.map (·.2))) :=
  fun F => PE.wk (pe_dc hc hN (hi F) ok (fun s H C cl fp => hg s H C cl fp F) (fun s H C cl fp => ht s H C cl fp F) (fun s H C cl fp => hk s H C cl fp F) (fun s H C cl fp => he s H C cl fp F) hs) fun _ _ _ q => tDc_of his q
/-! ### list(range(..)), tuple(range(..)) -/
def rgList (gd : List Dt → Option (List Dt)) (f : Rho → R (List Dt)) : Rho → R Dt := fun ρ => (f ρ).bind fun ds ρ1 => match gd ds with
  | some xs => if xs.length ≤ 1000000 then .ok (.lst xs) ρ1 else .bad
  | none => .bad
def rgTup (gd : List Dt → Option (List Dt)) (f : Rho → R (List Dt)) : Rho → R Dt := fun ρ => (f ρ).bind fun ds ρ1 => match gd ds with
  | some xs => if xs.length ≤ 1000000 then .ok (.tup xs) ρ1 else .bad
  | none => .bad
theorem rgV_da {K : PySem.W.Frag} {H : Hp} (a b : Int) : DaAll K H (rgV a b) ((List.range (b - a).toNat).map fun i => .int (a + (i : Nat))) := by
  have := daInts (K := K) (H := H) ((List.range (b - a).toNat).map fun i => a + ((i : Nat) : Int))
  rw [List.map_map, List.map_map] at this
  exact this
theorem rgOk2 {a b : Int} (h : -(2 ^ 62) ≤ a ∧ a < 2 ^ 62 ∧ -(2 ^ 62) ≤ b ∧ b < 2 ^ 62) (hl : ((List.range (b - a).toNat).map fun i => Dt.int (a + (i : Nat))).length ≤ 1000000) : RgOk a b := by
  rw [List.length_map, List.length_range] at hl
  exact ⟨h.1, h.2.1, h.2.2.1, h.2.2.2, by omega⟩
theorem de_listRg2 {pr : Pos} (hc : X.calm = true) (hg : Gl X "list") (hm : X.mg "list" = none) (hgr : Gl X "range") (hmr : X.mg "range" = none) (ha : DE X W a f1) (hb : DE X W b f2)
    (na : starEach [.Call (.Name "range" p2) [a, b] [] p3] X.env = (false, eval (.Call (.Name "range" p2) [a, b] [] p3) X.env) :: starEach [] X.env := by rfl) (nb : starEach [a, b] X.env = (false, eval a X.env) :: starEach [b] X.env := by rfl) (nc : starEach [b] X.env = (false, eval b X.env) :: starEach [] X.env := by rfl) (nd : (backTo p3 (starEach [b] X.env)).any (·.1) = false := by rfl) :
    DE X W (.Call (.Name "list" p) [.Call (.Name "range" p2) [a, b] [] p3] [] pos) (rgList rngD2 (consA f1 (consA f2 nilA))) := fun F => PE.wk (pe_listRg hc hg hm (prg_2 hgr hmr (ha F) (hb F) nb nc nd) na) fun σ H Q ⟨H0, ρ, E, q⟩ => by
  refine ⟨H0, ρ, E, ?_⟩
  unfold rgList consA at q
  cases e1 : f1 ρ with
  | ok x ρ1 =>
    rw [e1] at q
    dsimp only [R.bind] at q
    intro v B0 B E1 m1 d1
    refine ⟨B0, ρ1, E1, ?_⟩
    cases e2 : f2 ρ1 with
    | ok y ρ2 =>
      rw [e2] at q
      dsimp only [R.bind, nilA] at q
      intro w C0 C E2 m2 d2
      cases e3 : rngD2 [x, y] with
      | none => rw [e3] at q; exact q.elim
      | some xs =>
        rw [e3] at q
        dsimp only at q
        by_cases hl : xs.length ≤ 1000000
        · rw [if_pos hl] at q
          unfold rngD2 at e3
          split at e3
          · rename_i ds i j hd
            cases hd
            split at e3
            · rename_i hb
              cases e3
              cases d1
              cases d2
              refine ⟨i, j, rfl, rfl, rgOk2 hb hl, al_lst (K := X.K) E2.ex (rgV_da i j) fun v D0 D gr s3 hv => ?_⟩
              obtain ⟨E3, m3⟩ := E2.post (m1.trans m2) gr s3
              exact q v D0 D E3 m3 hv
            · cases e3
          · cases e3
        · rw [if_neg hl] at q
          exact q.elim
    | ex x ρ1 => rw [e2] at q; exact q
    | bad => rw [e2] at q; exact q
  | ex x ρ1 => rw [e1] at q; exact q
  | bad => rw [e1] at q; exact q
theorem de_tupRg2 {pr : Pos} (hc : X.calm = true) (hg : Gl X "tuple") (hm : X.mg "tuple" = none) (hgr : Gl X "range") (hmr : X.mg "range" = none) (ha : DE X W a f1) (hb : DE X W b f2)
    (na : starEach [.Call (.Name "range" p2) [a, b] [] p3] X.env = (false, eval (.Call (.Name "range" p2) [a, b] [] p3) X.env) :: starEach [] X.env := by rfl) (nb : starEach [a, b] X.env = (false, eval a X.env) :: starEach [b] X.env := by rfl) (nc : starEach [b] X.env = (false, eval b X.env) :: starEach [] X.env := by rfl) (nd : (backTo p3 (starEach [b] X.env)).any (·.1) = false := by rfl) :
    DE X W (.Call (.Name "tuple" p) [.Call (.Name "range" p2) [a, b] [] p3] [] pos) (rgTup rngD2 (consA f1 (consA f2 nilA))) := fun F => PE.wk (pe_tupRg hc hg hm (prg_2 hgr hmr (ha F) (hb F) nb nc nd) na) fun σ H Q ⟨H0, ρ, E, q⟩ => by
  refine ⟨H0, ρ, E, ?_⟩
  unfold rgTup consA at q
  cases e1 : f1 ρ with
  | ok x ρ1 =>
    rw [e1] at q
    dsimp only [R.bind] at q
    intro v B0 B E1 m1 d1
    refine ⟨B0, ρ1, E1, ?_⟩
    cases e2 : f2 ρ1 with
    | ok y ρ2 =>
      rw [e2] at q
      dsimp only [R.bind, nilA] at q
      intro w C0 C E2 m2 d2
      cases e3 : rngD2 [x, y] with
      | none => rw [e3] at q; exact q.elim
      | some xs =>
        rw [e3] at q
        dsimp only at q
        by_cases hl : xs.length ≤ 1000000
        · rw [if_pos hl] at q
          unfold rngD2 at e3
          split at e3
          · rename_i ds i j hd
            cases hd
            split at e3
            · rename_i hb
              cases e3
              cases d1
              cases d2
              refine ⟨i, j, rfl, rfl, rgOk2 hb hl, al_tup (K := X.K) E2.ex (rgV_da i j) fun v D0 D gr s3 hv => ?_⟩
              obtain ⟨E3, m3⟩ := E2.post (m1.trans m2) gr s3
              exact q v D0 D E3 m3 hv
            · cases e3
          · cases e3
        · rw [if_neg hl] at q
          exact q.elim
    | ex x ρ1 => rw [e2] at q; exact q
    | bad => rw [e2] at q; exact q
  | ex x ρ1 => rw [e1] at q; exact q
  | bad => rw [e1] at q; exact q
/-! ### sorted -/
def insI (n : Int) : List Int → List Int
  | [] => [n]
  | m :: ms => if n ≤ m then n :: m :: ms else m :: insI n ms
def sortI : List Int → List Int
  | [] => []
  | n :: ns => insI n (sortI ns)
theorem insI_perm (n : Int) : ∀ ms : List Int, (insI n ms).Perm (n :: ms)
  | [] => .refl _
  | m :: ms => by
    unfold insI
    split
    · exact .refl _
    · exact ((insI_perm n ms).cons m).trans (.swap n m ms)
theorem insI_sorted (n : Int) : ∀ {ms : List Int}, ms.Pairwise (· ≤ ·) → (insI n ms).Pairwise (· ≤ ·)
  | [], _ => List.pairwise_singleton _ _
  | m :: ms, h => by
    unfold insI
    obtain ⟨h1, h2⟩ := List.pairwise_cons.mp h
    split
    · rename_i hn
      exact List.pairwise_cons.mpr ⟨fun x hx => by
        rcases List.mem_cons.mp hx with rfl | hx
        · exact hn
        · exact Int.le_trans hn (h1 x hx), h⟩
    · rename_i hn
      refine List.pairwise_cons.mpr ⟨fun x hx => ?_, insI_sorted n h2⟩
      rcases List.mem_cons.mp ((insI_perm n ms).mem_iff.mp hx) with rfl | hx
      · omega
      · exact h1 x hx
theorem sortI_perm : ∀ ns : List Int, (sortI ns).Perm ns
  | [] => .refl _
  | n :: ns => (insI_perm n _).trans ((sortI_perm ns).cons n)
theorem sortI_sorted : ∀ ns : List Int, (sortI ns).Pairwise (· ≤ ·)
  | [] => .nil
  | n :: ns => insI_sorted n (sortI_sorted ns)
theorem sortI_one {ns ms : List Int} (h1 : ms.Perm ns) (h2 : ms.Pairwise (· ≤ ·)) : ms = sortI ns := PySem.W.ksm_same (h1.trans (sortI_perm ns).symm) h2 (sortI_sorted ns)
def keysI : List (Key × Dt) → Option (List Int)
  | [] => some []
  | (.inl i, _) :: r => (keysI r).map (i :: ·)
  | _ => none
theorem keysI_eq : ∀ {kvs : List (Key × Dt)} {ns : List Int}, keysI kvs = some ns → kvs.map (·.1) = ns.map Sum.inl
  | [], _, h => by cases h; rfl
  | (.inl i, _) :: r, ns, h => by
    obtain ⟨ms, h1, rfl⟩ := Option.map_eq_some_iff.mp h
    rw [List.map_cons, keysI_eq h1]
    rfl
  | (.inr _, _) :: r, ns, h => by cases h
theorem DaKv.keys {K : PySem.W.Frag} {H : Hp} : ∀ {ks : List (Key × V)} {kvs : List (Key × Dt)}, DaKv K H ks kvs → ks.map (·.1) = kvs.map (·.1)
  | _, _, .nil => rfl
  | _, _, .cons _ h => by rw [List.map_cons, List.map_cons, h.keys]
def sortD : Dt → Option Dt
  | .lst ds => (intsOf ds).map fun ns => .lst ((sortI ns).map .int)
  | .dct kvs => (keysI kvs).bind fun ns => if ns.length < 64 then some (.lst ((sortI ns).map .int)) else none
  | _ => none
theorem callr_sorted (hc : X.calm = true) : CallR X (.builtin "sorted") (fun xs H Q => rSortedI X.K xs H Q ∨ ∃ (a : Addr) (kvs : List (Key × V)) (ks : List Int), xs = [.ref a] ∧ Rd H a (.dK kvs) ∧ kvs.map (·.1) = ks.map Sum.inl ∧ ks.length < 64 ∧
    ∀ (ys : List Int) (p : Addr), ys.Perm ks → ys.Pairwise (· ≤ ·) → H p = none → Q (.ref p) (upd H p (.lst (ys.map V.int)))) := callr_or cr_sortedI (call_sortedDI hc)
theorem und_sort (K : PySem.W.Frag) : UnD K (fun x H Q => rSortedI K [x] H Q ∨ ∃ (a : Addr) (kvs : List (Key × V)) (ks : List Int), [x] = [V.ref a] ∧ Rd H a (.dK kvs) ∧ kvs.map (·.1) = ks.map Sum.inl ∧ ks.length < 64 ∧
    ∀ (ys : List Int) (p : Addr), ys.Perm ks → ys.Pairwise (· ≤ ·) → H p = none → Q (.ref p) (upd H p (.lst (ys.map V.int)))) sortD := by
  intro x d z H0 H s hx hg Q k
  unfold sortD at hg
  split at hg
  · obtain ⟨ns, h, rfl⟩ := Option.map_eq_some_iff.mp hg
    obtain ⟨a, vs, rfl, h1, h2⟩ := hx
    rw [intsOf_eq h] at h2
    rw [h2.ints] at h1
    refine .inl ⟨a, ns, rfl, SqL.of h1, fun ns' p q1 q2 => ?_⟩
    rw [sortI_one q1 q2]
    exact al_lst s (daInts _) k p
  · obtain ⟨ns, h, hg⟩ := Option.bind_eq_some_iff.mp hg
    split at hg
    · rename_i hl
      cases hg
      obtain ⟨a, ks, rfl, h1, h2⟩ := hx
      refine .inr ⟨a, ks, ns, rfl, .inl h1, h2.keys.trans (keysI_eq h), hl, fun ns' p q1 q2 => ?_⟩
      rw [sortI_one q1 q2]
      exact al_lst s (daInts _) k p
    · cases hg
  · cases hg
theorem de_sorted (hc : X.calm = true) (hg : Gl X "sorted") (hm : X.mg "sorted" = none) (ha : DK X W e f1) (he : starEach (e :: []) X.env = (false, eval e X.env) :: starEach [] X.env := by rfl) : DE X W (.Call (.Name "sorted" p) [e] [] pos) (un sortD f1) :=
  de_b1 (callr_sorted hc) (und_sort _) hg hm (by decide +kernel) ha (he := he)
/-! ### d.update(e) -/
def mergeD (kvs more : List (Key × Dt)) : List (Key × Dt) := more.foldl (fun acc kv => putKD acc kv.1 kv.2) kvs
theorem DaKv.merge {K : PySem.W.Frag} {H : Hp} : ∀ {ms : List (Key × V)} {more : List (Key × Dt)}, DaKv K H ms more → ∀ {ks : List (Key × V)} {kvs : List (Key × Dt)}, DaKv K H ks kvs → DaKv K H (mergeK ks ms) (mergeD kvs more)
  | _, _, .nil, _, _, h => h
  | _, _, .cons h1 h2, _, _, h => h2.merge (h.put h1)
def updS (i : Nat) (f : Rho → R Dt) : Rho → SR := fun ρ => match dAt i ρ with
  | none => .bad
  | some _ => (f ρ).bindS fun d ρ1 => match d, dAt i ρ1 with
    | .dct more, some kvs => if kvs.length + more.length ≤ 1000000 then .nx (dPut i (mergeD kvs more) ρ1) else .bad
    | _, _ => .bad
def rUpd : V → List V → Hp → VK → Prop := fun x xs H Q => ∃ d o kvs more, x = .ref d ∧ xs = [.ref o] ∧ d ≠ o ∧ H d = some (.dK kvs) ∧ H o = some (.dK more) ∧ kvs.length + more.length ≤ sizeLine ∧ Q .non (upd H d (.dK (mergeK kvs more)))
theorem mt_upd : MtR X "dict.update" rUpd := by
  intro pins s σ H x xs v us Q I rx rs h
  obtain ⟨d, o, kvs, more, rfl, rfl, hne, hd, ho, hz, q⟩ := h
  cases rx
  cases rs with
  | cons r1 r2 =>
    cases r2
    cases r1
    obtain ⟨z1, lo1, vs1, rel1, dd1⟩ := L2.dk_of I.hok hd
    obtain ⟨z2, lo2, vs2, rel2, dd2⟩ := L2.dk_of I.hok ho
    refine call_meetsIn PySem.F.slot_dict_update dd1.typeIs PySem.F.entry_dict_update (PySem.F.args_dict_update_2 _ _) (meets_dict_update (mixKind X.prog X.w) d o hne lo2)
      ⟨vs1, vs2, dd1, dd2, (by rw [← rel1.length, ← rel2.length]; exact hz), fun h' hmm _ hs => ?_⟩
    have hl : (mergeK kvs more).length ≤ sizeLine := Nat.le_trans (length_mergeK more kvs) hz
    refine ⟨.non, _, d_write (t' := s.toks) (ob := .dK (mergeK kvs more)) I (by rw [hd]; trivial) hs ?_ (dk_new hl lo1 (KV.merge rel2 rel1) hmm), rfl, q⟩
    obtain ⟨ob, _, _, e, _⟩ := hmm
    exact ⟨ob, e⟩
theorem ds_upd (i : Nat) {x : Str} {apos cpos spos : Pos} (hx : PE X (.Name x p) (tVar i)) (he : DE X W e f1) (hbase : attributeBase (.Name x p) "update" X.env (eval (.Name x p) X.env) = eval (.Name x p) X.env := by rfl)
    (hfew : ((backTo cpos (starEach (e :: []) X.env)).all (fun x => !x.1) && (backToKw cpos (keywordEach [] X.env)).all (fun x => x.1.isSome)
      && decide ((e :: ([] : List Expr)).length + ([] : List Keyword).length + (if ([] : List Keyword).isEmpty then 0 else 1) < 30)) = true := by rfl)
    (hline : (apos.endLine == cpos.line) = true := by rfl) (hs : starEach (e :: []) X.env = (false, eval e X.env) :: starEach [] X.env := by rfl) (hplain : (backTo cpos (starEach [] X.env)).any (·.1) = false := by rfl)
    (hsw : swapsWith (.Call (.Attribute (.Name x p) "update" apos) [e] [] cpos) none spos.line X.env = pure false := by rfl) :
    DS X W (.Expr (.Call (.Attribute (.Name x p) "update" apos) [e] [] cpos) spos) (updS i f1) :=
  fun F => PS.wk (ps_expr (pe_bm PySem.F.plainAttrs_dict PySem.F.slot_dict_update PySem.F.type_dict_update mt_upd hx (pa_cons (he F) pa_nil hs) hbase hfew hline hs hplain) hsw) fun D σ H ⟨H0, ρ, E, q⟩ => by
    unfold updS at q
    cases e0 : dAt i ρ with
    | none => rw [e0] at q; exact q.elim
    | some kvs0 =>
      rw [e0] at q
      dsimp only at q
      obtain ⟨a, ks0, ha, _, hH0, _⟩ := dAt_put E e0
      refine ⟨.ref a, ha, .inr (.inr (.inl ⟨rfl, .inl ⟨_, hH0⟩⟩)), H0, ρ, E, ?_⟩
      cases e1 : f1 ρ with
      | ok d ρ1 =>
        rw [e1] at q
        dsimp only [R.bindS] at q
        intro v B0 B E2 m2 dv
        cases d with
        | dct more =>
          cases e2 : dAt i ρ1 with
          | none => rw [e2] at q; exact q.elim
          | some kvs =>
            rw [e2] at q
            dsimp only at q
            obtain ⟨a', ks, ha', h0, hH, hkv, own, put⟩ := dAt_put E2 e2
            rw [ha] at ha'
            cases ha'
            split at q
            · rename_i hl
              cases dv with
              | @dct o ms _ h1 h2 =>
                have hne : a ≠ o := fun z => by rw [z, h1] at h0; cases h0
                refine ⟨a, o, ks, ms, rfl, rfl, hne, hH, E2.ex.hit h1, by rw [hkv.length, h2.length]; exact sizeM hl, ?_⟩
                refine q σ B0 _ (put (mergeK ks ms) _ B0 _ (gw_upd hH) (tb_upd E2.tb hH) ?_ upd_same (h2.merge hkv)).1 m2.b0
                · intro b o hb
                  rw [upd_ne (ne_of_none hb h0)]
                  exact E2.ex b o hb
            · exact q.elim
        | _ => exact q.elim
      | ex x ρ1 => rw [e1] at q; exact q σ
      | bad => rw [e1] at q; exact q
/-! ### xs.index(e) -/
def idxV (y : V) : List V → Nat → Option Nat
  | [], _ => none
  | x :: xs, j => if eqV x y = true then some j else idxV y xs (j + 1)
theorem idxV_spec (y : V) : ∀ (xs : List V) (j k : Nat), idxV y xs j = some k → ∃ i, k = j + i ∧ (∃ z, xs[i]? = some z ∧ eqV z y = true) ∧ ∀ (m : Nat) (z' : V), m < i → xs[m]? = some z' → eqV z' y = false
  | [], j, k, h => by cases h
  | x :: xs, j, k, h => by
    unfold idxV at h
    split at h
    · rename_i he
      cases h
      exact ⟨0, rfl, ⟨x, rfl, he⟩, fun m _ hm => absurd hm (Nat.not_lt_zero m)⟩
    · rename_i he
      obtain ⟨i, rfl, ⟨z, h1, h2⟩, h3⟩ := idxV_spec y xs (j + 1) k h
      refine ⟨i + 1, by omega, ⟨z, by simpa using h1, h2⟩, fun m z' hm hz => ?_⟩
      cases m with
      | zero =>
        simp at hz
        subst hz
        simpa using he
      | succ m => exact h3 m z' (Nat.lt_of_succ_lt_succ hm) (by simpa using hz)
def idxD : Dt → Dt → Option Dt
  | .lst xs, d => if flatD d = true ∧ xs.all flatD = true then (idxV (toV d) (xs.map toV) 0).map fun k => .int (k : Nat) else none
  | _, _ => none
def meth1 (g : Dt → Dt → Option Dt) (ok : Dt → Bool) (f1 f2 : Rho → R Dt) : Rho → R Dt := fun ρ => (f1 ρ).bind fun d ρ1 => if ok d = true then (f2 ρ1).bind fun e ρ2 => (match g d e with
  | some z => .ok z ρ2
  | none => .bad) else .bad
def isLst : Dt → Bool
  | .lst _ => true
  | _ => false
theorem de_index {apos cpos : Pos} {o : Expr} (ho : DE X W o f1) (he : DE X W e f2) (hbase : attributeBase o "index" X.env (eval o X.env) = eval o X.env := by rfl)
    (hfew : ((backTo cpos (starEach (e :: []) X.env)).all (fun x => !x.1) && (backToKw cpos (keywordEach [] X.env)).all (fun x => x.1.isSome)
      && decide ((e :: ([] : List Expr)).length + ([] : List Keyword).length + (if ([] : List Keyword).isEmpty then 0 else 1) < 30)) = true := by rfl)
    (hline : (apos.endLine == cpos.line) = true := by rfl) (hs : starEach (e :: []) X.env = (false, eval e X.env) :: starEach [] X.env := by rfl) (hplain : (backTo cpos (starEach [] X.env)).any (·.1) = false := by rfl) :
    DE X W (.Call (.Attribute o "index" apos) [e] [] cpos) (meth1 idxD isLst f1 f2) :=
  fun F => PE.wk (pe_bm PySem.F.plainAttrs_list PySem.F.slot_list_index PySem.F.type_list_index mt_index (ho F) (pa_cons (he F) pa_nil hs) hbase hfew hline hs hplain) fun σ H Q ⟨H0, ρ, E, q⟩ => by
    refine ⟨H0, ρ, E, ?_⟩
    unfold meth1 at q
    cases e1 : f1 ρ with
    | ok d ρ1 =>
      rw [e1] at q
      dsimp only [R.bind] at q
      intro v B0 B E1 m1 dv
      cases d with
      | lst xs =>
        rw [if_pos (by rfl)] at q
        cases dv with
        | @lst a vs _ h1 h2 =>
          refine ⟨.inl ⟨rfl, _, SqL.of (E1.ex.hit h1)⟩, B0, ρ1, E1, ?_⟩
          cases e2 : f2 ρ1 with
          | ok y ρ2 =>
            rw [e2] at q
            dsimp only [R.bind] at q
            intro w C0 C E2 m2 d2
            cases e3 : idxD (.lst xs) y with
            | none => rw [e3] at q; exact q.elim
            | some z =>
              rw [e3] at q
              unfold idxD at e3
              dsimp only at e3
              split at e3
              · rename_i hf
                obtain ⟨k, hk, rfl⟩ := Option.map_eq_some_iff.mp e3
                obtain ⟨q1, q2⟩ := (h2.mono m2.b0).flat hf.2
                obtain ⟨q3, q4⟩ := d2.flat hf.1
                rw [← q1, ← q3] at hk
                obtain ⟨i, ei, ⟨z, hz1, hz2⟩, hno⟩ := idxV_spec _ _ _ _ hk
                have ei' : k = i := by omega
                refine ⟨a, vs, w, i, z, rfl, rfl, SqL.of (E2.ex.hit (m2.b0.hit h1)), q4, q2, hz1, hz2, hno, ?_⟩
                rw [← ei']
                exact q _ C0 C E2 (m1.trans m2) (.int _)
              · cases e3
          | ex x ρ1 => rw [e2] at q; exact q
          | bad => rw [e2] at q; exact q
      | _ => exact q.elim
    | ex x ρ1 => rw [e1] at q; exact q
    | bad => rw [e1] at q; exact q
end
end DW

set_option Elab.async false
set_option linter.all false
set_option maxRecDepth 100000
set_option maxHeartbeats 4000000
/-! DWE: any of a tuple of ints -/
namespace DW
open PySem PySem.Spec PyProof.Rows L2
theorem truth_ints {prog : Program} {w : World} {A : Around} {ns : List Int} {its : List Value} (e : IntsAre its ns) :
    TruthOf prog w A (fun i v => its.toArray[i]? = some v) (fun i => (ns.map (· != 0)).getD i false) := fun i v s Q E hv hq => by
  have hv' : its[i]? = some v := by simpa using hv
  have : ∀ {its : List Value} {ns : List Int}, IntsAre its ns → ∀ (i : Nat), its[i]? = some v → ∃ n t, ns[i]? = some n ∧ v = .int n t := by
    intro its ns h
    induction h with
    | nil => intro i h; simp at h
    | cons n t _ ih =>
      intro i h
      cases i with
      | zero => simp at h; exact ⟨n, t, rfl, h.symm⟩
      | succ i => exact ih i (by simpa using h)
  obtain ⟨n, t, hn, rfl⟩ := this e i hv'
  have hg : (ns.map (· != 0)).getD i false = (n != 0) := by rw [List.getD_eq_getElem?_getD, List.getElem?_map, hn]; rfl
  have hq' : Q ((ns.map (· != 0)).getD i false) s := hq
  rw [hg] at hq'
  exact PyProof.Rows.truthy_int hq'
section
variable {X : Cx} {W : WX} {e : Expr} {pos p : Pos} {f1 : Rho → R Dt}
def rAnyT (K : PySem.W.Frag) : List V → Hp → VK → Prop := fun vs H Q => ∃ (a : Addr) (ns : List Int), vs = [V.ref a] ∧ SqT K H a (ns.map V.int) ∧ Q (.bl (ns.any (· != 0))) H
theorem cr_anyT (hc : X.calm = true) : CallR X (.builtin "any") (rAnyT X.K) := by
  intro pins s σ H vs us Q I r h
  obtain ⟨a, ns, rfl, hs, q⟩ := h
  obtain ⟨its, rv, hl, _⟩ := I.tuple hs
  rw [Vals.ref1 r]
  have hi : IntsAre its ns := intsAre_of rv
  have hT : s.heap.IsTuple a its.toArray := by obtain ⟨o, h1, h2, n, h3⟩ := hl; exact ⟨o, h1, h2, n, h3⟩
  have hlt : a < s.heap.objs.size := hl.lt
  refine call_any_walk (wpAny_pyIter_tuple hT ?_)
  refine ⟨_, _, _, _, _, _, _, rfl, Walks.tuple (A := X.A.in1) (I.ok.hd hc) s.heap.objs.size a (Nat.ne_of_lt hlt) its.toArray, ⟨⟨_, Heap.get?_push_size _ rfl, rfl, rfl⟩, hT.push _⟩, truth_ints hi, fun h' tk hk => ?_⟩
  refine ⟨.bl _, H, I.kept fun b o eo => hk b o (fun hmem => ?_) (Heap.get?_push_of_some _ eo), ?_, q⟩
  · rcases List.mem_cons.mp hmem with e1 | hmem
    · exact absurd (e1 ▸ Heap.lt_size eo) (Nat.lt_irrefl _)
    · cases hmem
  · show Value.bool _ = Value.bool _
    have hlen : its.toArray.size = (ns.map (· != 0)).length := by rw [List.size_toArray, List.length_map, ← rv.length, List.length_map]
    rw [hlen, L2.any_range, List.any_map]
    rfl
def anyD : Dt → Option Dt
  | .tup ds => (intsOf ds).map fun ns => .bl (ns.any (· != 0))
  | .lst ds => (blsOf ds).map fun ns => .bl (ns.any id)
  | _ => none
theorem und_any (K : PySem.W.Frag) : UnD K (fun x H Q => rAny K [x] H Q ∨ rAnyT K [x] H Q) anyD := by
  intro x d z H0 H s hx hg Q k
  unfold anyD at hg
  split at hg
  · obtain ⟨ns, h, rfl⟩ := Option.map_eq_some_iff.mp hg
    cases hx with
    | tup h1 h2 =>
      rw [intsOf_eq h] at h2
      rw [h2.ints] at h1
      exact .inr ⟨_, ns, rfl, seqT_mono s h1, sc s (.bl _) k⟩
  · obtain ⟨ns, h, rfl⟩ := Option.map_eq_some_iff.mp hg
    obtain ⟨a, vs, rfl, h1, h2⟩ := hx
    rw [blsOf_eq h] at h2
    rw [h2.bls] at h1
    exact .inl ⟨a, ns, rfl, SqL.of h1, sc s (.bl _) k⟩
  · cases hg
theorem de_any (hc : X.calm = true) (hg : Gl X "any") (hm : X.mg "any" = none) (ha : DK X W e f1) (he : starEach (e :: []) X.env = (false, eval e X.env) :: starEach [] X.env := by rfl) : DE X W (.Call (.Name "any" p) [e] [] pos) (un anyD f1) :=
  de_b1 (callr_or (cr_any hc) (cr_anyT hc)) (und_any _) hg hm (by decide +kernel) ha (he := he)
end
end DW

set_option Elab.async false
set_option linter.all false
set_option maxRecDepth 100000
set_option maxHeartbeats 4000000
/-! DWG0: promises of defs where no repr is on its way (guards known) -/
namespace DW
open PySem PySem.Spec PyProof.Rows L2
abbrev Quiet (A : Around) : Prop := A.guards = some []
theorem quiet_deeper {A : Around} (h : Quiet A) (env : Env) : Quiet (A.deeper env) := by
  show (A.deeper env).guards = some []
  first
    | exact h
    | simpa [Around.deeper, Around.under, Code.guards, pushGuards] using h
structure FnG (P : Program) (w : World) (K : PySem.W.Frag) (mg : Str → Option Value) (base : Heap) (CX : CXT) (k : Nat) (f : Addr) (fd : FuncData) (ps : List Str) (sp : Sp) : Prop where
  len : ∀ vs H Q E, sp vs H Q E → vs.length = ps.length
  run : ∀ (A : Around) (out : List Env) (s : Shared) (H : Hp) (args : Args) (us : List Value) (vs : List V) (Q : VK) (E : XK), Room k A → Quiet A → Env0 P w K mg base A out s H → BindsTo s fd args (ps.zip us) → Vals vs us → sp vs H Q E → codeAny (model P w) A (.call (.ref f) args) (CR CX out P w H s Q E) s
section
variable {P : Program} {w : World} {K : PySem.W.Frag} {mg : Str → Option Value} {base : Heap}
/-- cdv is the code of the def at f -/
def CdOk (K : PySem.W.Frag) (f : Addr) (cdv : Value) : Prop := ∃ (oc : Value) (od : Option Addr) (fd : FuncData) (osl : Array (Option Value)), K.lookup f = some ⟨oc, od, .func fd, osl⟩ ∧ fd.code = cdv ∧ ∃ c, cdv = .ref c
/-- a def's promise from its body -/
theorem fnG {CX : CXT} {x qual : Str} {params : Arguments} {bd : List Stmt} {scope : Scope} {dvs : List V} {kws : List (Str × V)} {f : Addr} {fd : FuncData} {N ps : List Str} {k : Nat} {sp : Sp} (F : FunD K x qual params bd scope dvs kws f fd) (S : FnScope N ps scope)
    (hlen : ∀ vs H Q E, sp vs H Q E → vs.length = ps.length)
    (hb : ∀ (cdv : Value) (A : Around) (out : List Env) (s : Shared) (H : Hp) (vs : List V) (Q : VK) (E : XK), Room k (A.deeper (envOfC qual scope s.heap.objs.size f cdv)) → Quiet (A.deeper (envOfC qual scope s.heap.objs.size f cdv)) → CdOk K f cdv → sp vs H Q E →
      ∃ t, PSs (cxOf CX P w K mg base N qual scope f cdv A out s H E) bd t ∧ t { nx := fun _ H' => Q .non H', rt := Q } (L2.start N vs) H) : FnG P w K mg base CX (k + 1) f fd ps sp := by
  obtain ⟨oc, od, dV, kV, doc, pm, an, cdv, ct, osl, rfl, lk, hcd, -, -⟩ := F.ex
  refine ⟨hlen, fun A out s H args us vs Q E room quiet env0 bind rel hsp => ?_⟩
  have there : ∀ b o, base.get? b = some o → s.heap.get? b = some o := fun b o e => (env0.bs b o e).1
  have kin : K.In s.heap := env0.mod.kin.keeps there
  have kinds : ∀ y ∈ ps.zip us, scope.names.lookup y.1 = some .local ∨ (scope.names.lookup y.1 = some .cell ∧ ((cellsFrom (s.heap.objs.size + 1) scope.names []).lookup y.1).isSome = true) := by
    rintro ⟨n, v⟩ hy
    exact (S.par n (List.of_mem_zip hy).1).imp id fun q => ⟨q, PySem.W.cellsFrom_some _ _ _ (.inl q)⟩
  refine codeAny_call_function room.depth (kin _ _ lk) rfl S.co S.gen rfl (PySem.W.codeRec_of kin hcd) (bind _ _ _ _ (wpAny_newFunctionEnv_cells S.kind kinds fun env henv s1 inc => ?_))
  subst henv
  refine ⟨(env0.mod.nolimit.keeps there).keeps inc.toInCall.keep, codeAny_func ?_⟩
  obtain ⟨t, ht, hq⟩ := hb cdv A out s H vs Q E (room.deeper _) (quiet_deeper quiet _) ⟨oc, od, _, osl, lk, rfl, He.codeIn_ref hcd⟩ hsp
  refine wpAny_mono (ht.run [] s1 (L2.start N vs) H _ (inv_start S room.hd env0 (hlen _ _ _ _ hsp) rel inc) hq) (fun flow s' hs => ?_) (fun _ _ z => z)
  match flow, hs with
  | .ret u, ⟨v, σ', H', J, rv, q⟩ => exact ⟨v, H', J.os, J.bare, J.base, J.hok, rv, q⟩
  | .next, ⟨σ', H', J, q⟩ => exact ⟨V.non, H', J.os, J.bare, J.base, J.hok, (rfl : RelV V.non Value.none), q⟩
  | .brk, ⟨_, _, _, q⟩ => exact q.elim
  | .cont, ⟨_, _, _, q⟩ => exact q.elim
end
section
variable {X : Cx} {CX : CXT} {k : Nat} {f : Addr} {fd : FuncData} {ps : List Str} {sp : Sp} {E : XK} {x : Str} {p pos : Pos} {e : Expr} {es : List Expr} {t : TA}
theorem runG {pins : List (Addr × Obj)} {σ : L2.St} {H : Hp} {s : Shared} {Q : VK} {us : List Value} {vs : List V} (G : FnG X.prog X.w X.K X.mg X.base CX k f fd ps sp) (room : Room k X.A) (quiet : Quiet X.A) (bind : Binds X.K fd ps []) (hx : Passes CX X E)
    (J : Inv X pins σ H s) (rel : Vals vs us) (h : sp vs H Q E) : wpAny (model X.prog X.w) X.A (call (.ref f) us) (EP X pins σ Q) X.xe s := by
  have hl : (us ++ []).length = ps.length := by rw [List.append_nil, ← rel.length]; exact G.len _ _ _ _ h
  have hb : BindsTo s fd ⟨us, []⟩ (ps.zip us) := by
    have := bind s us J.kIn hl
    rwa [List.append_nil] at this
  refine wpAny_call (codeAny_mono (G.run X.A X.stack s H ⟨us, []⟩ us vs Q E room quiet J.env0 hb rel h) fun res s' hq => ?_)
  match res, hq with
  | .error err, hq => exact hx pins σ H s err s' J hq
  | .ok (.ret u), hq => exact J.after hq
  | .ok .next, hq => exact False.elim hq
  | .ok .brk, hq => exact False.elim hq
  | .ok .cont, hq => exact False.elim hq
theorem pe_callG (G : FnG X.prog X.w X.K X.mg X.base CX k f fd ps sp) (room : Room k X.A) (quiet : Quiet X.A) (hgl : Gl X x) (hmg : X.mg x = some (.ref f)) (keep : PySem.W.keepIn X.K (.ref f) = true) (bind : Binds X.K fd ps []) (hx : Passes CX X E)
    (args : PA X (e :: es) t) (hdb : (x == ("__debug__" : Str)) = false) (he : starEach (e :: es) X.env = (false, eval e X.env) :: starEach es X.env) (hpl : (backTo pos (starEach es X.env)).any (·.1) = false) :
    PE X (.Call (.Name x p) (e :: es) [] pos) (tCall sp [] E t) :=
  ⟨fun pins s σ H Q J h => wpAny_Call_Name_kw (ld_glob J hgl hmg (PySem.W.callWith_K (h₀ := X.base) J.ok.mod.kin keep (thn (args.run pos pins s σ H _ J h) fun us s1 z => by
    obtain ⟨vs, H1, J1, rel, q⟩ := z
    rw [List.append_nil] at q
    exact ⟨J1.kIn, runG G room quiet bind hx J1 rel q⟩) he hpl) hdb)⟩
theorem pe_callG0 (G : FnG X.prog X.w X.K X.mg X.base CX k f fd ps sp) (room : Room k X.A) (quiet : Quiet X.A) (hgl : Gl X x) (hmg : X.mg x = some (.ref f)) (keep : PySem.W.keepIn X.K (.ref f) = true) (bind : Binds X.K fd ps []) (hx : Passes CX X E)
    (hdb : (x == ("__debug__" : Str)) = false) : PE X (.Call (.Name x p) [] [] pos) (tCall sp [] E tNil) :=
  ⟨fun pins s σ H Q J h => wpAny_Call_Name_kw (ld_glob J hgl hmg (PySem.W.callWith_K0 J.kIn keep (runG (us := []) (vs := []) G room quiet bind hx J .nil h)) hdb)⟩
end
/-! ### the law's end -/
theorem lawG {P : Program} {w : World} {K : PySem.W.Frag} {mg mb : Str → Option Value} {CX : CXT} {k : Nat} {fa a : Addr} {fd : FuncData} {x : Str} {sp : Sp} {t : Shared} {us : List Value} {ns : List Int}
    (kin : K.In t.heap) (glob : t.heap.Ns mainGlobals mg) (blt : t.heap.Ns builtinsNs mb) (boot : ∀ x : Str, x ≠ "__name__" → mb x = bootBuiltins x) (lim : t.heap.NoLimit) (gens : t.gens = #[])
    (obj : t.heap.get? a = some { cls := .type "list", data := .seq us.toArray }) (hints : IntsAre us ns) (len : ns.length ≤ sizeLine) (room : Room k callerA)
    (G : ∀ base : Heap, K.In base → base.Ns mainGlobals mg → FnG P w K mg base CX k fa fd [x] sp) (bind : ∀ (s : Shared) (u : Value), BindsTo s fd ⟨[u], []⟩ [(x, u)])
    (hsp : ∀ H : Hp, SqL K H a (ns.map V.int) → sp [.ref a] H (fun v _ => v = .bl true) fun _ _ _ => False)
    (hCX : ∀ H e s', CX [] H t (fun _ _ _ => False) e s' → False) :
    codeAny (model P w) callerA (.call (.ref fa) ⟨[.ref a], []⟩) (fun r s' => r = .ok (.ret (.bool true)) ∧ OldK t.heap s'.heap ∧ s'.os = t.os ∧ AllBare s'.gens) t := by
  have key : ∀ H : Hp, Only H → SqL K H a (ns.map V.int) → HOk P w H t.heap → (∀ b, H b ≠ none → b = a) → (H a ≠ none → K.lookup a = none) →
      codeAny (model P w) callerA (.call (.ref fa) ⟨[.ref a], []⟩) (fun r s' => r = .ok (.ret (.bool true)) ∧ OldK t.heap s'.heap ∧ s'.os = t.os ∧ AllBare s'.gens) t := fun H only sq hok at_ off => by
    have away : ∀ {b : Addr}, b ≠ a → H b = none := fun {b} hb => by
      cases q : H b with
      | none => rfl
      | some u => exact absurd (at_ b (by rw [q]; exact fun z => nomatch z)) hb
    have dictAway : ∀ {b : Addr} {m : Str → Option Value}, t.heap.Ns b m → b ≠ a := fun {b m} ⟨o, es, ep, e, d, _⟩ z => by
      rw [z, obj] at e
      cases e
      cases d
    have move : ∀ {b : Addr} {m : Str → Option Value}, t.heap.Ns b m → (hidT t.heap H).Ns b m := fun {b m} n => by
      have hb := dictAway n
      obtain ⟨o, es, ep, e, rest⟩ := n
      exact ⟨o, es, ep, hidT_get e (away hb), rest⟩
    have kinH : K.In (hidT t.heap H) := fun b o e => by
      refine hidT_get (kin b o e) ?_
      by_cases hb : b = a
      · subst hb
        cases q : H b with
        | none => rfl
        | some u =>
          rw [off (by rw [q]; exact fun z => nomatch z)] at e
          cases e
      · exact away hb
    obtain ⟨mc, l1, l2⟩ := lim
    have env0 : Env0 P w K mg (hidT t.heap H) callerA [] t H := ⟨rfl, ⟨kinH, move glob, ⟨mb, move blt, boot⟩, ⟨mc, move l1, l2⟩⟩, fun _ _ e => of_hidT e, Nat.le_of_eq (hidT_size _ _), trivial, fun b hb => (nomatch hb), hok, .of_eq gens⟩
    refine codeAny_mono ((G _ kinH (move glob)).run callerA [] t H ⟨[.ref a], []⟩ [.ref a] [.ref a] _ _ room rfl env0 (bind t (.ref a)) (.cons rfl .nil) (hsp H sq)) fun res s' h => ?_
    match res, h with
    | .error e, h => exact (hCX H e s' h).elim
    | .ok .next, h => exact False.elim h
    | .ok .brk, h => exact False.elim h
    | .ok .cont, h => exact False.elim h
    | .ok (.ret u), ⟨v, H', os, bare, un, hok', rel, q⟩ =>
      have hv : v = .bl true := q
      subst hv
      have hu : u = Value.bool true := rel
      subst hu
      refine ⟨rfl, OldK.of_keep fun b o e => ?_, os, bare⟩
      rcases only b with z | ⟨ob, xs, z⟩
      · exact un.keep b o e z (fun m => nomatch m) (fun m => nomatch m)
      · have e1 := (hok b _ z).1
        rw [e] at e1
        cases e1
        exact (hok' b _ (un.frzs b _ _ z)).1
  have rel := vals_ints hints
  by_cases hk : ∃ o, K.lookup a = some o
  · obtain ⟨o, hk⟩ := hk
    have e := kin a o hk
    rw [obj] at e
    cases e
    exact key (fun _ => none) (fun _ => .inl rfl) (.inr ⟨_, us.toArray, _, hk, rfl, rfl, rfl, by rw [List.size_toArray, hints.length]; exact len, by simpa using rel⟩) (fun _ _ z => nomatch z) (fun _ z => absurd rfl z) fun z => absurd rfl z
  · have hk' : K.lookup a = none := by
      cases q : K.lookup a with
      | none => rfl
      | some o => exact absurd ⟨o, q⟩ hk
    refine key (fun b => if b = a then some (.frz { cls := .type "list", data := .seq us.toArray } (.lst (ns.map V.int))) else none) (fun b => ?_) (.inl (.inr ⟨_, if_pos rfl⟩)) (fun b u z => ?_) (fun b z => ?_) fun _ => hk'
    · by_cases hb : b = a
      · exact .inr ⟨_, _, if_pos hb⟩
      · exact .inl (if_neg hb)
    · by_cases hb : b = a
      · subst hb
        cases (if_pos rfl).symm.trans z
        exact ⟨obj, by rw [List.length_map]; exact len, us, _, rel, obj⟩
      · cases (if_neg hb).symm.trans z
    · by_cases hb : b = a
      · exact hb
      · exact absurd (if_neg hb) z
theorem walkG {l : PySem.W.OpenLaw} {n k : Nat} {q : Program} {loose : List Str} {XP : (Str → Option Value) → Heap → Prop} {YP : World → Heap → Prop} {d : DefRec} {CX : CXT} {x : Str}
    (most : l.most = some n) (line : n ≤ sizeLine) (dfl : d.params.defaults = []) (room : Room k callerA)
    (F : ∀ (w : World) (mg : Str → Option Value) (fa : Addr) (h : Heap), YP w h → h.Ns mainGlobals mg → mg d.name = some (.ref fa) →
      ∃ (K : PySem.W.Frag) (fd : FuncData) (sp : Sp), K.In h ∧ (∀ (s : Shared) (u : Value), BindsTo s fd ⟨[u], []⟩ [(x, u)]) ∧
        (∀ (H : Hp) (a : Addr) (ns : List Int), ns.length ≤ n → SqL K H a (ns.map V.int) → sp [.ref a] H (fun v _ => v = .bl true) fun _ _ _ => False) ∧
        ∀ base : Heap, K.In base → base.Ns mainGlobals mg → FnG l.prog w K mg base CX k fa fd [x] sp)
    (hCX : ∀ (H : Hp) (s : Shared) (e : Value) (s' : Shared), CX [] H s (fun _ _ _ => False) e s' → False) :
    PySem.W.WalkO q loose XP YP l.row.toRowW d [] (fun f vs => PySem.call f vs) :=
  Att.attach_call most dfl fun w _ t mg mb fa _ _ _ _ a us ns Gd Y _ _ _ hmg hobj hints hlen hg => by
    obtain ⟨K, fd, sp, kin, bind, hsp, hF⟩ := F w mg fa _ Y Gd.T.g hmg
    exact lawG kin Gd.T.g Gd.T.b Gd.T.builtins Gd.T.nolimit hg hobj hints (Nat.le_trans hlen line) room hF bind (fun H sq => hsp H a ns hlen sq) fun H e s' => hCX H t e s'
end DW

set_option Elab.async false
set_option linter.all false
set_option maxRecDepth 100000
set_option maxHeartbeats 4000000
/-! DWF: defs by their names; a law's end -/
namespace DW
open PySem PySem.Spec PyProof.Rows L2
def IsDef (K : PySem.W.Frag) (mg : Str → Option Value) (x : Str) (st : Stmt) : Prop := ∃ f fd, FunD K x x (defArgs st) (defBody st) (defScope st) [] [] f fd ∧ mg x = some (.ref f)
def Has (P : Program) (w : World) (K : PySem.W.Frag) (mg : Str → Option Value) (base : Heap) (x : Str) (ps : List Str) (fn : Fn) (k : Nat) : Prop :=
  ∃ f fd, mg x = some (.ref f) ∧ PySem.W.keepIn K (.ref f) = true ∧ Binds K fd ps [] ∧ FnG P w K mg base CX0 k f fd ps (spF ⟨K, mg⟩ fn)
def HasM (P : Program) (w : World) (K : PySem.W.Frag) (mg : Str → Option Value) (base : Heap) (x : Str) (ps : List Str) (fn : FnM) (k : Nat) : Prop :=
  ∃ f fd, mg x = some (.ref f) ∧ PySem.W.keepIn K (.ref f) = true ∧ Binds K fd ps [] ∧ FnG P w K mg base CX0 k f fd ps (spM ⟨K, mg⟩ fn)
section
variable {P : Program} {w : World} {K : PySem.W.Frag} {mg : Str → Option Value} {base : Heap}
theorem fnD0 {x qual : Str} {params : Arguments} {bd : List Stmt} {scope : Scope} {f : Addr} {fd : FuncData} {N ps : List Str} {k : Nat} {body : Rho → SR} (F : FunD K x qual params bd scope [] [] f fd) (S : FnScope N ps scope) (hN : ps.length ≤ N.length)
    (hb : ∀ (cdv : Value) (A : Around) (outer : List Env) (s : Shared) (H : Hp) (E : XK), Room k (A.deeper (envOfC qual scope s.heap.objs.size f cdv)) → Quiet (A.deeper (envOfC qual scope s.heap.objs.size f cdv)) → CdOk K f cdv → DSs (cxOf CX0 P w K mg base N qual scope f cdv A outer s H E).nox WF bd body) :
    FnG P w K mg base CX0 (k + 1) f fd ps (spF ⟨K, mg⟩ (runF ps.length N.length body)) := by
  have lem : ∀ ds : List Dt, (∃ s, runF ps.length N.length body ds = .ok s) → ds.length = ps.length := fun ds ⟨s, h⟩ => by
    unfold runF at h
    split at h
    · assumption
    · cases h
  refine fnG F S (fun vs H Q E h => ?_) (fun cdv A outer s H vs Q E hr hq hcd h => ?_)
  · obtain ⟨H0, ds, h1, tb, h2, h3⟩ := h
    cases e : runF ps.length N.length body ds with
    | ok s => rw [h2.length]; exact lem ds ⟨s, e⟩
    | ex _ => rw [e] at h3; exact h3.elim
    | bad => rw [e] at h3; exact h3.elim
  · obtain ⟨H0, ds, h1, tb, h2, h3⟩ := h
    have hl : ds.length = ps.length := by
      cases e : runF ps.length N.length body ds with
      | ok s => exact lem ds ⟨s, e⟩
      | ex _ => rw [e] at h3; exact h3.elim
      | bad => rw [e] at h3; exact h3.elim
    refine ⟨_, PSs.nox (hb cdv A outer s H E hr hq hcd ⟨H0, H, none, false⟩), H0, envOf N.length ds, en_start h1 tb h2 (by omega), ?_⟩
    unfold runF at h3
    rw [if_pos hl] at h3
    cases e : body (envOf N.length ds) with
    | nx ρ' =>
      rw [e] at h3
      exact fun σ' H0' H' E' _ => h3 _ H0' H' E'.gr E'.tb E'.ex (Da.non : Da K H0' .non .non)
    | rt s ρ' =>
      rw [e] at h3
      exact fun v σ' H0' H' E' hs => h3 _ H0' H' E'.gr E'.tb E'.ex hs
    | bk _ => rw [e] at h3; exact h3.elim
    | ct _ => rw [e] at h3; exact h3.elim
    | ex _ _ => rw [e] at h3; exact h3.elim
    | bad => rw [e] at h3; exact h3.elim
theorem fnDM {x qual : Str} {params : Arguments} {bd : List Stmt} {scope : Scope} {f : Addr} {fd : FuncData} {N ps : List Str} {k : Nat} {body : Rho → SR} (F : FunD K x qual params bd scope [] [] f fd) (S : FnScope N ps scope) (hN : ps.length ≤ N.length)
    (hb : ∀ (cdv : Value) (A : Around) (outer : List Env) (s : Shared) (H : Hp) (E : XK), Room k (A.deeper (envOfC qual scope s.heap.objs.size f cdv)) → Quiet (A.deeper (envOfC qual scope s.heap.objs.size f cdv)) → CdOk K f cdv → DSs (cxOf CX0 P w K mg base N qual scope f cdv A outer s H E).nox WF bd body) :
    FnG P w K mg base CX0 (k + 1) f fd ps (spM ⟨K, mg⟩ (runM ps.length N.length body)) := by
  have lem : ∀ kvs (ds : List Dt), (∃ s kvs', runM ps.length N.length body kvs ds = .ok s kvs') → ds.length + 1 = ps.length := fun kvs ds ⟨s, kvs', h⟩ => by
    unfold runM at h
    split at h
    · assumption
    · cases h
  have lem2 : ∀ {Q : VK} {E : XK} {vs : List V} {H : Hp}, spM ⟨K, mg⟩ (runM ps.length N.length body) vs H Q E → vs.length = ps.length := fun {Q E vs H} h => by
    obtain ⟨H0, a, ks, kvs, vs', ds, rfl, h1, tb, h2, h3, h4, h5, h6⟩ := h
    cases e : runM ps.length N.length body kvs ds with
    | ok s kvs' => rw [List.length_cons, h5.length]; exact lem kvs ds ⟨s, kvs', e⟩
    | ex _ => rw [e] at h6; exact h6.elim
    | bad => rw [e] at h6; exact h6.elim
  refine fnG F S (fun vs H Q E h => lem2 h) (fun cdv A outer s H vs Q E hr hq hcd h => ?_)
  have hvl := lem2 h
  obtain ⟨H0, a, ks, kvs, vs', ds, rfl, h1, tb, h2, h3, h4, h5, h6⟩ := h
  have hl : ds.length + 1 = ps.length := by rw [List.length_cons, h5.length] at hvl; exact hvl
  refine ⟨_, PSs.nox (hb cdv A outer s H E hr hq hcd ⟨H0, H, some a, false⟩), H0, envM N.length kvs ds, en_startM h1 tb h2 h3 h4 h5 (by omega), ?_⟩
  unfold runM at h6
  rw [if_pos hl] at h6
  have atIo : ∀ {σ' : L2.St} {ρ' : Rho} {H0' H' : Hp} {kvs' : List (Key × Dt)}, En K ⟨H0, H, some a, false⟩ H0' H' σ' ρ' → ioOf ρ' = some kvs' → ∃ ks', H' a = some (.dK ks') ∧ DaKv K H0' ks' kvs' := fun {σ' ρ' H0' H' kvs'} E' hio => by
    obtain ⟨y1, ⟨kv, y2⟩, _⟩ := E'.io a rfl
    obtain ⟨v, z1, b, ks2, rfl, z2, z3, z4, z5⟩ := E'.sl 0 _ y2
    rw [y1] at z1
    cases z1
    refine ⟨ks2, z4, ?_⟩
    cases ρ' with
    | nil => cases y2
    | cons x r =>
      have hx : x = some (.io kv) := by simpa using y2
      subst hx
      have : kv = kvs' := by simpa [ioOf] using hio
      subst this
      exact z5
  cases e : body (envM N.length kvs ds) with
  | nx ρ' =>
    rw [e] at h6
    intro σ' H0' H' E' _
    cases e2 : ioOf ρ' with
    | none => dsimp only at h6; rw [e2] at h6; exact h6.elim
    | some kvs' =>
      dsimp only at h6
      rw [e2] at h6
      obtain ⟨ks', q1, q2⟩ := atIo E' e2
      exact h6 _ ks' H0' H' E'.gr E'.tb E'.ex q1 q2 (Da.non : Da K H0' .non .non)
  | rt s ρ' =>
    rw [e] at h6
    intro v σ' H0' H' E' hs
    cases e2 : ioOf ρ' with
    | none => dsimp only at h6; rw [e2] at h6; exact h6.elim
    | some kvs' =>
      dsimp only at h6
      rw [e2] at h6
      obtain ⟨ks', q1, q2⟩ := atIo E' e2
      exact h6 _ ks' H0' H' E'.gr E'.tb E'.ex q1 q2 hs
  | bk _ => rw [e] at h6; exact h6.elim
  | ct _ => rw [e] at h6; exact h6.elim
  | ex _ _ => rw [e] at h6; exact h6.elim
  | bad => rw [e] at h6; exact h6.elim
theorem has0 {x : Str} {st : Stmt} {N ps : List Str} {k : Nat} {body : Rho → SR} (D : IsDef K mg x st) (S : FnScope N ps (defScope st)) (hN : ps.length ≤ N.length)
    (hbi : ∀ (kV doc pm : Value) (an : Option Addr) (cdv ct : Value) (us : List Value), us.length = ps.length → bindArgs (PySem.W.fnOf x x (defArgs st) (defBody st) (defScope st) .none kV doc pm an cdv ct) ⟨us, []⟩ = pure (ps.zip us))
    (hb : ∀ (f : Addr) (cdv : Value) (A : Around) (outer : List Env) (s : Shared) (H : Hp) (E : XK), Room k (A.deeper (envOfC x (defScope st) s.heap.objs.size f cdv)) → Quiet (A.deeper (envOfC x (defScope st) s.heap.objs.size f cdv)) → mg x = some (.ref f) ∧ CdOk K f cdv → DSs (cxOf CX0 P w K mg base N x (defScope st) f cdv A outer s H E).nox WF (defBody st) body) :
    Has P w K mg base x ps (runF ps.length N.length body) (k + 1) := by
  obtain ⟨f, fd, F, hm⟩ := D
  exact ⟨f, fd, hm, F.kp, F.bindsN hbi, fnD0 F S hN fun cdv A outer s H E hr hq hc => hb f cdv A outer s H E hr hq ⟨hm, hc⟩⟩
theorem hasM {x : Str} {st : Stmt} {N ps : List Str} {k : Nat} {body : Rho → SR} (D : IsDef K mg x st) (S : FnScope N ps (defScope st)) (hN : ps.length ≤ N.length)
    (hbi : ∀ (kV doc pm : Value) (an : Option Addr) (cdv ct : Value) (us : List Value), us.length = ps.length → bindArgs (PySem.W.fnOf x x (defArgs st) (defBody st) (defScope st) .none kV doc pm an cdv ct) ⟨us, []⟩ = pure (ps.zip us))
    (hb : ∀ (f : Addr) (cdv : Value) (A : Around) (outer : List Env) (s : Shared) (H : Hp) (E : XK), Room k (A.deeper (envOfC x (defScope st) s.heap.objs.size f cdv)) → Quiet (A.deeper (envOfC x (defScope st) s.heap.objs.size f cdv)) → mg x = some (.ref f) ∧ CdOk K f cdv → DSs (cxOf CX0 P w K mg base N x (defScope st) f cdv A outer s H E).nox WF (defBody st) body) :
    HasM P w K mg base x ps (runM ps.length N.length body) (k + 1) := by
  obtain ⟨f, fd, F, hm⟩ := D
  exact ⟨f, fd, hm, F.kp, F.bindsN hbi, fnDM F S hN fun cdv A outer s H E hr hq hc => hb f cdv A outer s H E hr hq ⟨hm, hc⟩⟩
end
section
variable {X : Cx} {W : WX} {e : Expr} {es : List Expr} {pos p p2 : Pos} {fa : Rho → R (List Dt)} {k j : Nat} {ps : List Str} {x : Str}
theorem de_h {fn : Fn} (h : Has X.prog X.w X.K X.mg X.base x ps fn j) (hr : Room k X.A) (hq : Quiet X.A) (hjk : j ≤ k) (hg : Gl X x)
    (ha : DA X W (e :: es) fa) (hdb : (x == ("__debug__" : Str)) = false := by decide) (he : starEach (e :: es) X.env = (false, eval e X.env) :: starEach es X.env := by rfl) (hpl : (backTo pos (starEach es X.env)).any (·.1) = false := by rfl) :
    DE X W (.Call (.Name x p) (e :: es) [] pos) (callF fn fa) := by
  obtain ⟨f, fd, hm, hk, hb, G⟩ := h
  exact fun F => PE.wk (pe_callG G (hr.mono hjk) hq hg hm hk hb pass0 (ha F) hdb he hpl) fun _ _ _ h => tCall_of h
theorem de_h0 {fn : Fn} (h : Has X.prog X.w X.K X.mg X.base x ps fn j) (hr : Room k X.A) (hq : Quiet X.A) (hjk : j ≤ k) (hg : Gl X x) (hdb : (x == ("__debug__" : Str)) = false := by decide) : DE X W (.Call (.Name x p) [] [] pos) (callF fn nilA) := by
  obtain ⟨f, fd, hm, hk, hb, G⟩ := h
  exact fun F => PE.wk (pe_callG0 G (hr.mono hjk) hq hg hm hk hb pass0 hdb) fun σ H Q h => by
    obtain ⟨H0, ρ, E, q⟩ := tCall_of (E := E0) h
    exact q [] H0 H E Mv.refl .nil
theorem do_h {fn : Fn} (h : Has X.prog X.w X.K X.mg X.base x ps fn j) (hr : Room k X.A) (hq : Quiet X.A) (hjk : j ≤ k) (hg : Gl X x)
    (ha : DA X W (e :: es) fa) (hdb : (x == ("__debug__" : Str)) = false := by decide) (he : starEach (e :: es) X.env = (false, eval e X.env) :: starEach es X.env := by rfl) (hpl : (backTo pos (starEach es X.env)).any (·.1) = false := by rfl) :
    DO X W (.Call (.Name x p) (e :: es) [] pos) (callO fn fa) := by
  obtain ⟨f, fd, hm, hk, hb, G⟩ := h
  exact fun F => PE.wk (pe_callG G (hr.mono hjk) hq hg hm hk hb pass0 (ha F) hdb he hpl) fun _ _ _ h => tCallO_of h
theorem de_hM {fn : FnM} {i : Nat} {y : Str} (h : HasM X.prog X.w X.K X.mg X.base x ps fn j) (hr : Room k X.A) (hq : Quiet X.A) (hjk : j ≤ k) (hg : Gl X x)
    (hy : PE X (.Name y p2) (tVar i)) (ha : DA X W es fa) (hdb : (x == ("__debug__" : Str)) = false := by decide) (he : starEach (.Name y p2 :: es) X.env = (false, eval (.Name y p2) X.env) :: starEach es X.env := by rfl) (hpl : (backTo pos (starEach es X.env)).any (·.1) = false := by rfl) :
    DE X W (.Call (.Name x p) (.Name y p2 :: es) [] pos) (callM fn i fa) := by
  obtain ⟨f, fd, hm, hk, hb, G⟩ := h
  exact fun F => PE.wk (pe_callG G (hr.mono hjk) hq hg hm hk hb pass0 (pa_cons hy (ha F) he) hdb he hpl) fun _ _ _ h => tCallM_of h
end
theorem u64 {A : Around} {k : Nat} (hr : Room k A) : A.units + 64 < cLine := by have := hr.un; omega
theorem u1 {A : Around} {k : Nat} (hr : Room k A) : A.units + 1 < cLine := by have := hr.un; omega
/-- the law's promise from its function: the tables are not the base's -/
theorem law_sp {K : PySem.W.Frag} {mg : Str → Option Value} {fn : Fn} (h : ∀ ns : List Int, ns.length ≤ 63 → fn [.scr ns] = .ok (.fr (.bl true))) (H : Hp) (a : Addr) (ns : List Int) (hl : ns.length ≤ 63) (hS : SqL K H a (ns.map V.int)) (hT : ∀ p ∈ tT K, H p.1 = some (.tbl #[])) : spF ⟨K, mg⟩ fn [.ref a] H (fun v _ => v = .bl true) fun _ _ _ => False := by
  have sm : Same (fun b => match H b with | some (.tbl _) => none | o => o) H := Same.of fun b o e => by
    split at e
    · cases e
    · exact e
  have hS0 : SqL K (fun b => match H b with | some (.tbl _) => none | o => o) a (ns.map V.int) := by
    rcases hS with (h | ⟨o, h⟩) | h
    · exact .inl (.inl (by show (match H a with | some (.tbl _) => none | o => o) = _; rw [h]))
    · exact .inl (.inr ⟨o, by show (match H a with | some (.tbl _) => none | o => o) = _; rw [h]⟩)
    · exact .inr h
  refine ⟨_, [.scr ns], sm, fun p hp => ⟨⟨?_, fun _ ps e pos cv hc => ?_⟩, LamX.TabS.nil (hT p hp)⟩, .cons (.scr hS0) .nil, ?_⟩
  · show (match H p.1 with | some (.tbl _) => none | o => o) = _
    rw [hT p hp]
  · rw [hT p hp] at e
    cases e
    cases hc
  · rw [h ns hl]
    intro v H0' H' _ _ _ hv
    cases hv
    rfl
end DW

set_option Elab.async false
set_option linter.all false
set_option maxRecDepth 100000
set_option maxHeartbeats 4000000
/-! DWG: repr -/
namespace DW
open PySem PySem.Spec PyProof.Rows L2
mutual
/-- a bound of a thing's text -/
def wtD : Dt → Nat
  | .lst xs => wtAll xs + 2
  | .tup xs => wtAll xs + 3
  | .dct _ => 0
  | .non => 4
  | .bl _ => 5
  | .int _ => 600
  | .str x => (reprText x).length
  | .scr ns => 602 * ns.length + 2
  | .xo _ _ _ => 0
  | .fn _ => 0
def wtAll : List Dt → Nat
  | [] => 0
  | d :: ds => wtD d + 2 + wtAll ds
end
theorem ints_noDict : ∀ ns : List Int, PyData.hasDictAll (ns.map PyData.int) = false
  | [] => rfl
  | n :: ns => by simpa [PyData.hasDictAll, PyData.hasDict] using ints_noDict ns
mutual
theorem plain_noDict : ∀ d : Dt, plainD d = true → (toPy d).hasDict = false
  | .lst xs, h => by simp only [toPy, PyData.hasDict]; exact plain_noDictAll xs (by simpa [plainD] using h)
  | .tup xs, h => by simp only [toPy, PyData.hasDict]; exact plain_noDictAll xs (by simpa [plainD] using h)
  | .dct _, h => by simp [plainD] at h
  | .non, _ => by simp [toPy, PyData.hasDict]
  | .bl _, _ => by simp [toPy, PyData.hasDict]
  | .int _, _ => by simp [toPy, PyData.hasDict]
  | .str _, _ => by simp [toPy, PyData.hasDict]
  | .scr ns, _ => by
    simp only [toPy, PyData.hasDict]
    exact ints_noDict ns
  | .xo _ _ _, h => by simp [plainD] at h
  | .fn _, h => by simp [plainD] at h
theorem plain_noDictAll : ∀ ds : List Dt, plainAll ds = true → PyData.hasDictAll (toPyAll ds) = false
  | [], _ => rfl
  | d :: ds, h => by
    simp only [plainAll, Bool.and_eq_true] at h
    simp only [toPyAll, PyData.hasDictAll, plain_noDict d h.1, plain_noDictAll ds h.2, Bool.or_self]
end
theorem listText_len_le (ts : List Str) : (listText ts).length ≤ piled ts + 2 := by
  cases ts with
  | nil => decide
  | cons t r =>
    have h := textFrom_length_pos r 1 (("[" : Str) ++ (if (0 : Nat) > 0 then ", " else "" : String) ++ t) (Nat.succ_pos 0)
    have e : ((("[" : Str) ++ (if (0 : Nat) > 0 then ", " else "" : String) ++ t)).length = 1 + t.length := by
      rw [strLen_append, strLen_append]; rfl
    have hX : (listText (t :: r)).length = (textFrom 0 "[" (t :: r)).length + 1 := by
      show (textFrom 0 "[" (t :: r) ++ "]").length = _
      rw [strLen_append]; rfl
    have hY : (textFrom 0 "[" (t :: r)).length = (textFrom 1 (("[" : Str) ++ (if (0 : Nat) > 0 then ", " else "" : String) ++ t) r).length := rfl
    rw [hX, hY, h, e, piled_cons]; omega
theorem tupleText_len_le (ts : List Str) : (tupleText ts).length ≤ piled ts + 3 := by
  unfold tupleText
  rw [strLen_append, strLen_append]
  have e1 : ((("(" : String) : Str)).length = 1 := rfl
  have e3 : (((if ts.length == 1 then ",)" else ")" : String) : Str)).length ≤ 2 := by split <;> decide
  rw [e1]
  by_cases h : ts = []
  · subst h
    have : (Str.join ", " ([] : List Str)).length = 0 := rfl
    omega
  · have := join_length_add ts h
    omega
theorem int_len {i : Int} (h : i.natAbs.log2 < 1920) : (Str.ofString (toString i)).length ≤ 600 := by
  have h2 : i.natAbs < 2 ^ 1920 := by
    by_cases z : i.natAbs = 0
    · rw [z]; exact Nat.two_pow_pos 1920
    · exact (Nat.log2_lt z).mp h
  have h3 : i.natAbs < 10 ^ 599 := Nat.lt_of_lt_of_le h2 (by decide +kernel)
  have e := int_text_length_le10 (k := 599) (by decide) h3
  rw [PySem.ofString_length]; omega
theorem shownAll_eq : ∀ ds : List PyData, PyData.shownAll ds = ds.map PyData.shown
  | [] => rfl
  | d :: ds => by simp [PyData.shownAll, shownAll_eq ds]
theorem ints_len : ∀ ns : List Int, PyData.showableAll (ns.map PyData.int) = true → piled (PyData.shownAll (ns.map PyData.int)) ≤ 602 * ns.length
  | [], _ => Nat.le_refl _
  | n :: ns, h => by
    simp only [List.map_cons, PyData.showableAll, PyData.showable, Bool.and_eq_true, decide_eq_true_eq] at h
    have h1 := ints_len ns h.2
    have h2 := int_len h.1
    simp only [List.map_cons, PyData.shownAll, PyData.shown, piled_cons, List.length_cons]
    omega
mutual
theorem shown_len : ∀ d : Dt, (toPy d).showable = true → plainD d = true → (toPy d).shown.length ≤ wtD d
  | .lst xs, h, p => by
    have := listText_len_le (PyData.shownAll (toPyAll xs))
    have := shown_lenAll xs (by simpa [toPy, PyData.showable] using h) (by simpa [plainD] using p)
    simp only [toPy, PyData.shown, wtD]
    omega
  | .tup xs, h, p => by
    have := tupleText_len_le (PyData.shownAll (toPyAll xs))
    have := shown_lenAll xs (by simpa [toPy, PyData.showable] using h) (by simpa [plainD] using p)
    simp only [toPy, PyData.shown, wtD]
    omega
  | .dct _, _, p => by simp [plainD] at p
  | .xo _ _ _, _, p => by simp [plainD] at p
  | .fn _, _, p => by simp [plainD] at p
  | .non, _, _ => by decide
  | .bl b, _, _ => by cases b <;> decide
  | .int i, h, _ => by
    simp only [toPy, PyData.showable, decide_eq_true_eq] at h
    exact int_len h
  | .str _, _, _ => Nat.le_refl _
  | .scr ns, h, _ => by
    have := listText_len_le (PyData.shownAll (ns.map PyData.int))
    have := ints_len ns (by simpa [toPy, PyData.showable] using h)
    simp only [toPy, PyData.shown, wtD]
    omega
theorem shown_lenAll : ∀ ds : List Dt, PyData.showableAll (toPyAll ds) = true → plainAll ds = true → piled (PyData.shownAll (toPyAll ds)) ≤ wtAll ds
  | [], _, _ => Nat.le_refl _
  | d :: ds, h, p => by
    simp only [toPyAll, PyData.showableAll, Bool.and_eq_true] at h
    simp only [plainAll, Bool.and_eq_true] at p
    have h1 := shown_lenAll ds h.2 p.2
    have h2 := shown_len d h.1 p.1
    simp only [toPyAll, PyData.shownAll, piled_cons, wtAll]
    omega
end
def reprOk (d : Dt) : Bool := plainD d && (toPy d).showable && decide ((toPy d).depth ≤ 50) && decide (wtD d ≤ 16000000)
def reprD (d : Dt) : Option Dt := if reprOk d = true then some (.str (toPy d).shown) else none
section
variable {X : Cx} {W : WX} {e : Expr} {pos p : Pos} {f1 : Rho → R Dt}
def rRepr (K : PySem.W.Frag) : V → Hp → VK → Prop := fun x H Q => ∃ d, Dp K H x d ∧ d.showable = true ∧ d.hasDict = false ∧ d.depth ≤ 50 ∧ d.shown.length ≤ sizeLine ∧ Q (.str d.shown) H
theorem cr_repr (hu : X.A.units + 64 < cLine) (hq : Quiet X.A) : CallR X (.builtin "repr") (fun xs H Q => ∃ x, xs = [x] ∧ rRepr X.K x H Q) := by
  intro pins s σ H xs us Q I r h
  obtain ⟨x, rfl, d, hd, hs, hn, hp, hl, q⟩ := h
  obtain ⟨u, rfl, ru⟩ := vals1 r
  cases hd with
  | non => cases ru; exact PySem.P.repr_of_none ⟨.str _, H, I.tok _, ⟨_, rfl⟩, q⟩
  | bl b => cases ru; exact PySem.P.repr_of_bool ⟨.str _, H, I.tok _, ⟨_, rfl⟩, q⟩
  | int i =>
    obtain ⟨t, rfl⟩ := ru
    exact PySem.P.repr_of_int (by simpa [PyData.showable] using hs) ⟨.str _, H, I.tok _, ⟨_, rfl⟩, q⟩
  | str i =>
    obtain ⟨t, rfl⟩ := ru
    exact PySem.P.repr_of_str ⟨.str _, H, I.tok _, ⟨_, rfl⟩, q⟩ hl
  | lst h1 h2 =>
    obtain ⟨as, rd⟩ := Dp.reads I _ _ _ (.lst h1 h2) ru
    cases ru
    exact repr_of_reads' rd hs (PyData.noDict_hsm hn) hq (by omega) (fun _ _ e => e) (fun h' u tk hk => ⟨.str _, H, I.kept hk, ⟨_, rfl⟩, q⟩) hl
  | tup h1 h2 =>
    obtain ⟨as, rd⟩ := Dp.reads I _ _ _ (.tup h1 h2) ru
    cases ru
    exact repr_of_reads' rd hs (PyData.noDict_hsm hn) hq (by omega) (fun _ _ e => e) (fun h' u tk hk => ⟨.str _, H, I.kept hk, ⟨_, rfl⟩, q⟩) hl
theorem und_repr (K : PySem.W.Frag) : UnD K (fun x H Q => ∃ y, [x] = [y] ∧ rRepr K y H Q) reprD := by
  intro x d z H0 H s hx hg Q k
  unfold reprD at hg
  split at hg
  · rename_i h
    cases hg
    simp only [reprOk, Bool.and_eq_true, decide_eq_true_eq] at h
    obtain ⟨⟨⟨h1, h2⟩, h3⟩, h4⟩ := h
    exact ⟨x, rfl, toPy d, Da.dp (Pk.up s hx) h1, h2, plain_noDict d h1, h3, Nat.le_trans (Nat.le_trans (shown_len d h2 h1) h4) (by decide), sc s (.str _) k⟩
  · cases hg
theorem de_repr (hu : X.A.units + 64 < cLine) (hq : Quiet X.A) (hg : Gl X "repr") (hm : X.mg "repr" = none) (ha : DK X W e f1) (he : starEach (e :: []) X.env = (false, eval e X.env) :: starEach [] X.env := by rfl) : DE X W (.Call (.Name "repr" p) [e] [] pos) (un reprD f1) :=
  de_b1 (cr_repr hu hq) (und_repr _) hg hm (by decide +kernel) ha (he := he)
end
end DW

set_option Elab.async false
set_option linter.all false
set_option maxRecDepth 100000
set_option maxHeartbeats 4000000
/-! DWH: dict displays; min and max of two; [::-1] -/
namespace DW
open PySem PySem.Spec PyProof.Rows L2
def pairsF : List ((Rho → R Dt) × (Rho → R Dt)) → Rho → R (List (Key × Dt))
  | [], ρ => .ok [] ρ
  | (fk, fv) :: r, ρ => (fk ρ).bind fun kd ρ1 => (fv ρ1).bind fun vd ρ2 => match keyD kd with
    | some k => (pairsF r ρ2).bind fun ps ρ3 => .ok ((k, vd) :: ps) ρ3
    | none => .bad
def dispO (fps : List ((Rho → R Dt) × (Rho → R Dt))) : Rho → R Sl := fun ρ => (pairsF fps ρ).bind fun kvs ρ1 => if kvs.length ≤ 15 then .ok (.od (mergeD [] kvs)) ρ1 else .bad
section
variable {K : PySem.W.Frag} {F : Fm} {H0 H H0' H' : Hp} {σ : L2.St} {ρ : Rho} {v : V} {d : Dt} {s : Sl} {i : Nat} {a p : Addr} {o : HO} {g : Gx} {W : WX}
def tPr (g : Gx) (F : Fm) (W : WX) (fps : List ((Rho → R Dt) × (Rho → R Dt))) (σ : L2.St) (H : Hp) (Q : List (V × V) → Hp → Prop) : Prop := ∃ H0 ρ, En g.K F H0 H σ ρ ∧ match pairsF fps ρ with
  | .ok kvs ρ' => ∀ vs H0' H', En g.K F H0' H' σ ρ' → Mv σ ρ ρ' H0 H H0' H' → DaKv g.K H0' vs kvs → Q (vs.map fun kv => (kV kv.1, kv.2)) H'
  | .ex e ρ' => XW g F W σ e ρ'
  | .bad => False
theorem tPr_pairs : ∀ (fps : List ((Rho → R Dt) × (Rho → R Dt))) {H : Hp} {Q : List (V × V) → Hp → Prop}, tPr g F W fps σ H Q → tPairs (fps.map fun p => (tD g F W p.1, tD g F W p.2)) σ H Q
  | [], H, Q, ⟨H0, ρ, E, q⟩ => q [] H0 H E Mv.refl .nil
  | (fk, fv) :: r, H, Q, ⟨H0, ρ, E, q⟩ => by
    refine ⟨H0, ρ, E, ?_⟩
    simp only [pairsF] at q
    dsimp only
    cases e1 : fk ρ with
    | bad => rw [e1] at q; exact q
    | ex x ρ1 => rw [e1] at q; exact q
    | ok kd ρ1 =>
      rw [e1] at q
      dsimp only [R.bind] at q
      intro x C0 C E1 m1 d1
      refine ⟨C0, ρ1, E1, ?_⟩
      dsimp only
      cases e2 : fv ρ1 with
      | bad => rw [e2] at q; exact q
      | ex x ρ1 => rw [e2] at q; exact q
      | ok vd ρ2 =>
        rw [e2] at q
        dsimp only at q
        intro y D0 D E2 m2 d2
        cases e3 : keyD kd with
        | none => rw [e3] at q; exact q.elim
        | some k =>
          rw [e3] at q
          dsimp only at q
          have hx : x = kV k := keyD_V (H := C) (Da.pk E1.ex d1) e3
          subst hx
          refine tPr_pairs r ⟨D0, ρ2, E2, ?_⟩
          cases e4 : pairsF r ρ2 with
          | bad => rw [e4] at q; exact q
          | ex x ρ1 => rw [e4] at q; exact q
          | ok ps ρ3 =>
            rw [e4] at q
            dsimp only at q
            intro vs I0 I E3 m3 d3
            exact q ((k, y) :: vs) I0 I E3 ((m1.trans m2).trans m3) (.cons (d2.mono m3.b0) d3)
theorem tDisp_of {fps : List ((Rho → R Dt) × (Rho → R Dt))} {Q : VK} (h : tO g F W (dispO fps) σ H Q) : tDisp (fps.map fun p => (tD g F W p.1, tD g F W p.2)) σ H Q := by
  obtain ⟨H0, ρ, E, q⟩ := h
  intro p hp
  have nO := E.notOwn hp
  have h0 := E.up0 hp
  have hF := E.upF hp
  refine tPr_pairs fps ⟨H0, ρ, E.beside h0 hF nO (.inr (.inr hp)), ?_⟩
  unfold dispO at q
  cases e : pairsF fps ρ with
  | bad => rw [e] at q; exact q
  | ex x ρ1 => rw [e] at q; exact q
  | ok kvs ρ1 =>
    rw [e] at q
    dsimp only [R.bind] at q
    by_cases hl : kvs.length ≤ 15
    · rw [if_pos hl] at q
      dsimp only at q
      intro vs C0 C E1 m1 d1
      have hC : C p = some (.dK []) := m1.kd p upd_same h0 nO
      have hC0 : C0 p = none := m1.off p (by rw [upd_same]; exact fun z => nomatch z) h0 nO
      have n1 : ¬ OwnAt σ ρ1 p := fun z => nO (m1.sub p z)
      refine ⟨hC, vs, rfl, by rw [d1.length]; exact hl, ?_⟩
      refine q _ C0 _ (E1.beside hC0 hF n1 (.inr (.inl ⟨_, hC⟩))) ⟨m1.b0, fun a o ha nt ng ho => ?_, fun a ha h ho => ?_, m1.sub, fun a ha => ?_, m1.gk⟩ ⟨p, _, rfl, hC0, hF, upd_same, DaKv.merge d1 .nil⟩ fun _ b z => by cases z; exact hp
      · have hn : a ≠ p := ne_of_none ha hp
        rw [upd_ne hn]
        exact m1.keep a o (by rw [upd_ne hn]; exact ha) nt ng ho
      · have hn : a ≠ p := fun z => ha (z ▸ hp)
        exact m1.off a (by rw [upd_ne hn]; exact ha) h ho
      · have hn : a ≠ p := fun z => ha (z ▸ hp)
        rw [upd_ne hn]
        exact m1.st a (by rw [upd_ne hn]; exact ha)
    · rw [if_neg hl] at q
      exact q.elim
end
section
variable {X : Cx} {W : WX} {a b c e : Expr} {es : List Expr} {pos p p2 p3 : Pos} {f1 f2 f3 : Rho → R Dt} {fa : Rho → R (List Dt)} {fo : Rho → R Sl}
def DPr (X : Cx) (W : WX) (pos : Pos) (ks : List (Option Expr)) (vs : List Expr) (fps : List ((Rho → R Dt) × (Rho → R Dt))) : Prop := ∀ F, PPs X pos ks vs (fps.map fun p => (tD (gx X) F W p.1, tD (gx X) F W p.2))
theorem dpr_nil : DPr X W pos [] [] [] := fun F => pps_nil
theorem dpr_cons {k v : Expr} {ks : List (Option Expr)} {vs : List Expr} {fps} (hk : DE X W k f1) (hv : DE X W v f2) (hr : DPr X W pos ks vs fps) : DPr X W pos (some k :: ks) (v :: vs) ((f1, f2) :: fps) := fun F => pps_cons (hk F) (hv F) (hr F)
theorem do_disp {ks : List (Option Expr)} {vs : List Expr} {fps} (h : DPr X W pos ks vs fps) (hall : ks.all (·.isSome) = true) (hl : ks.length = vs.length) (h0 : ks ≠ []) (h15 : ks.length ≤ 15) : DO X W (.Dict ks vs pos) (dispO fps) := fun F => PE.wk (pe_disp (h F) hall hl h0 h15) fun _ _ _ q => tDisp_of q
/-! ### built-in functions of two things -/
def CbD (K : PySem.W.Frag) (r : List V → Hp → VK → Prop) (gg : List Dt → Option Dt) : Prop := ∀ xs ds z H0 H, Same H0 H → DaAll K H0 xs ds → gg ds = some z → ∀ Q : VK, (∀ v H0' H', Gr ⟨H0, H, none, false⟩ H0' H' → Same H0' H' → Da K H0' v z → Q v H') → r xs H Q
theorem tCB_of {g : Gx} {F : Fm} {f : Rho → R (List Dt)} {r : List V → Hp → VK → Prop} {gg : List Dt → Option Dt} (hr : CbD g.K r gg) {σ : L2.St} {H : Hp} {Q : VK} (h : tD g F W (cb gg f) σ H Q) : tCB r (tDA g F W f) σ H Q := by
  obtain ⟨H0, ρ, E, q⟩ := h
  refine ⟨H0, ρ, E, ?_⟩
  unfold cb at q
  cases e : f ρ with
  | bad => rw [e] at q; exact q
  | ex x ρ1 => rw [e] at q; exact q
  | ok ds ρ1 =>
    rw [e] at q
    dsimp only [R.bind] at q
    intro vs C0 C E1 m1 d1
    cases e2 : gg ds with
    | none => rw [e2] at q; exact q.elim
    | some z =>
      rw [e2] at q
      refine hr vs ds z C0 C E1.ex d1 e2 Q fun v I0 I gr s4 d4 => ?_
      obtain ⟨E4, m4⟩ := E1.post m1 gr s4
      exact q v I0 I E4 m4 d4
theorem de_bn {x : Str} {id : String} {r : List V → Hp → VK → Prop} {gg : List Dt → Option Dt} (hc : CallR X (.builtin id) r) (hr : CbD X.K r gg) (hg : Gl X x) (hm : X.mg x = none) (hv : bootBuiltins x = some (.builtin id)) (ha : DA X W (e :: es) fa)
    (hn : x ≠ "__name__" := by decide) (hdb : (x == ("__debug__" : Str)) = false := by decide) (he : starEach (e :: es) X.env = (false, eval e X.env) :: starEach es X.env := by rfl) (hpl : (backTo pos (starEach es X.env)).any (·.1) = false := by rfl) :
    DE X W (.Call (.Name x p) (e :: es) [] pos) (cb gg fa) := fun F => PE.wk (pe_callB hc hg hm hv (ha F) hn hdb he hpl) fun _ _ _ h => tCB_of hr h
def min2D : List Dt → Option Dt
  | [.int i, .int j] => some (.int (if j < i then j else i))
  | _ => none
def max2D : List Dt → Option Dt
  | [.int i, .int j] => some (.int (if j > i then j else i))
  | _ => none
theorem cbd_min2 (K : PySem.W.Frag) : CbD K (fun xs H Q => ∃ i j, xs = [.int i, .int j] ∧ Q (.int (if j < i then j else i)) H) min2D := by
  intro xs ds z H0 H s hx hg Q k
  unfold min2D at hg
  split at hg
  · cases hg
    cases hx with
    | cons h1 h2 => cases h2 with
      | cons h2 h3 => cases h3; cases h1; cases h2; exact ⟨_, _, rfl, sc s (.int _) k⟩
  · cases hg
theorem cbd_max2 (K : PySem.W.Frag) : CbD K (fun xs H Q => ∃ i j, xs = [.int i, .int j] ∧ Q (.int (if j > i then j else i)) H) max2D := by
  intro xs ds z H0 H s hx hg Q k
  unfold max2D at hg
  split at hg
  · cases hg
    cases hx with
    | cons h1 h2 => cases h2 with
      | cons h2 h3 => cases h3; cases h1; cases h2; exact ⟨_, _, rfl, sc s (.int _) k⟩
  · cases hg
theorem de_min2 (hc : X.calm = true) (hg : Gl X "min") (hm : X.mg "min" = none) (ha : DA X W (e :: es) fa) (he : starEach (e :: es) X.env = (false, eval e X.env) :: starEach es X.env := by rfl) (hpl : (backTo pos (starEach es X.env)).any (·.1) = false := by rfl) :
    DE X W (.Call (.Name "min" p) (e :: es) [] pos) (cb min2D fa) := de_bn (call_min2 hc) (cbd_min2 _) hg hm (by decide +kernel) ha (he := he) (hpl := hpl)
theorem de_max2 (hc : X.calm = true) (hg : Gl X "max") (hm : X.mg "max" = none) (ha : DA X W (e :: es) fa) (he : starEach (e :: es) X.env = (false, eval e X.env) :: starEach es X.env := by rfl) (hpl : (backTo pos (starEach es X.env)).any (·.1) = false := by rfl) :
    DE X W (.Call (.Name "max" p) (e :: es) [] pos) (cb max2D fa) := de_bn (call_max2 hc) (cbd_max2 _) hg hm (by decide +kernel) ha (he := he) (hpl := hpl)
/-! ### [::-1] -/
def revD : Dt → Option Dt
  | .lst xs => some (.lst xs.reverse)
  | .scr ns => some (.lst (ns.reverse.map .int))
  | _ => none
theorem DaAll.reverse {K : PySem.W.Frag} {H : Hp} {vs : List V} {ds : List Dt} (h : DaAll K H vs ds) : DaAll K H vs.reverse ds.reverse := by
  induction vs generalizing ds with
  | nil => cases h; exact .nil
  | cons v vs ih =>
    cases h with
    | cons h1 h2 =>
      rw [List.reverse_cons, List.reverse_cons]
      exact (ih h2).append (.cons h1 .nil)
theorem und_rev (K : PySem.W.Frag) : UnD K (fun x H Q => ∃ a xs, x = .ref a ∧ SqL K H a xs ∧ ∀ p, H p = none → Q (.ref p) (upd H p (.lst xs.reverse))) revD := by
  intro x d z H0 H s hx hg Q k
  unfold revD at hg
  split at hg
  · cases hg
    obtain ⟨a, vs, rfl, h1, h2⟩ := hx
    exact ⟨a, vs, rfl, SqL.of h1, al_lst s h2.reverse k⟩
  · cases hg
    cases hx with
    | scr h1 =>
      refine ⟨_, _, rfl, seqL_mono s h1, al_lst s ?_ k⟩
      rw [List.map_reverse]
      exact (daInts _).reverse
  · cases hg
theorem de_rev {k : Nat} {p1 : Pos} (he : DE X W e f1) : DE X W (.Subscript e (.Slice none none (some (.UnaryOp .USub (.Constant (.int 1) k p1) p2)) p3) pos) (un revD f1) := fun F => PE.wk (pe_revL (he F)) fun σ H Q h => by
  obtain ⟨H0, ρ, E, q⟩ := h
  refine ⟨H0, ρ, E, ?_⟩
  unfold un at q
  cases e : f1 ρ with
  | bad => rw [e] at q; exact q
  | ex x ρ1 => rw [e] at q; exact q
  | ok d ρ1 =>
    rw [e] at q
    dsimp only [R.bind] at q
    intro v C0 C E1 m1 d1
    cases e2 : revD d with
    | none => rw [e2] at q; exact q.elim
    | some z =>
      rw [e2] at q
      refine und_rev X.K v d z C0 C E1.ex (Da.pk E1.ex d1) e2 Q fun v I0 I gr s4 d4 => ?_
      obtain ⟨E4, m4⟩ := E1.post m1 gr s4
      exact q v I0 I E4 m4 d4
end
end DW

set_option Elab.async false
set_option linter.all false
set_option maxRecDepth 100000
set_option maxHeartbeats 4000000
/-! DWI: a def that changes a dict, called with a new one -/
namespace DW
open PySem PySem.Spec PyProof.Rows L2
def callMO (fn : FnM) (fo : Rho → R Sl) (fa : Rho → R (List Dt)) : Rho → R Dt := fun ρ => (fo ρ).bind fun s ρ1 => match s with
  | .od kvs => (fa ρ1).bind fun ds ρ2 => match fn kvs ds with
    | .ok (.fr d) _ => .ok d ρ2
    | _ => .bad
  | _ => .bad
section
variable {K : PySem.W.Frag} {F : Fm} {H0 H H0' H' : Hp} {σ : L2.St} {ρ : Rho} {v : V} {d : Dt} {s : Sl} {i : Nat} {a p : Addr} {o : HO} {g : Gx} {W : WX}
theorem En.apart (E : En K F H0 H σ ρ) (h0 : H0 p = none) (hF : F.H p = none) (hn : ¬ OwnAt σ ρ p) {xs : List (Key × V)} (hp : H p = some (.dK xs)) (he : ∀ b, b ≠ p → H' b = H b) : En K F H0 H' σ ρ := by
  refine ⟨⟨E.gr.b0, fun b u hb nt hi => ?_, E.gr.off, fun b hb => ?_, E.gr.gk, E.gr.gs⟩, tab_away E.tb (fun b u hb _ n2 => by
    have nb : b ≠ p := fun z => n2 xs (by rw [z, hp] at hb; exact (Option.some.inj hb).symm)
    rw [he b nb]
    exact hb) (fun _ _ h _ _ => h), fun b u hb => ?_, E.len, fun j t e => ?_, E.sep, E.io, E.io1, E.st1⟩
  · have : b ≠ p := fun z => by rw [z, hF] at hb; cases hb
    rw [he b this]
    exact E.gr.keep b u hb nt hi
  · have : b ≠ p := fun z => hb (by rw [z]; exact hF)
    rw [he b this]
    exact E.gr.st b hb
  · have : b ≠ p := fun z => by rw [z, h0] at hb; cases hb
    rw [he b this]
    exact E.ex b u hb
  · obtain ⟨w, h1, h2⟩ := E.sl j t e
    refine ⟨w, h1, ?_⟩
    cases t with
    | fr d => exact h2
    | ol ds =>
      obtain ⟨b, vs, rfl, q1, q2, q3, q4⟩ := h2
      have : b ≠ p := fun z => hn ⟨j, _, e, rfl, z ▸ h1⟩
      exact ⟨b, vs, rfl, q1, q2, by rw [he b this]; exact q3, q4⟩
    | od ds =>
      obtain ⟨b, vs, rfl, q1, q2, q3, q4⟩ := h2
      have : b ≠ p := fun z => hn ⟨j, _, e, rfl, z ▸ h1⟩
      exact ⟨b, vs, rfl, q1, q2, by rw [he b this]; exact q3, q4⟩
    | raw w _ => exact h2
    | rf k => exact h2
    | sto S => exact StoR.mono (Same.refl _) (fun _ _ => Iff.rfl) (fun c j u h1 h3 _ => by rw [he c (fun z => by rw [z, h0] at h1; cases h1)]; exact h3) h2
    | io ds =>
      obtain ⟨b, vs, rfl, q1, q2, q3, q4⟩ := h2
      have : b ≠ p := fun z => hn ⟨j, _, e, rfl, z ▸ h1⟩
      exact ⟨b, vs, rfl, q1, q2, by rw [he b this]; exact q3, q4⟩
theorem tCallMO_of {fn : FnM} {fo : Rho → R Sl} {fa : Rho → R (List Dt)} {E : XK} {Q : VK} (h : tD g F W (callMO fn fo fa) σ H Q) : tCall (spM g fn) [] E (tCons (tO g F W fo) (tDA g F W fa)) σ H Q := by
  obtain ⟨H0, ρ, E, q⟩ := h
  refine ⟨H0, ρ, E, ?_⟩
  unfold callMO at q
  cases e0 : fo ρ with
  | bad => rw [e0] at q; exact q
  | ex x ρ1 => rw [e0] at q; exact q
  | ok s ρ1 =>
    rw [e0] at q
    dsimp only [R.bind] at q
    cases s with
    | fr _ => exact q.elim
    | ol _ => exact q.elim
    | raw _ _ => exact q.elim
    | rf _ => exact q.elim
    | sto _ => exact q.elim
    | io _ => exact q.elim
    | od kvs =>
      dsimp only at q
      rintro v B0 B E1 m1 ⟨a, ks, rfl, b0, bF, b1, b2⟩ hf
      have ha : H a = none := hf rfl a rfl
      have nO : ¬ OwnAt σ ρ a := E.notOwn ha
      have n1 : ¬ OwnAt σ ρ1 a := fun z => nO (m1.sub a z)
      refine ⟨B0, ρ1, E1, ?_⟩
      cases e : fa ρ1 with
      | bad => rw [e] at q; exact q
      | ex x ρ1 => rw [e] at q; exact q
      | ok ds ρ2 =>
        rw [e] at q
        dsimp only at q
        intro vs C0 C E2 m2 hd
        show spM g fn ((V.ref a :: vs) ++ []) C Q _
        rw [List.append_nil]
        have c1 : C a = some (.dK ks) := m2.kd a b1 b0 n1
        have c0 : C0 a = none := m2.off a (by rw [b1]; exact fun z => nomatch z) b0 n1
        have n2 : ¬ OwnAt σ ρ2 a := fun z => n1 (m2.sub a z)
        refine ⟨C0, a, ks, kvs, vs, ds, rfl, E2.ex, E2.tb, c0, c1, b2.mono m2.b0, hd, ?_⟩
        cases e2 : fn kvs ds with
        | ex _ => rw [e2] at q; exact q.elim
        | bad => rw [e2] at q; exact q.elim
        | ok s kvs' =>
          rw [e2] at q
          cases s with
          | ol _ => exact q.elim
          | od _ => exact q.elim
          | raw _ _ => exact q.elim
          | rf _ => exact q.elim
          | sto _ => exact q.elim
          | io _ => exact q.elim
          | fr d =>
            intro w ks' D0 D gr tt s2 hc hdk hv
            have m12 := m1.trans m2
            have E3 : En g.K F C0 (fun b => if b = a then none else C b) σ ρ2 := E2.apart c0 bF n2 c1 fun b hb => if_neg hb
            have gr' : Gw ⟨C0, fun b => if b = a then none else C b, none, false⟩ D0 D := by
              refine ⟨gr.b0, fun b u hb nt _ => ?_, fun b hb h => ?_, fun b hb => gr.st b fun z => hb ?_, gr.gk, fun b ps h => .inr ⟨rfl, (gr.gg' b ps).mp h⟩⟩
              · have hn : b ≠ a := fun z => by
                  have hb' : (if b = a then none else C b) = some u := hb
                  rw [if_pos z] at hb'
                  cases hb'
                have hb' : (if b = a then none else C b) = some u := hb
                rw [if_neg hn] at hb'
                exact gr.keep b u hb' nt (fun z => hn (by cases z; rfl))
              · refine gr.off b (fun z => hb ?_) h
                show (if b = a then none else C b) = none
                by_cases hn : b = a
                · rw [if_pos hn]
                · rw [if_neg hn]; exact z
              · show (if b = a then none else C b) = none
                by_cases hn : b = a
                · rw [if_pos hn]
                · rw [if_neg hn]; exact z
            refine q w D0 D (E3.growW gr' tt s2) ⟨m12.b0.trans gr.b0, fun b u hb nt ng ho => ?_, fun b hb h ho => ?_, m12.sub, fun b hb => ?_, fun b ps h => gr.gk b ps (m12.gk b ps h)⟩ hv
            · have hn : b ≠ a := ne_of_none hb ha
              exact gr.keep b u (m12.keep b u hb nt ng ho) nt (fun z => hn (by cases z; rfl))
            · exact gr.off b (m12.st b hb) (m12.off b hb h ho)
            · exact gr.st b (m12.st b hb)
end
section
variable {X : Cx} {W : WX} {e : Expr} {es : List Expr} {pos p p2 : Pos} {fa : Rho → R (List Dt)} {k j : Nat} {ps : List Str} {x : Str}
theorem de_hMO {fn : FnM} {fo : Rho → R Sl} (h : HasM X.prog X.w X.K X.mg X.base x ps fn j) (hr : Room k X.A) (hq : Quiet X.A) (hjk : j ≤ k) (hg : Gl X x)
    (hy : DO X W e fo) (ha : DA X W es fa) (hdb : (x == ("__debug__" : Str)) = false := by decide) (he : starEach (e :: es) X.env = (false, eval e X.env) :: starEach es X.env := by rfl) (hpl : (backTo pos (starEach es X.env)).any (·.1) = false := by rfl) :
    DE X W (.Call (.Name x p) (e :: es) [] pos) (callMO fn fo fa) := by
  obtain ⟨f, fd, hm, hk, hb, G⟩ := h
  exact fun F => PE.wk (pe_callG G (hr.mono hjk) hq hg hm hk hb pass0 (pa_cons (hy F) (ha F) he) hdb he hpl) fun _ _ _ h => tCallMO_of h
end
end DW

set_option Elab.async false
set_option linter.all false
set_option maxRecDepth 100000
set_option maxHeartbeats 4000000
/-! DWJ: a + b of lists, for a name that owns its list -/
namespace DW
open PySem PySem.Spec PyProof.Rows L2
def catL : Dt → Dt → Option Sl
  | .lst xs, .lst ys => if xs.length + ys.length ≤ 1000000 then some (.ol (xs ++ ys)) else none
  | _, _ => none
def catO (f1 f2 : Rho → R Dt) : Rho → R Sl := fun ρ => (f1 ρ).bind fun d ρ1 => (f2 ρ1).bind fun e ρ2 => match catL d e with
  | some z => .ok z ρ2
  | none => .bad
def catPO (i : Nat) (f2 : Rho → R Dt) : Rho → R Sl := fun ρ => match pk i ρ with
  | some _ => (f2 ρ).bind fun e ρ1 => match pk i ρ1 with
    | some d => match catL d e with
      | some z => .ok z ρ1
      | none => .bad
    | none => .bad
  | none => .bad
section
variable {K : PySem.W.Frag} {F : Fm} {H0 H H0' H' : Hp} {σ : L2.St} {ρ : Rho} {v : V} {d : Dt} {s : Sl} {i : Nat} {a p : Addr} {o : HO} {g : Gx} {W : WX}
theorem catL_ok {ρ1 : Rho} {B0 B : Hp} {x y : V} {d e : Dt} {z : Sl} {Q : VK} (E : En g.K F H0 H σ ρ1) (m : Mv σ ρ ρ1 B0 B H0 H) (hx : Pk g.K H0 H x d) (hy : Pk g.K H0 H y e) (h : catL d e = some z)
    (q : ∀ v H0' H', En g.K F H0' H' σ ρ1 → Mv σ ρ ρ1 B0 B H0' H' → SlR g.K F H0' H' v z → (z.own = true → ∀ a, v = .ref a → B a = none) → Q v H') : rCat x y H Q := by
  unfold catL at h
  split at h
  · split at h
    · rename_i hz
      cases h
      obtain ⟨a, vs, rfl, h1, h2⟩ := hx
      obtain ⟨b, ws, rfl, h3, h4⟩ := hy
      refine ⟨a, b, vs, ws, rfl, rfl, h1, h3, by rw [h2.length, h4.length]; exact sizeM hz, fun p hp => ?_⟩
      obtain ⟨q1, q2, q3, q4, q5⟩ := E.postO (o := .lst (vs ++ ws)) m hp
      exact q _ _ _ q1 q2 ⟨p, _, rfl, q3, q4, upd_same, h2.append h4⟩ fun _ b z => by cases z; exact q5
    · cases h
  · cases h
theorem tCatO_of {f1 f2 : Rho → R Dt} {σ : L2.St} {H : Hp} {Q : VK} (h : tO g F W (catO f1 f2) σ H Q) : tOp rCat (tD g F W f1) (tK g F W f2) σ H Q := by
  obtain ⟨H0, ρ, E, q⟩ := h
  unfold catO at q
  refine ⟨H0, ρ, E, ?_⟩
  cases e1 : f1 ρ with
  | ex x ρ' => rw [e1] at q; exact q
  | bad => rw [e1] at q; exact q
  | ok d ρ1 =>
    rw [e1] at q
    intro x H1 B1 E1 m1 d1
    refine ⟨H1, ρ1, E1, ?_⟩
    dsimp only [R.bind] at q
    cases e2 : f2 ρ1 with
    | ex x ρ' => rw [e2] at q; exact q
    | bad => rw [e2] at q; exact q
    | ok e ρ2 =>
      rw [e2] at q
      intro y H2 B2 E2 m2 d2
      dsimp only [R.bind] at q
      cases e3 : catL d e with
      | none => rw [e3] at q; exact q.elim
      | some z =>
        rw [e3] at q
        exact catL_ok E2 (m1.trans m2) (Da.pk E2.ex (d1.mono m2.b0)) d2 e3 q
theorem tCatPO_of {f2 : Rho → R Dt} {σ : L2.St} {H : Hp} {Q : VK} (h : tO g F W (catPO i f2) σ H Q) : tOp rCat (tVar i) (tK g F W f2) σ H Q := by
  obtain ⟨H0, ρ, E, q⟩ := h
  unfold catPO at q
  cases e1 : pk i ρ with
  | none => rw [e1] at q; exact q.elim
  | some d0 =>
    rw [e1] at q
    obtain ⟨x, hx, _⟩ := pk_at E e1
    refine ⟨x, hx, H0, ρ, E, ?_⟩
    dsimp only [R.bind] at q
    cases e2 : f2 ρ with
    | ex x ρ' => rw [e2] at q; exact q
    | bad => rw [e2] at q; exact q
    | ok e ρ2 =>
      rw [e2] at q
      intro y H2 B2 E2 m2 d2
      dsimp only at q
      cases e3 : pk i ρ2 with
      | none => rw [e3] at q; exact q.elim
      | some d =>
        rw [e3] at q
        dsimp only at q
        obtain ⟨x', hx', px⟩ := pk_at E2 e3
        rw [hx] at hx'
        cases hx'
        cases e4 : catL d e with
        | none => rw [e4] at q; exact q.elim
        | some z =>
          rw [e4] at q
          exact catL_ok E2 m2 px d2 e4 q
end
section
variable {X : Cx} {W : WX} {a b c e : Expr} {es : List Expr} {pos p p2 p3 : Pos} {f1 f2 f3 : Rho → R Dt} {fa : Rho → R (List Dt)} {fo : Rho → R Sl} {i : Nat}
theorem do_cat (ha : DE X W a f1) (hb : DK X W b f2) : DO X W (.BinOp a .Add b pos) (catO f1 f2) := fun F => PE.wk (pe_op op_cat (ha F) (hb F)) fun _ _ _ h => tCatO_of h
theorem do_catP {x : Str} (ha : PE X (.Name x p) (tVar i)) (hb : DK X W b f2) : DO X W (.BinOp (.Name x p) .Add b pos) (catPO i f2) := fun F => PE.wk (pe_op op_cat ha (hb F)) fun _ _ _ h => tCatPO_of h
end
end DW

set_option Elab.async false
set_option linter.all false
set_option maxRecDepth 100000
set_option maxHeartbeats 4000000
/-! DWK: xs[::k] of a list, dict(list of pairs) -/
namespace DW
open PySem PySem.Spec PyProof.Rows L2
def pickI {α : Type} (ix : List Nat) (xs : List α) : List α := ix.filterMap (xs[·]?)
def stp {α : Type} (xs : List α) (c : Int) : List α := pickI (sliceRange 0 xs.length c) xs
theorem stp_pick (items : Array Value) {c : Int} (hc : 0 < c) : slicePick items none none (some c) = (stp items.toList c).toArray := by
  unfold slicePick stp pickI
  have e : sliceBounds none none (some c) items.size = (0, (items.size : Int), c) := by
    unfold sliceBounds
    simp only [Option.getD_some, gt_iff_lt, if_pos hc]
  rw [e, Array.length_toList]
  simp only [Array.getElem?_toList]
theorem Vals.pick {xs : List V} {us : List Value} (r : Vals xs us) : ∀ ix : List Nat, Vals (pickI ix xs) (pickI ix us)
  | [] => .nil
  | i :: ix => by
    have ih := Vals.pick r ix
    unfold pickI at ih ⊢
    rw [List.filterMap_cons, List.filterMap_cons]
    cases e : xs[i]? with
    | none => rw [r.none_of e]; exact ih
    | some x =>
      obtain ⟨u, h1, h2⟩ := r.get e
      rw [h1]
      exact .cons h2 ih
theorem DaAll.pick {K : PySem.W.Frag} {H : Hp} {vs : List V} {ds : List Dt} (r : DaAll K H vs ds) : ∀ ix : List Nat, DaAll K H (pickI ix vs) (pickI ix ds)
  | [] => .nil
  | i :: ix => by
    have ih := DaAll.pick r ix
    unfold pickI at ih ⊢
    rw [List.filterMap_cons, List.filterMap_cons]
    cases e : ds[i]? with
    | none =>
      have : vs[i]? = none := by
        rw [List.getElem?_eq_none_iff] at e ⊢
        rw [r.length]
        exact e
      rw [this]
      exact ih
    | some x =>
      obtain ⟨u, h1, h2⟩ := r.get e
      rw [h1]
      exact .cons h2 ih
theorem DaAll.stp {K : PySem.W.Frag} {H : Hp} {vs : List V} {ds : List Dt} (r : DaAll K H vs ds) (c : Int) : DaAll K H (stp vs c) (stp ds c) := by
  unfold DW.stp
  rw [r.length]
  exact r.pick _
theorem stp_len {α : Type} (xs : List α) {c : Int} (hc : 0 < c) : (stp xs c).length ≤ xs.length := by
  unfold stp pickI
  exact Nat.le_trans (List.length_filterMap_le _ _) (sliceRange_length_le _ _ _ _ (fun _ => ⟨by omega, by omega⟩) fun h => absurd hc h)
section
variable {X : Cx}
def tStepL (K : PySem.W.Frag) (te : TE) (tk : TO) : TE := fun σ H Q => te σ H fun x H1 => tk σ H1 fun o H2 => ∃ a xs c, x = .ref a ∧ o = some c ∧ 0 < c ∧ SqL K H2 a xs ∧ ∀ p, H2 p = none → Q (.ref p) (upd H2 p (.lst (stp xs c)))
theorem pe_stepL {e k : Expr} {te : TE} {tk : TO} {p3 pos : Pos} (he : PE X e te) (hk : PO X (some k) tk) (hsub : ∀ a b, subscripted (.Slice none none (some k) p3) false a b = operate [a, b] (getItem a b) := by intros; with_unfolding_all rfl) : PE X (.Subscript e (.Slice none none (some k) p3) pos) (tStepL X.K te tk) := by
  refine ⟨fun pins s σ H Q I h => ?_⟩
  refine Subscript_ (thn (he.run pins s σ H _ I h) fun v s1 ⟨x, H1, I1, r1, q1⟩ => ?_)
  refine wpAny_Slice (thn (po_none.run pins s1 σ H1 (fun o H2 => o = none ∧ H2 = H1) I1 ⟨rfl, rfl⟩) fun vl s2 ⟨l, H2, I2, pl, el, e2⟩ => ?_)
  subst el e2
  refine thn (po_none.run pins s2 σ H2 (fun o H3 => o = none ∧ H3 = H2) I2 ⟨rfl, rfl⟩) fun vu s3 ⟨u, H3, I3, pu, eu, e3⟩ => ?_
  subst eu e3
  refine thn (hk.run pins s3 σ H3 _ I3 q1) fun vs s4 ⟨o, H4, I4, ps, q2⟩ => ?_
  obtain ⟨a, xs, c, ex, eo, hc, hx, q⟩ := q2
  subst ex eo
  cases r1
  have I5 : Inv X pins σ H4 { s4 with heap := s4.heap.push { cls := .type "slice", data := .fields #[vl, vu, vs] } } := I4.kept (t' := s4.toks) fun b ob q => Heap.get?_push_of_some _ q
  obtain ⟨its, r, ht, hz⟩ := I5.list hx
  have hlen := r.length
  show wpAny (model X.prog X.w) X.A (subscriptTail e (.Slice none none (some k) p3) (.ref a) (.ref s4.heap.objs.size)) (EP X pins σ Q) X.xe { s4 with heap := s4.heap.push { cls := .type "slice", data := .fields #[vl, vu, vs] } }
  refine tail_any (ops := [.ref a, .ref s4.heap.objs.size]) ht.isList.typeIs (PySem.slot_list_getitem.lookup) ?_ (by with_unfolding_all rfl)
  refine wpAny_getItem_list_slice ht.isList (Heap.IsSliceOf.new _ vl vu vs) pl pu ps (fun z => by cases z; omega) ?_ (by rw [List.size_toArray]; omega)
  rw [stp_pick _ hc]
  refine ⟨.ref _, _, I5.laid (t' := s4.toks) (o := .lst (stp xs c)) (fun b ob q => Heap.get?_push_of_some _ q) (Nat.le_refl _) ?_, rfl, q _ (I5.hok.fresh (Nat.le_refl _))⟩
  refine ⟨Nat.le_trans (stp_len xs hc) hz, _, 0, ?_, Heap.get?_push_size _ rfl⟩
  unfold stp
  rw [hlen]
  exact Vals.pick r _
end
def stpD : Dt → Option Int → Option Dt
  | .lst xs, some c => if 0 < c then some (.lst (stp xs c)) else none
  | _, _ => none
def slK (f : Rho → R Dt) (fk : Rho → R (Option Int)) : Rho → R Dt := fun ρ => (f ρ).bind fun d ρ1 => (fk ρ1).bind fun o ρ2 => match stpD d o with
  | some z => .ok z ρ2
  | none => .bad
section
variable {X : Cx} {W : WX} {a b c e : Expr} {es : List Expr} {pos p p2 p3 : Pos} {f1 f2 f3 : Rho → R Dt} {fa : Rho → R (List Dt)} {fo : Rho → R Sl}
theorem de_slK {k : Expr} {fk : Rho → R (Option Int)} (he : DE X W e f1) (hk : DP X W (some k) fk) (hsub : ∀ a b, subscripted (.Slice none none (some k) p3) false a b = operate [a, b] (getItem a b) := by intros; with_unfolding_all rfl) : DE X W (.Subscript e (.Slice none none (some k) p3) pos) (slK f1 fk) := fun F => PE.wk (pe_stepL (he F) (hk F) hsub) fun σ H Q h => by
  obtain ⟨H0, ρ, E, q⟩ := h
  refine ⟨H0, ρ, E, ?_⟩
  unfold slK at q
  cases e1 : f1 ρ with
  | bad => rw [e1] at q; exact q
  | ex x ρ1 => rw [e1] at q; exact q
  | ok d ρ1 =>
    rw [e1] at q
    dsimp only [R.bind] at q
    intro v C0 C E1 m1 d1
    refine ⟨C0, ρ1, E1, ?_⟩
    cases e2 : fk ρ1 with
    | bad => rw [e2] at q; exact q
    | ex x ρ2 => rw [e2] at q; exact q
    | ok o ρ2 =>
      rw [e2] at q
      dsimp only [R.bind] at q
      intro B0 B E2 m2
      cases e3 : stpD d o with
      | none => rw [e3] at q; exact q.elim
      | some z =>
        rw [e3] at q
        unfold stpD at e3
        split at e3
        · split at e3
          · rename_i hc
            cases e3
            have d2 := d1.mono m2.b0
            cases d2 with
            | lst h1 h2 =>
              refine ⟨_, _, _, rfl, rfl, hc, SqL.of (E2.ex.hit h1), al_lst E2.ex (h2.stp _) fun v I0 I gr s4 d4 => ?_⟩
              obtain ⟨E4, m4⟩ := E2.post (m1.trans m2) gr s4
              exact q v I0 I E4 m4 d4
          · cases e3
        · cases e3
/-! ### dict(list of pairs) -/
def pairsD : List Dt → Option (List (Key × Dt))
  | [] => some []
  | .tup [k, v] :: r => match keyD k, pairsD r with
    | some k, some r => some ((k, v) :: r)
    | _, _ => none
  | _ => none
def dictD : Dt → Option Dt
  | .lst ds => (pairsD ds).map fun kvs => .dct (mergeD [] kvs)
  | _ => none
theorem keyD_Va {K : PySem.W.Frag} {H : Hp} {v : V} {d : Dt} {k : Key} (h : Da K H v d) (e : keyD d = some k) : v = kV k := by
  cases d with
  | int i => cases e; cases h; rfl
  | str x => cases e; cases h; rfl
  | _ => cases e
theorem pairsD_of {K : PySem.W.Frag} {H : Hp} : ∀ {ds : List Dt} {kvs : List (Key × Dt)} {vs : List V}, pairsD ds = some kvs → DaAll K H vs ds → ∃ (ps : List Addr) (ks : List (Key × V)), vs = ps.map V.ref ∧ Paired (fun p kv => SqT K H p [kV kv.1, kv.2]) ps ks ∧ DaKv K H ks kvs
  | [], _, _, h, .nil => by
    cases h
    exact ⟨[], [], rfl, .nil, .nil⟩
  | d :: ds, kvs, _, h, .cons h1 h2 => by
    unfold pairsD at h
    split at h
    · rename_i heq
      cases heq
    · rename_i k v r heq
      cases heq
      split at h
      · rename_i k' r' e1 e2
        cases h
        obtain ⟨ps, ks, q1, q2, q3⟩ := pairsD_of e2 h2
        cases h1 with
        | tup g1 g2 =>
          cases g2 with
          | cons g3 g4 =>
            cases g4 with
            | cons g5 g6 =>
              cases g6
              refine ⟨_ :: ps, (k', _) :: ks, by rw [q1]; rfl, .cons ?_ q2, .cons g5 q3⟩
              rw [keyD_Va g3 e1] at g1
              exact g1
      · cases h
    · cases h
theorem al_dct {K : PySem.W.Frag} {H0 H : Hp} {Q : VK} {zs : List (Key × V)} {ds : List (Key × Dt)} (e : Same H0 H) (hd : DaKv K H0 zs ds) (k : ∀ v H0' H', Gr ⟨H0, H, none, false⟩ H0' H' → Same H0' H' → Da K H0' v (.dct ds) → Q v H') : ∀ p, H p = none → Q (.ref p) (upd H p (.dK zs)) :=
  fun p hp => k _ _ _ (gr_new hp e) (same_new hp e) (.dct upd_same (hd.mono (gr_new (o := .dK zs) hp e).b0))
theorem und_dict (K : PySem.W.Frag) : UnD K (fun x H Q => ∃ (a : Addr) (ps : List Addr) (kvs : List (Key × V)), [x] = [.ref a] ∧ SqL K H a (ps.map V.ref) ∧ Paired (fun p kv => SqT K H p [kV kv.1, kv.2]) ps kvs ∧ ∀ p, H p = none → Q (.ref p) (upd H p (.dK (mergeK [] kvs)))) dictD := by
  intro x d z H0 H s hx hg Q k
  unfold dictD at hg
  split at hg
  · obtain ⟨kvs, h, rfl⟩ := Option.map_eq_some_iff.mp hg
    obtain ⟨a, vs, rfl, h1, h2⟩ := hx
    obtain ⟨ps, ks, rfl, q2, q3⟩ := pairsD_of h h2
    refine ⟨a, ps, ks, rfl, SqL.of h1, ?_, al_dct s (q3.merge .nil) k⟩
    exact Paired.mono (fun p kv h => seqT_mono s h) q2
  · cases hg
theorem de_dict (hc : X.calm = true) (hg : Gl X "dict") (hm : X.mg "dict" = none) (ha : DK X W e f1) (he : starEach (e :: []) X.env = (false, eval e X.env) :: starEach [] X.env := by rfl) : DE X W (.Call (.Name "dict" p) [e] [] pos) (un dictD f1) :=
  de_t1 (call_dictP hc) (und_dict _) hg hm (by decide +kernel) ha (he := he)
end
end DW

set_option Elab.async false
set_option linter.all false
set_option maxRecDepth 100000
set_option maxHeartbeats 4000000
/-! DWL: a, b = x, y by way of a tuple (names that a comprehension takes up) -/
namespace DW
open PySem PySem.Spec PyProof.Rows L2
section
variable {g : Gx} {F : Fm} {W : WX} {σ : L2.St} {H : Hp}
theorem tPar_postT {D : Ends} {fs : List (Rho → R Sl)} {is : List Nat} {Q : List V → Hp → Prop} (h : tS g F W (parP is fs) D σ H) (hQ : ∀ vs H', vs.length = is.length → (∀ p, H' p = none → D.nx (setAll is vs σ) (upd H' p (.tup vs))) → Q vs H') : tP g F W fs σ H Q := by
  obtain ⟨H0, ρ, E, q⟩ := h
  refine ⟨H0, ρ, E, ?_⟩
  unfold parP at q
  cases e : argsP fs ρ with
  | ok ss ρ1 =>
    rw [e] at q
    intro vs H0' H' E' m hl hall hd
    obtain ⟨ρ2, e2, k⟩ := nxO_post (PostS.mono m.b0 q)
    have hlen : ∀ (is : List Nat) (ss : List Sl) (ρ ρ' : Rho), putP is ss ρ = some ρ' → ss.length = is.length := by
      intro is
      induction is with
      | nil => intro ss ρ ρ' e; cases ss with | nil => rfl | cons _ _ => cases e
      | cons i is ih =>
        intro ss ρ ρ' e
        cases ss with
        | nil => cases e
        | cons s ss =>
          unfold putP at e
          cases e1 : putR i s ρ with
          | none => rw [e1] at e; cases e
          | some ρ1 => rw [e1] at e; rw [List.length_cons, List.length_cons, ih ss ρ1 ρ' e]
    refine hQ vs H' (by rw [hl]; exact hlen is ss ρ1 ρ2 e2) fun p hp => ?_
    have gg : Gr ⟨H0', H', none, false⟩ H0' (upd H' p (.tup vs)) := gr_newO hp
    refine k _ _ (put_all is vs ss (E'.grow gg (same_newO hp E'.ex)) hl (fun i v s hv hs => ?_) hd e2)
    obtain ⟨q1, q2, q3⟩ := hall i v s hv hs
    exact ⟨q1.grow gg.w, q2, fun o a ea z => E.notOwn (q3 o a ea) (m.sub a z)⟩
  | ex x ρ1 => rw [e] at q; exact q σ
  | bad => rw [e] at q; exact q
end
section
variable {X : Cx} {W : WX} {a b c e : Expr} {es : List Expr} {pos p p2 p3 : Pos} {fs : List (Rho → R Sl)}
theorem ds_parT2 {i j : Nat} {x y : Str} {px py pt : Pos} {kt k2 pt2} (hc : X.calm = true) (hN : X.N.Nodup) (ha : DPs X W [a, b] fs)
    (hi : X.N[i]? = some x := by rfl) (hj : X.N[j]? = some y := by rfl) (hx : Loc X.env.scope x := by first | exact .inl rfl | exact .inr rfl) (hy : Loc X.env.scope y := by first | exact .inl rfl | exact .inr rfl)
    (hfx : X.fn x = true ∨ X.env.scope.names.lookup x = some .local := by first | exact .inl rfl | exact .inr rfl) (hfy : X.fn y = true ∨ X.env.scope.names.lookup y = some .local := by first | exact .inl rfl | exact .inr rfl)
    (hs : swapsWithSole [.Tuple [.Name x px, .Name y py] kt pt] (.Tuple [a, b] k2 pt2) pos.line X.env = pure false := by rfl) (hw : swappedStores [.Tuple [.Name x px, .Name y py] kt pt] (.Tuple [a, b] k2 pt2) X.env = pure none := by rfl)
    (h1 : (assignEach [.Tuple [.Name x px, .Name y py] kt pt] X.env).map (·.2) = [assign (.Tuple [.Name x px, .Name y py] kt pt) X.env] := by rfl)
    (hn : (assignEach [.Name x px, .Name y py] X.env).length = 2 := by rfl) (hst : (assignEach [.Name x px, .Name y py] X.env).findIdx? (·.1) = none := by rfl)
    (hs1 : (assignEach [.Name x px, .Name y py] X.env).map (·.2) = assign (.Name x px) X.env :: (assignEach [.Name y py] X.env).map (·.2) := by rfl)
    (hs2 : (assignEach [.Name y py] X.env).map (·.2) = assign (.Name y py) X.env :: (assignEach [] X.env).map (·.2) := by rfl) :
    DS X W (.Assign [.Tuple [.Name x px, .Name y py] kt pt] (.Tuple [a, b] k2 pt2) pos) (parP [i, j] fs) := fun F =>
  PS.wk (ps_asg (pe_tup (ha F)) (pg_tup hc (pgs_cons (pg_name hN hi hx hfx) (pgs_cons (pg_name hN hj hy hfy) pgs_nil hs2) hs1) hn hst) hs hw h1) fun D σ H h => tPar_postT h fun vs H' hl k => by
    match vs, hl with
    | [v, w], _ => exact ⟨by show 2 ≤ sizeLine; decide, fun p hp => ⟨p, [v, w], rfl, .inl (.inl upd_same), rfl, v, [w], rfl, w, [], rfl, rfl, k p hp⟩⟩
end
end DW

set_option Elab.async false
set_option linter.all false
set_option maxRecDepth 100000
set_option maxHeartbeats 4000000
/-! DWM: l.count(x), sorted(d.items()), sorted(set(l)) -/
namespace DW
open PySem PySem.Spec PyProof.Rows L2
/-! ### several new objects at once -/
def putMany : Hp → List (Addr × HO) → Hp
  | H, [] => H
  | H, p :: r => putMany (upd H p.1 p.2) r
theorem putMany_off {b : Addr} : ∀ (r : List (Addr × HO)) (H : Hp), b ∉ r.map (·.1) → putMany H r b = H b
  | [], _, _ => rfl
  | p :: r, H, h => by
    rw [List.map_cons, List.mem_cons, not_or] at h
    show putMany (upd H p.1 p.2) r b = H b
    rw [putMany_off r _ h.2, upd_ne h.1]
theorem putMany_at : ∀ (r : List (Addr × HO)) (H : Hp) (p : Addr × HO), (r.map (·.1)).Nodup → p ∈ r → putMany H r p.1 = some p.2
  | [], _, _, _, h => (List.not_mem_nil h).elim
  | q :: r, H, p, nd, h => by
    rw [List.map_cons, List.nodup_cons] at nd
    show putMany (upd H q.1 q.2) r p.1 = some p.2
    rcases List.mem_cons.mp h with e | e
    · subst e
      rw [putMany_off r _ nd.1, upd_same]
    · exact putMany_at r _ p nd.2 e
theorem learn {X : Cx} {pins : List (Addr × Obj)} {σ : L2.St} {tk : Nat} : ∀ (news : List (Addr × HO)) {H : Hp} {s : Shared} {hF : Heap}, Inv X pins σ H s → (∀ b o, s.heap.get? b = some o → hF.get? b = some o) →
    (∀ p ∈ news, s.heap.get? p.1 = none ∧ H p.1 = none) → (news.map (·.1)).Nodup → (∀ p ∈ news, ∀ H' h', h'.get? p.1 = hF.get? p.1 → ObjOk X.prog X.w H' h' p.1 p.2) → Inv X pins σ (putMany H news) { s with heap := hF, toks := tk }
  | [], H, s, hF, I, k, _, _, _ => I.kept k
  | p :: r, H, s, hF, I, k, hn, nd, ok => by
    rw [List.map_cons, List.nodup_cons] at nd
    obtain ⟨G, g1, g2⟩ := restrict hF fun b => decide (b ∉ r.map (·.1))
    have gi : ∀ b, b ∉ r.map (·.1) → G.get? b = hF.get? b := fun b hb => g1 b (decide_eq_true hb)
    have go : ∀ b, b ∈ r.map (·.1) → G.get? b = none := fun b hb => g2 b (decide_eq_false fun z => z hb)
    have old : ∀ b o, s.heap.get? b = some o → G.get? b = some o := fun b o e => by
      rw [gi b fun z => ?_]
      · exact k b o e
      · obtain ⟨q, hq, rfl⟩ := List.mem_map.mp z
        rw [(hn q (List.mem_cons_of_mem _ hq)).1] at e
        cases e
    obtain ⟨n1, n2⟩ := hn p (List.mem_cons_self ..)
    have J : Inv X pins σ (upd H p.1 p.2) { s with heap := G, toks := tk } := I.laidN (t' := tk) old n1 n2 (ok p (List.mem_cons_self ..) _ _ (gi p.1 nd.1))
    have := learn (tk := tk) r (s := { s with heap := G, toks := tk }) (hF := hF) J (fun b o e => by
      by_cases hb : b ∈ r.map (·.1)
      · rw [go b hb] at e; cases e
      · rw [gi b hb] at e; exact e) (fun q hq => ⟨go _ (List.mem_map.mpr ⟨q, hq, rfl⟩), by
        have hne : q.1 ≠ p.1 := fun z => nd.1 (by rw [← z]; exact List.mem_map.mpr ⟨q, hq, rfl⟩)
        rw [upd_ne hne]
        exact (hn q (List.mem_cons_of_mem _ hq)).2⟩) nd.2 (fun q hq => ok q (List.mem_cons_of_mem _ hq))
    exact this
/-- many new objects, laid into the base -/
theorem gr_many {H0 H H' : Hp} (news : List Addr) (e : Same H0 H) (k : ∀ b o, H b = some o → H' b = some o) (hn : ∀ b ∈ news, H b = none) (hnt : ∀ b ∈ news, ∀ o, H' b = some o → NT o) :
    Gr ⟨H0, H, none, false⟩ (fun b => if b ∈ news then H' b else H0 b) H' ∧ Same (fun b => if b ∈ news then H' b else H0 b) H' := by
  have h0 : ∀ b ∈ news, H0 b = none := fun b hb => e.no (hn b hb)
  refine ⟨⟨Same.of fun b o q => ?_, fun b o q _ => k b o q, fun b q q0 => ?_, fun b ps => ?_⟩, fun b o q => ?_⟩
  · change H0 b = some o at q
    show (if b ∈ news then H' b else H0 b) = some o
    rw [if_neg fun z => by rw [h0 b z] at q; cases q]
    exact q
  · show (if b ∈ news then H' b else H0 b) = none
    rw [if_neg fun z => q (hn b z)]
    exact q0
  · show (if b ∈ news then H' b else H0 b) = _ ↔ H0 b = _
    by_cases hb : b ∈ news
    · rw [if_pos hb]
      exact ⟨fun z => absurd rfl (hnt b hb _ z ps), fun z => by rw [h0 b hb] at z; cases z⟩
    · rw [if_neg hb]
  · change (if b ∈ news then H' b else H0 b) = some o at q
    split at q
    · exact ⟨fun _ => q, by rw [q]; exact fun z => nomatch z⟩
    · refine ⟨fun n => k b o (e.hit q n), fun z => ?_⟩
      have h1 := (e b o q).2
      cases w : H b with
      | none => exact h1 w
      | some u => rw [k b u w] at z; cases z
theorem paired_mem {α β : Type} {F : α → β → Prop} {xs : List α} {ys : List β} (h : Paired F xs ys) : ∀ x ∈ xs, ∃ y, F x y := by
  induction h with
  | nil => exact fun x z => nomatch z
  | cons r _ ih =>
    intro x hx
    rcases List.mem_cons.mp hx with rfl | hx
    · exact ⟨_, r⟩
    · exact ih x hx
/-! ### sorted(d.items()), numbers by numbers -/
def leP (p q : Int × Int) : Prop := p.1 < q.1 ∨ (p.1 = q.1 ∧ p.2 ≤ q.2)
def rSortIt2 : V → Hp → VK → Prop := fun x H Q => ∃ (d : Addr) (ps : List (Int × Int)), x = .ref d ∧ H d = some (.dK (ps.map fun p => (Sum.inl p.1, V.int p.2))) ∧
  ∀ (H' : Hp) (l : Addr) (ts : List Addr) (qs : List (Int × Int)), (∀ b o, H b = some o → H' b = some o) → (∀ b ∈ l :: ts, H b = none) → qs.Perm ps → qs.Pairwise leP → H' l = some (.lst (ts.map V.ref)) → Paired (fun t (q : Int × Int) => H' t = some (.tup [.int q.1, .int q.2])) ts qs → Q (.ref l) H'
def tSortIt2 (te : TE) : TE := fun σ H Q => te σ H fun x H1 => rSortIt2 x H1 Q
theorem lexB_leP {p q : Int × Int} (h : SrtO.lexB q p = false) : leP p q := by
  have a := SrtO.lexB_no.mp h
  unfold leP
  omega
theorem pairs_get {prog : Program} {w : World} {es : List DictEntry} {vs : List (Key × Value)} (h : Pairs (mixKind prog w) es vs) : ∀ {j : Nat} {en : DictEntry}, es[j]? = some en → ∃ kv, vs[j]? = some kv ∧ keyIs kv.1 en.key = true ∧ en.val = kv.2 := by
  induction h with
  | nil => intro j en e; simp at e
  | cons h1 h2 _ ih =>
    intro j en e
    cases j with
    | zero =>
      simp at e
      subst e
      exact ⟨_, rfl, h1, h2⟩
    | succ j => exact ih (by simpa using e)
theorem paired_at {α β : Type} {F : α → β → Prop} {xs : List α} {ys : List β} (h : Paired F xs ys) : ∀ {i : Nat} {y : β}, ys[i]? = some y → ∃ x, xs[i]? = some x ∧ F x y := by
  induction h with
  | nil => intro i y e; simp at e
  | cons r _ ih =>
    intro i y e
    cases i with
    | zero =>
      simp at e
      subst e
      exact ⟨_, rfl, r⟩
    | succ i => exact ih (by simpa using e)
section
variable {X : Cx} {e : Expr} {te : TE} {p apos cpos pos : Pos}
theorem pe_sortIt2 (hc : X.calm = true) (he : PE X e te) (hg : Gl X "sorted") (hm : X.mg "sorted" = none) (hb : attributeBase e "items" X.env (eval e X.env) = eval e X.env := by rfl) (hl : (apos.endLine == cpos.line) = true := by rfl)
    (hs : starEach [.Call (.Attribute e "items" apos) [] [] cpos] X.env = (false, eval (.Call (.Attribute e "items" apos) [] [] cpos) X.env) :: starEach [] X.env := by rfl) :
    PE X (.Call (.Name "sorted" p) [.Call (.Attribute e "items" apos) [] [] cpos] [] pos) (tSortIt2 te) := by
  refine ⟨fun pins s σ H Q I hq => ?_⟩
  refine wpAny_Call_Name_kw (ld_blt I hg hm boot_sorted ?_)
  refine PyProof.Rows.callWith_builtin1 ?_ hs rfl
  rw [hs]
  change wpAny _ _ (spliced ((false, eval (.Call (.Attribute e "items" apos) [] [] cpos) X.env) :: backTo pos (starEach [] X.env))) _ _ s
  refine Calls.spliced_cons (wpAny_Call_method (T := "dict") (id := "dict.items") hb rfl hl F.plainAttrs_dict F.slot_dict_items F.type_dict_items (thn (he.run pins s σ H _ I hq) fun u s1 z => ?_))
  obtain ⟨x, H1, I1, rx, d, ps, rfl, hd, q⟩ := z
  obtain rfl : u = Value.ref d := rx
  obtain ⟨hz, hs0, vs, kv, hdo⟩ := I1.hok d _ hd
  refine ⟨hdo.typeIs, hdo.mapOf.noDict, ?_⟩
  change wpAny _ _ (callWith cpos (.builtin "dict.items") [.ref d] [] []) _ X.xe s1
  have hdo' := hdo
  obtain ⟨o, es, ep, ho, hx, hdat, hks, hpr, hnd⟩ := hdo'
  have I2 : Inv X pins σ H1 { s1 with heap := s1.heap.push { cls := .type "dict_items", data := .fields #[.ref d] } } := I1.kept (t' := s1.toks) fun b ob z => Heap.get?_push_of_some _ z
  refine method_meetsIn F.slot_dict_items F.entry_dict_items rfl (PySem.evalArgs_none ⟨rfl, hdo.typeIs, F.args_dict_items_1 _, _, meets_dict_items (mixKind X.prog X.w) d hs0, ⟨vs, hdo⟩, Calls.spliced_nil ?_⟩)
  have hlen : es.size = ps.length := by
    rw [← Array.length_toList, hpr.length, ← Paired.length kv, List.length_map]
  rw [List.length_map] at hz
  refine DT.sortedI (es := es) (ep := ep) (I1.ok.hd hc) ⟨_, Heap.get?_push_size _ rfl, rfl, rfl⟩ ⟨o, Heap.get?_push_of_some _ ho, hx, hdat⟩ (by rw [hlen]; exact hz) fun h' tk as hk hlt hal hG => ?_
  have nd : as.Nodup := List.Pairwise.imp (fun h => Nat.ne_of_lt h) hG.rise
  have lak : as.length = ps.length := by omega
  -- the pairs
  have pr : ∀ (j : Nat) (b : Addr), as[j]? = some b → ∃ (y : Int × Int) (t1 t2 : Tok), ps[j]? = some y ∧ h'.get? b = some { cls := .type "tuple", data := .seq #[Value.int y.1 t1, Value.int y.2 t2] } := by
    intro j b hj
    obtain ⟨en, h1, h2⟩ := hG.pairs j b hj
    rw [← Array.getElem?_toList] at h1
    obtain ⟨kv', h3, h4, h5⟩ := pairs_get hpr h1
    obtain ⟨y0, h6, h7, h8⟩ := paired_at kv h3
    rw [List.getElem?_map] at h6
    obtain ⟨y, h9, rfl⟩ := Option.map_eq_some_iff.mp h6
    dsimp only at h7 h8
    obtain ⟨t2, e2⟩ := h8
    rw [← h7] at h4
    obtain ⟨t1, e1⟩ : ∃ t1, en.key = Value.int y.1 t1 := by
      rcases keyIs_shape h4 with ⟨i, t, e1, e2⟩ | ⟨z, t, e1, e2⟩
      · cases e1
        exact ⟨t, e2⟩
      · cases e1
    refine ⟨y, t1, t2, h9, ?_⟩
    rw [h2, e1, h5, e2]
  obtain ⟨k, hkk⟩ : ∃ k : Value → Int × Int, ∀ (j : Nat) (b : Addr) y, as[j]? = some b → ps[j]? = some y → k (.ref b) = y := by
    refine ⟨fun v => match v with | .ref b => (ps[as.idxOf b]?).getD (0, 0) | _ => (0, 0), fun j b y h1 h2 => ?_⟩
    obtain ⟨hj, e1⟩ := List.getElem?_eq_some_iff.mp h1
    have e2 : as.idxOf b = j := by
      rw [← e1]
      exact nd.idxOf_getElem j hj
    show (ps[as.idxOf b]?).getD (0, 0) = y
    rw [e2, h2]
    rfl
  have hsz : (as.map Value.ref).length ≤ sizeLine := by rw [List.length_map, lak]; exact hz
  have hoL : (h'.push { cls := .type "list", data := .seq (as.map Value.ref).toArray }).get? h'.objs.size = some (seqObj "list" (as.map Value.ref).toArray 0) := Heap.get?_push_size _ rfl
  have isP : ∀ v ∈ as.map Value.ref, Srt.IsPair (h'.push { cls := .type "list", data := .seq (as.map Value.ref).toArray }) v (k v).1 (k v).2 := fun v hv => by
    obtain ⟨b, hb, rfl⟩ := List.mem_map.mp hv
    obtain ⟨j, hj⟩ := List.mem_iff_getElem?.mp hb
    obtain ⟨y, t1, t2, h1, h2⟩ := pr j b hj
    rw [hkk j b y hj h1]
    exact ⟨b, _, t1, t2, _, rfl, Heap.get?_push_of_some _ h2, rfl, rfl⟩
  refine wpAny_call_entry slot_list_sort ⟨_, hoL, rfl⟩ entry_list_sort (SrtO.list_sort_ord (SrtO.swo_lex k) hoL hsz (fun h2 => SrtO.pairs_sortableO (by omega) isP fun oL eL => ?_) fun out h1 h2 => ⟨.none, rfl, ?_⟩) (args_list_sort _)
  · have e' : some oL = some (seqObj "list" (as.map Value.ref).toArray 0) := eL.symm.trans hoL
    cases e'
    intro c
    exact absurd (Value.type.inj c) (by decide)
  · obtain ⟨cc, hcc⟩ := sortedHeap_at (vs := as.map Value.ref) (out := out.toArray) hoL
    -- the addresses in their new order
    have hout : ∀ v ∈ out, ∃ b ∈ as, v = Value.ref b := fun v hv => by
      obtain ⟨b, hb, rfl⟩ := List.mem_map.mp (h2.perm.mem_iff.mp hv)
      exact ⟨b, hb, rfl⟩
    obtain ⟨ts, hts⟩ : ∃ ts : List Addr, out = ts.map Value.ref := by
      clear h1 h2 hcc
      induction out with
      | nil => exact ⟨[], rfl⟩
      | cons v out ih =>
        obtain ⟨ts, e⟩ := ih fun u hu => hout u (List.mem_cons_of_mem _ hu)
        obtain ⟨b, _, rfl⟩ := hout v (List.mem_cons_self ..)
        exact ⟨b :: ts, by rw [e]; rfl⟩
    subst hts
    have tp : ts.Perm as := by
      have := h2.perm.map fun v => match v with | Value.ref b => b | _ => 0
      rw [List.map_map, List.map_map] at this
      have e1 : ∀ l : List Addr, l.map ((fun v => match v with | Value.ref b => b | _ => 0) ∘ Value.ref) = l := fun l => by
        conv => rhs; rw [← List.map_id l]
        exact List.map_congr_left fun _ _ => rfl
      rwa [e1, e1] at this
    have hperm : ((ts.map fun b => k (.ref b))).Perm ps := by
      have e2 : as.map (fun b => k (.ref b)) = ps := by
        refine List.ext_getElem? fun j => ?_
        rw [List.getElem?_map]
        cases ej : as[j]? with
        | none =>
          have := List.getElem?_eq_none_iff.mp ej
          rw [List.getElem?_eq_none (by omega)]
          rfl
        | some b =>
          obtain ⟨y, _, _, h3, _⟩ := pr j b ej
          rw [h3]
          exact congrArg some (hkk j b y ej h3)
      have := tp.map fun b => k (.ref b)
      rwa [e2] at this
    have hsort : (ts.map fun b => k (.ref b)).Pairwise leP := by
      rw [List.pairwise_map]
      have := List.pairwise_map.mp h1
      exact this.imp fun z => lexB_leP z
    have tup : ∀ b ∈ ts, ∃ (t1 t2 : Tok), h'.get? b = some { cls := .type "tuple", data := .seq #[Value.int (k (.ref b)).1 t1, Value.int (k (.ref b)).2 t2] } := fun b hb => by
      obtain ⟨j, hj⟩ := List.mem_iff_getElem?.mp (tp.mem_iff.mp hb)
      obtain ⟨y, t1, t2, h3, h4⟩ := pr j b hj
      rw [hkk j b y hj h3]
      exact ⟨t1, t2, h4⟩
    have hF : ∀ b ob, h'.get? b = some ob → (sortedHeap (h'.push { cls := .type "list", data := .seq (as.map Value.ref).toArray }) h'.objs.size (as.map Value.ref) (ts.map Value.ref).toArray).get? b = some ob := fun b ob eb => by
      have hlt' := Heap.lt_size eb
      rw [sortedHeap_old (Nat.ne_of_lt hlt') (by rw [size_push']; exact Nat.lt_succ_of_lt hlt')]
      exact Heap.get?_push_of_some _ eb
    have big : ∀ b ∈ ts, s1.heap.objs.size < b := fun b hb => by
      have h9 := hG.above b (tp.mem_iff.mp hb)
      rw [size_push'] at h9
      exact Nat.lt_trans (Nat.lt_succ_self _) h9
    have big2 : s1.heap.objs.size + 1 < h'.objs.size := by
      rw [size_push'] at hlt
      exact hlt
    have small : ∀ b ∈ ts, b < h'.objs.size := fun b hb => by
      obtain ⟨_, _, h3⟩ := tup b hb
      exact Heap.lt_size h3
    have ndt : ts.Nodup := tp.nodup_iff.mpr nd
    have fresh2 : ∀ b, s1.heap.objs.size < b → (s1.heap.push { cls := .type "dict_items", data := .fields #[.ref d] }).get? b = none := fun b hb => by
      cases eb : (s1.heap.push { cls := .type "dict_items", data := .fields #[.ref d] }).get? b with
      | none => rfl
      | some ob =>
        have h9 := Heap.lt_size eb
        rw [size_push'] at h9
        exact absurd (Nat.lt_of_lt_of_le hb (Nat.le_of_lt_succ h9)) (Nat.lt_irrefl _)
    have J := learn (tk := tk) ((h'.objs.size, HO.lst (ts.map V.ref)) :: ts.map fun b => (b, HO.tup [.int (k (.ref b)).1, .int (k (.ref b)).2])) I2 (fun b ob z => hF b ob (hk b ob z)) (fun pp hpp => ?_) ?_ (fun pp hpp H' hh e1 => ?_)
    · refine ⟨.ref h'.objs.size, _, J, rfl, q _ h'.objs.size ts _ (fun b ob z => ?_) (fun b hb => ?_) hperm hsort ?_ ?_⟩
      · rw [putMany_off]
        · exact z
        · intro hm
          have hlt1 : (show Nat from b) < s1.heap.objs.size := by
            refine Nat.lt_of_not_le fun hle => ?_
            rw [I1.hok.fresh hle] at z
            cases z
          rw [List.map_cons, List.map_map] at hm
          rcases List.mem_cons.mp hm with h3 | h3
          · change b = h'.objs.size at h3
            subst h3
            exact absurd (Nat.lt_trans hlt1 (Nat.lt_trans (Nat.lt_succ_self _) big2)) (Nat.lt_irrefl _)
          · obtain ⟨c, hc1, rfl⟩ := List.mem_map.mp h3
            exact absurd (Nat.lt_trans hlt1 (big c hc1)) (Nat.lt_irrefl _)
      · rcases List.mem_cons.mp hb with rfl | hb
        · exact I1.hok.fresh (Nat.le_of_lt (Nat.lt_trans (Nat.lt_succ_self _) big2))
        · exact I1.hok.fresh (Nat.le_of_lt (big b hb))
      · refine putMany_at _ _ (h'.objs.size, _) ?_ (List.mem_cons_self ..)
        rw [List.map_cons, List.map_map, List.nodup_cons]
        refine ⟨fun hm => ?_, ?_⟩
        · obtain ⟨c, hc1, e3⟩ := List.mem_map.mp hm
          change c = h'.objs.size at e3
          exact absurd (e3 ▸ small c hc1) (Nat.lt_irrefl _)
        · rw [show ((fun x : Addr × HO => x.1) ∘ fun b => (b, HO.tup [.int (k (.ref b)).1, .int (k (.ref b)).2])) = id from rfl, List.map_id]
          exact ndt
      · have key : ∀ l : List Addr, (∀ b ∈ l, b ∈ ts) → Paired (fun t (y : Int × Int) => putMany H1 ((h'.objs.size, HO.lst (ts.map V.ref)) :: ts.map fun b => (b, HO.tup [.int (k (.ref b)).1, .int (k (.ref b)).2])) t = some (.tup [.int y.1, .int y.2])) l (l.map fun b => k (.ref b)) := by
          intro l
          induction l with
          | nil => intro _; exact .nil
          | cons b l ih =>
            intro hl
            refine .cons ?_ (ih fun c hc => hl c (List.mem_cons_of_mem _ hc))
            refine putMany_at _ _ (b, HO.tup [.int (k (.ref b)).1, .int (k (.ref b)).2]) ?_ (List.mem_cons_of_mem _ (List.mem_map.mpr ⟨b, hl b (List.mem_cons_self ..), rfl⟩))
            rw [List.map_cons, List.map_map, List.nodup_cons]
            refine ⟨fun hm => ?_, ?_⟩
            · obtain ⟨c, hc1, e3⟩ := List.mem_map.mp hm
              change c = h'.objs.size at e3
              exact absurd (e3 ▸ small c hc1) (Nat.lt_irrefl _)
            · rw [show ((fun x : Addr × HO => x.1) ∘ fun b => (b, HO.tup [.int (k (.ref b)).1, .int (k (.ref b)).2])) = id from rfl, List.map_id]
              exact ndt
        exact key ts fun _ z => z
    · rcases List.mem_cons.mp hpp with rfl | hpp
      · exact ⟨fresh2 _ (Nat.lt_trans (Nat.lt_succ_self _) big2), I1.hok.fresh (Nat.le_of_lt (Nat.lt_trans (Nat.lt_succ_self _) big2))⟩
      · obtain ⟨b, hb, rfl⟩ := List.mem_map.mp hpp
        exact ⟨fresh2 _ (big b hb), I1.hok.fresh (Nat.le_of_lt (big b hb))⟩
    · rw [List.map_cons, List.map_map, List.nodup_cons]
      refine ⟨fun hm => ?_, ?_⟩
      · obtain ⟨c, hc1, e3⟩ := List.mem_map.mp hm
        change c = h'.objs.size at e3
        exact absurd (e3 ▸ small c hc1) (Nat.lt_irrefl _)
      · rw [show ((fun x : Addr × HO => x.1) ∘ fun b => (b, HO.tup [.int (k (.ref b)).1, .int (k (.ref b)).2])) = id from rfl, List.map_id]
        exact ndt
    · rcases List.mem_cons.mp hpp with rfl | hpp
      · refine ⟨by rw [List.length_map]; have := tp.length_eq; omega, ts.map Value.ref, cc, LiI.vals_refs ts, ?_⟩
        exact e1.trans hcc
      · obtain ⟨b, hb, rfl⟩ := List.mem_map.mp hpp
        obtain ⟨t1, t2, h3⟩ := tup b hb
        exact ⟨by show 2 ≤ sizeLine; decide, [Value.int (k (.ref b)).1 t1, Value.int (k (.ref b)).2 t2], .cons ⟨t1, rfl⟩ (.cons ⟨t2, rfl⟩ .nil), _, e1.trans (hF b _ h3), rfl, _, rfl⟩
end
/-! ### the data -/
def pairsI : List (Key × Dt) → Option (List (Int × Int))
  | [] => some []
  | (.inl i, .int j) :: r => (pairsI r).map ((i, j) :: ·)
  | _ => none
def ltPB (p q : Int × Int) : Bool := decide (p.1 < q.1) || (decide (p.1 = q.1) && decide (p.2 ≤ q.2))
def insP (p : Int × Int) : List (Int × Int) → List (Int × Int)
  | [] => [p]
  | q :: r => if ltPB p q = true then p :: q :: r else q :: insP p r
def sortP : List (Int × Int) → List (Int × Int)
  | [] => []
  | p :: r => insP p (sortP r)
theorem ltPB_iff {p q : Int × Int} : ltPB p q = true ↔ leP p q := by
  unfold ltPB leP
  simp only [Bool.or_eq_true, Bool.and_eq_true, decide_eq_true_eq]
theorem leP_total {p q : Int × Int} (h : ¬ ltPB p q = true) : leP q p := by
  rw [ltPB_iff] at h
  unfold leP at h ⊢
  omega
theorem leP_trans {p q r : Int × Int} (h1 : leP p q) (h2 : leP q r) : leP p r := by
  unfold leP at h1 h2 ⊢
  omega
theorem insP_perm (p : Int × Int) : ∀ l, (insP p l).Perm (p :: l)
  | [] => .refl _
  | q :: r => by
    unfold insP
    split
    · exact .refl _
    · exact ((insP_perm p r).cons q).trans (.swap ..)
theorem sortP_perm : ∀ l, (sortP l).Perm l
  | [] => .refl _
  | p :: r => (insP_perm p _).trans ((sortP_perm r).cons p)
theorem insP_sorted (p : Int × Int) : ∀ {l : List (Int × Int)}, l.Pairwise leP → (insP p l).Pairwise leP
  | [], _ => List.pairwise_singleton ..
  | q :: r, h => by
    obtain ⟨h1, h2⟩ := List.pairwise_cons.mp h
    unfold insP
    split
    · rename_i hp
      have hpq := ltPB_iff.mp hp
      exact List.pairwise_cons.mpr ⟨fun y hy => by
        rcases List.mem_cons.mp hy with rfl | hy
        · exact hpq
        · exact leP_trans hpq (h1 y hy), h⟩
    · rename_i hp
      refine List.pairwise_cons.mpr ⟨fun y hy => ?_, insP_sorted p h2⟩
      rcases List.mem_cons.mp ((insP_perm p r).mem_iff.mp hy) with rfl | hy
      · exact leP_total hp
      · exact h1 y hy
theorem sortP_sorted : ∀ l, (sortP l).Pairwise leP
  | [] => .nil
  | p :: r => insP_sorted p (sortP_sorted r)
theorem sortP_one {l m : List (Int × Int)} (h : m.Perm l) (h2 : m.Pairwise leP) : m = sortP l :=
  List.Perm.eq_of_pairwise (fun a b _ _ h1 h2 => by
    unfold leP at h1 h2
    exact Prod.ext (by omega) (by omega)) h2 (sortP_sorted l) (h.trans (sortP_perm l).symm)
def prD2 (q : Int × Int) : Dt := .tup [.int q.1, .int q.2]
def srtItD (d : Dt) : Option Dt := match d with
  | .dct kvs => (pairsI kvs).map fun ps => .lst ((sortP ps).map prD2)
  | _ => none
theorem pairsI_kv {K : PySem.W.Frag} {H : Hp} : ∀ {kvs : List (Key × Dt)} {ps : List (Int × Int)} {ks : List (Key × V)}, pairsI kvs = some ps → DaKv K H ks kvs → ks = ps.map fun p => (Sum.inl p.1, V.int p.2)
  | [], ps, ks, h, d => by
    cases h
    cases d
    rfl
  | (.inl i, .int j) :: r, ps, ks, h, d => by
    obtain ⟨qs, h1, rfl⟩ := Option.map_eq_some_iff.mp h
    cases d with
    | cons d1 d2 =>
      cases d1
      rw [pairsI_kv h1 d2]
      rfl
  | (.inr _, _) :: r, ps, ks, h, d => by cases h
  | (.inl _, .non) :: r, ps, ks, h, d => by cases h
  | (.inl _, .bl _) :: r, ps, ks, h, d => by cases h
  | (.inl _, .str _) :: r, ps, ks, h, d => by cases h
  | (.inl _, .lst _) :: r, ps, ks, h, d => by cases h
  | (.inl _, .tup _) :: r, ps, ks, h, d => by cases h
  | (.inl _, .dct _) :: r, ps, ks, h, d => by cases h
  | (.inl _, .scr _) :: r, ps, ks, h, d => by cases h
theorem und_sortIt (K : PySem.W.Frag) : UnD K rSortIt2 srtItD := by
  intro x d z H0 H s hx hg Q k
  unfold srtItD at hg
  split at hg
  · rename_i kvs
    obtain ⟨ps, h, rfl⟩ := Option.map_eq_some_iff.mp hg
    obtain ⟨a, ks, rfl, h1, h2⟩ := hx
    rw [pairsI_kv h h2] at h1
    refine ⟨a, ps, rfl, h1, fun H' l ts qs kp hn hp hs hl ht => ?_⟩
    rw [← sortP_one hp hs] at k
    obtain ⟨g1, g2⟩ := gr_many (H0 := H0) (H := H) (H' := H') (l :: ts) s kp hn (fun b hb o ho => by
      rcases List.mem_cons.mp hb with rfl | hb
      · rw [hl] at ho; cases ho; exact nt_lst _
      · obtain ⟨q, hq⟩ := paired_mem ht b hb
        rw [hq] at ho; cases ho; exact fun _ z => nomatch z)
    refine k (.ref l) _ H' g1 g2 (.lst (xs := ts.map V.ref) (by rw [if_pos (List.mem_cons_self ..)]; exact hl) ?_)
    have key : ∀ (us : List Addr) (rs : List (Int × Int)), (∀ u ∈ us, u ∈ l :: ts) → Paired (fun t (q : Int × Int) => H' t = some (.tup [.int q.1, .int q.2])) us rs → DaAll K (fun b => if b ∈ l :: ts then H' b else H0 b) (us.map V.ref) (rs.map prD2) := by
      intro us rs hu hpr
      induction hpr with
      | nil => exact .nil
      | @cons t q us rs h5 _ ih =>
        refine .cons (.tup (xs := [.int q.1, .int q.2]) (.inl (.inl ?_)) (.cons (.int _) (.cons (.int _) .nil))) (ih fun u h6 => hu u (List.mem_cons_of_mem _ h6))
        show (if t ∈ l :: ts then H' t else H0 t) = _
        rw [if_pos (hu t (List.mem_cons_self ..))]
        exact h5
    exact key ts qs (fun u hu => List.mem_cons_of_mem _ hu) ht
  · cases hg
section
variable {X : Cx} {W : WX} {o : Expr} {f1 : Rho → R Dt} {p apos cpos pos : Pos}
theorem de_sortIt (hc : X.calm = true) (hg : Gl X "sorted") (hm : X.mg "sorted" = none) (ho : DK X W o f1) (hb : attributeBase o "items" X.env (eval o X.env) = eval o X.env := by rfl) (hl : (apos.endLine == cpos.line) = true := by rfl)
    (hs : starEach [.Call (.Attribute o "items" apos) [] [] cpos] X.env = (false, eval (.Call (.Attribute o "items" apos) [] [] cpos) X.env) :: starEach [] X.env := by rfl) :
    DE X W (.Call (.Name "sorted" p) [.Call (.Attribute o "items" apos) [] [] cpos] [] pos) (un srtItD f1) := fun F => PE.wk (pe_sortIt2 hc (ho F) hg hm hb hl hs) fun _ _ _ h => tUn_un (und_sortIt _) h
end
/-! ### l.count(x), numbers -/
def cntD : Dt → Dt → Option Dt
  | .lst xs, .int k => (intsOf xs).map fun ns => .int (ns.count k : Nat)
  | _, _ => none
section
variable {X : Cx} {W : WX} {o e : Expr} {f1 f2 : Rho → R Dt} {apos cpos : Pos}
theorem de_count (ho : DE X W o f1) (he : DE X W e f2) (hbase : attributeBase o "count" X.env (eval o X.env) = eval o X.env := by rfl)
    (hfew : ((backTo cpos (starEach (e :: []) X.env)).all (fun x => !x.1) && (backToKw cpos (keywordEach [] X.env)).all (fun x => x.1.isSome)
      && decide ((e :: ([] : List Expr)).length + ([] : List Keyword).length + (if ([] : List Keyword).isEmpty then 0 else 1) < 30)) = true := by rfl)
    (hline : (apos.endLine == cpos.line) = true := by rfl) (hs : starEach (e :: []) X.env = (false, eval e X.env) :: starEach [] X.env := by rfl) (hplain : (backTo cpos (starEach [] X.env)).any (·.1) = false := by rfl) :
    DE X W (.Call (.Attribute o "count" apos) [e] [] cpos) (meth1 cntD isLst f1 f2) :=
  fun F => PE.wk (pe_bm PySem.F.plainAttrs_list PySem.F.slot_list_count PySem.F.type_list_count mt_lcount (ho F) (pa_cons (he F) pa_nil hs) hbase hfew hline hs hplain) fun σ H Q ⟨H0, ρ, E, q⟩ => by
    refine ⟨H0, ρ, E, ?_⟩
    unfold meth1 at q
    cases e1 : f1 ρ with
    | ok d ρ1 =>
      rw [e1] at q
      dsimp only [R.bind] at q
      intro v B0 B E1 m1 dv
      cases d with
      | lst xs =>
        rw [if_pos (by rfl)] at q
        cases dv with
        | @lst a vs _ h1 h2 =>
          refine ⟨.inl ⟨rfl, _, SqL.of (E1.ex.hit h1)⟩, B0, ρ1, E1, ?_⟩
          cases e2 : f2 ρ1 with
          | ok y ρ2 =>
            rw [e2] at q
            dsimp only [R.bind] at q
            intro w C0 C E2 m2 d2
            cases e3 : cntD (.lst xs) y with
            | none => rw [e3] at q; exact q.elim
            | some z =>
              rw [e3] at q
              cases y with
              | int k =>
                change (intsOf xs).map _ = some z at e3
                obtain ⟨ns, h3, rfl⟩ := Option.map_eq_some_iff.mp e3
                have h4 := h2.mono m2.b0
                rw [intsOf_eq h3] at h4
                cases d2
                refine ⟨a, ns, k, rfl, rfl, ?_, q _ C0 C E2 (m1.trans m2) (.int _)⟩
                rw [← h4.ints]
                exact SqL.of (E2.ex.hit (m2.b0.hit h1))
              | _ => cases e3
          | ex x ρ1 => rw [e2] at q; exact q
          | bad => rw [e2] at q; exact q
      | _ => exact q.elim
    | ex x ρ1 => rw [e1] at q; exact q
    | bad => rw [e1] at q; exact q
end
end DW

set_option Elab.async false
set_option linter.all false
set_option maxRecDepth 100000
set_option maxHeartbeats 4000000
/-! DWN: sorted(set(l)), numbers -/
namespace DW
open PySem PySem.Spec PyProof.Rows L2
abbrev newS (w : World) : Obj := { cls := .type "set", dict := none, data := .set #[] 0 (.fresh 0 0 (!w.params.followText "set-order")) }
section
variable {P : Program} {w : World} {A : Around} {E : Value → Shared → Prop} {s : Shared}
theorem ints_at {items : Array Value} {ns : List Int} (hz : items.size = ns.length) (hi : IntsAre items.toList ns) (i : Nat) (v : Value) (hv : items[i]? = some v) : ∃ k t, ns[i]? = some k ∧ v = .int k t := by
  have lt : i < ns.length := by rw [← hz]; exact (Array.getElem?_eq_some_iff.mp hv).1
  obtain ⟨t, e⟩ := PyProof.Rows.IntsAre.int_at hi i v (by rw [Array.getElem?_toList]; exact hv)
  refine ⟨ns[i], t, List.getElem?_eq_getElem lt, ?_⟩
  rw [e, List.getD_eq_getElem?_getD, List.getElem?_eq_getElem lt]
  rfl
/-- what the filling of a new set by a list leaves -/
theorem fill_list {R : Result → Shared → Prop} {l S : Addr} {items : Array Value} (ns : List Int) (calm : A.in1.handled = none) (hS : S = s.heap.objs.size) (isl : s.heap.IsList l items) (hi : IntsAre items.toList ns) (few : ns.length + 1 < scanBound)
    (k : ∀ h' tk c, SetR w h' S (fun j => decide (j ∈ ns)) c → c ≤ ns.length → (∀ b o, s.heap.get? b = some o → h'.get? b = some o) → R (.ok (.ret .none)) { s with heap := h', toks := tk }) :
    codeAny (model P w) A (.builtin "set.update.loop" ⟨[.ref S, .ref (s.heap.objs.size + 1)], []⟩) R { s with heap := (s.heap.push (newS w)).push { cls := .type "list_iterator", data := .fields #[.ref l, .int 0 0] } } := by
  subst hS
  have hz : items.size = ns.length := by
    have q := IntsAre.length hi
    rwa [Array.length_toList] at q
  obtain ⟨ol, ho, _⟩ := id isl
  have small : l < s.heap.objs.size := Heap.lt_size ho
  have at1 : (s.heap.push (newS w)).get? s.heap.objs.size = some (newS w) := Heap.get?_push_size _ rfl
  have sz1 : (s.heap.push (newS w)).objs.size = s.heap.objs.size + 1 := size_push' _ _
  have at2 : ((s.heap.push (newS w)).push { cls := .type "list_iterator", data := .fields #[.ref l, .int 0 0] }).get? (s.heap.objs.size + 1) = some { cls := .type "list_iterator", data := .fields #[.ref l, .int 0 0] } := by
    rw [← sz1]
    exact Heap.get?_push_size _ rfl
  have apart : s.heap.objs.size ∉ [s.heap.objs.size + 1, l] := by
    simp only [List.mem_cons, List.not_mem_nil, or_false, not_or]
    exact ⟨Nat.ne_of_lt (Nat.lt_succ_self _), Nat.ne_of_gt small⟩
  refine set_update_ints ((Walks.list calm (s.heap.objs.size + 1) l (Nat.ne_of_lt (Nat.lt_succ_of_lt small)) items).toS) s.heap.objs.size apart ns hz few (ints_at hz hi) items.size 0 _ rfl (Nat.zero_le _)
    ⟨⟨_, at2, rfl, rfl⟩, (isl.push _).push _⟩ ⟨0, Nat.le_refl 0, setR_new_at (Heap.get?_push_of_some _ at1)⟩ fun s' c mv hc hS => ?_
  obtain ⟨h', g', d', t', o'⟩ := s'
  obtain rfl : g' = s.gens := mv.gens
  obtain rfl : d' = s.drawn := mv.drawn
  obtain rfl : o' = s.os := mv.os
  rw [hz] at hc
  refine k h' t' c hS hc fun b o e => mv.heap b o ?_ (Heap.get?_push_of_some _ (Heap.get?_push_of_some _ e))
  have lt := Heap.lt_size e
  simp only [List.mem_cons, List.not_mem_nil, or_false, not_or]
  exact ⟨Nat.ne_of_lt lt, Nat.ne_of_lt (Nat.lt_succ_of_lt lt)⟩
set_option maxHeartbeats 3200000 in
theorem set_of_list {l : Addr} {items : Array Value} (ns : List Int) {Q : Value → Shared → Prop} (calm : A.handled = none) (isl : s.heap.IsList l items) (hi : IntsAre items.toList ns) (few : ns.length + 1 < scanBound)
    (goal : ∀ h' tk c, SetR w h' s.heap.objs.size (fun j => decide (j ∈ ns)) c → c ≤ ns.length → (∀ b o, s.heap.get? b = some o → h'.get? b = some o) → Q (.ref s.heap.objs.size) { s with heap := h', toks := tk }) :
    wpAny (model P w) A (call (.type "set") [.ref l]) Q E s := by
  obtain ⟨_, _, f1⟩ := F.called_set.mro
  have f2 := F.called_set.made
  have f3 := F.called_set.sub
  have f4 := F.called_set.notType
  have f5 := F.called_set.canCreate
  have f6 := F.typeCall_set_1 (.ref l)
  refine wpAny_call (codeAny_of_tree ?_)
  change wpAny _ _ (callAny (.type "set") _) _ _ _
  refine wpAny_pure ⟨Code.quiet_builtin _ (by decide +kernel), codeAny_builtin F.entry_type_call ?_⟩
  rw [Around.under_plain (weight_type_call_type "set" [.ref l] []) rfl]
  repeat (any_goals (first | assumption | wp_step | fail "no step"))
  refine codeAny_mono (code_set_led1 (.ref l) (E := E) (Q₁ := fun obj s₁ => obj = .ref s.heap.objs.size ∧ s₁ = { s with heap := s.heap.push (newS w) }) ⟨rfl, rfl⟩) fun r s₁ hr => ?_
  match r, hr with
  | .error _, hr => exact hr
  | .ok .next, hr => exact hr.elim
  | .ok .brk, hr => exact hr.elim
  | .ok .cont, hr => exact hr.elim
  | .ok (.ret obj), hr =>
    obtain ⟨rfl, rfl⟩ := hr
    have at1 : (s.heap.push (newS w)).get? s.heap.objs.size = some (newS w) := Heap.get?_push_size _ rfl
    have ty1 : Shared.TypeIs { s with heap := s.heap.push (newS w) } (.ref s.heap.objs.size) "set" := ⟨_, at1, rfl⟩
    have f7 := F.called_set.init.lookup
    have f8 := F.called_set.init.bind (.ref s.heap.objs.size)
    repeat (any_goals (first | assumption | wp_step | fail "no step"))
    refine codeAny_mono (codeAny_call_builtin (R := wants (fun r s₂ => r = .none ∧ ∃ h' tk c, s₂ = { s with heap := h', toks := tk } ∧ SetR w h' s.heap.objs.size (fun j => decide (j ∈ ns)) c ∧ c ≤ ns.length ∧ ∀ b o, s.heap.get? b = some o → h'.get? b = some o) E) F.called_set.init.plain F.entry_set_init (check_set_init_1 ty1 ?_)) fun r₂ s₂ hr₂ => ?_
    · have isl' := isl
      obtain ⟨⟨oc, od, oda, osl⟩, ho, hc, nn, hd⟩ := isl'
      simp only at hc hd
      subst hc hd
      have at3 : (s.heap.push (newS w)).get? l = some { cls := .type "list", dict := od, data := .seq items nn, slots := osl } := Heap.get?_push_of_some _ ho
      have n1 := F.sub_list_set
      have n2 := F.sub_list_frozenset
      have n3 : (Value.type "list" == Value.type "dict") = false := by decide
      unfold Builtin.«set.__init__» noKeywords Builtin.Frozenset.updateFrom
      generalize hI : pyIter = PI
      wp_walk
      subst hI
      refine wpAny_pyIter_list (isl.push (newS w)) (wpAny_bind (wpAny_runValue ?_))
      have calm3 : A.in1.in1.in1.handled = none := by simp [calm]
      have sz1 : (s.heap.push (newS w)).objs.size = s.heap.objs.size + 1 := size_push' _ _
      rw [sz1]
      refine fill_list (s := s) ns calm3 rfl isl hi few fun h' tk c a1 a2 a3 => ?_
      change wpAny _ _ _ _ _ _
      refine wpAny_pure ?_
      change wpAny _ _ (ret Value.none) _ _ _
      exact wpAny_pure ⟨rfl, h', tk, c, rfl, a1, a2, a3⟩
    · match r₂, hr₂ with
      | .error _, hr₂ => exact hr₂
      | .ok .next, hr₂ => exact hr₂.elim
      | .ok .brk, hr₂ => exact hr₂.elim
      | .ok .cont, hr₂ => exact hr₂.elim
      | .ok (.ret _), hr₂ =>
        obtain ⟨rfl, h', tk, c, rfl, a1, a2, a3⟩ := hr₂
        repeat (any_goals (first | assumption | wp_step | fail "no step"))
        exact goal _ _ _ a1 a2 a3
/-- sorted(S), a set of numbers, any number of them -/
theorem sorted_setA {a : Addr} {S : Int → Bool} {n : Nat} {Q : Value → Shared → Prop} (T : SetR w s.heap a S n) (calm : A.handled = none) (hn : n ≤ 1000000)
    (goal : ∀ s' p (out : List Value) (c : Nat) (ns : List Int), (∀ b o, s.heap.get? b = some o → s'.heap.get? b = some o) → s'.gens = s.gens → s'.os = s.os → s.heap.objs.size ≤ p →
      s'.heap.get? p = some (seqObj "list" out.toArray c) → IntsAre out ns → ns.Pairwise (· < ·) → (∀ k, k ∈ ns ↔ S k = true) → ns.length = n → Q (.ref p) s') :
    wpAny (model P w) A (call (.builtin "sorted") [.ref a]) Q E s := by
  obtain ⟨o, es, ep, t, ho, hex, hd, g, nd, hm, hb, hf, hen, hr, hl⟩ := T
  refine Calls.call_function_entry kind_sorted plain_sorted entry_sorted (args_sorted1 _) ?_
  unfold Builtin.«sorted»
  refine wpAny_bind (m := checkCount "sorted" 1 1 _) (wpAny_pure (wpAny_bind (collect_set (A := A.in1) calm ⟨o, ho, hex.1, hd⟩ hf hb hr hl fun s1 vs k1 hz g1 o1 pm => ?_)))
  have len : vs.length = n := by rw [pm.length_eq, List.length_map, Array.length_toList]; exact hen
  have isI : IntsAre vs (vs.map Builtin.Re.reRawOf) := ints_of vs fun v hv => by
    obtain ⟨e, he, rfl⟩ := List.mem_map.mp (pm.mem_iff.mp hv)
    obtain ⟨k, tk, e1, _⟩ := g e he
    exact ⟨k, tk, e1⟩
  have pk : (vs.map Builtin.Re.reRawOf).Perm (es.toList.map keyOf) := by
    have q := pm.map Builtin.Re.reRawOf
    rwa [List.map_map] at q
  have lineN : vs.length ≤ sizeLine := by rw [len]; exact sizeM hn
  refine wpAny_bind (wpAny_newList ?_ lineN)
  have atL : (s1.heap.push (seqObj "list" vs.toArray 0)).get? s1.heap.objs.size = some (seqObj "list" vs.toArray 0) := Heap.get?_push_size _ rfl
  refine wpAny_bind (wpAny_holding (wpAny_call_entry slot_list_sort ⟨_, atL, rfl⟩ entry_list_sort (SrtO.list_sort_ord SrtO.swo_int atL lineN (fun h2 => SrtO.ints_sortable isI h2) fun out b1 b2 => ⟨_, rfl, ?_⟩) (args_list_sort _)))
  obtain ⟨c1, c2, c3⟩ := SrtO.ints_out isI b1 b2
  obtain ⟨ec, hec⟩ := sortedHeap_at (vs := vs) (out := out.toArray) atL
  have pn := c2.trans pk
  refine wpAny_pure ⟨_, rfl, goal _ s1.heap.objs.size out ec _ (fun b u e => ?_) g1 o1 hz hec c1 (lt_of_le_nodup _ c3 (pn.nodup_iff.mpr nd)) (fun k => by rw [pn.mem_iff, ← hm k]) ?_⟩
  · have q := k1 b u e
    have lt := Heap.lt_size q
    change (sortedHeap (s1.heap.push (seqObj "list" vs.toArray 0)) s1.heap.objs.size vs out.toArray).get? b = some u
    rw [sortedHeap_old (Nat.ne_of_lt lt) (by rw [size_push']; exact Nat.lt_succ_of_lt lt)]
    exact Heap.get?_push_of_some _ q
  · rw [pn.length_eq, List.length_map, Array.length_toList]
    exact hen
end
def tSrtSet (K : PySem.W.Frag) (ta : TE) : TE := fun σ H Q => ta σ H fun x H1 => ∃ (l : Addr) (ns : List Int), x = .ref l ∧ SqL K H1 l (ns.map V.int) ∧ ns.length ≤ 4000 ∧
  ∀ (out : List Int) (p : Addr), out.Pairwise (· < ·) → (∀ k, k ∈ out ↔ k ∈ ns) → H1 p = none → Q (.ref p) (upd H1 p (.lst (out.map V.int)))
theorem pe_srtSet {X : Cx} {a : Expr} {ta : TE} {p p2 q pos : Pos} (hc : X.calm = true) (hg : Gl X "sorted") (hm : X.mg "sorted" = none) (hg2 : Gl X "set") (hm2 : X.mg "set" = none) (ha : PE X a ta)
    (na : starEach [a] X.env = (false, eval a X.env) :: starEach [] X.env := by rfl) : PE X (.Call (.Name "sorted" p) [.Call (.Name "set" p2) [a] [] q] [] pos) (tSrtSet X.K ta) := by
  refine ⟨fun pins s σ H Q I h => ?_⟩
  refine Call_ (ld_blt I hg hm boot_sorted (PyProof.Rows.callWith_builtin1 (PyProof.Rows.args_cons (Call_ (ld_blt I hg2 hm2 boot_set ?_)) rfl) rfl rfl))
  refine PyProof.Rows.callWith_type1 (PyProof.Rows.args_cons (thn (ha.run pins s σ H _ I h) fun v s1 z => PyProof.Rows.args_nil ?_) na) na rfl
  obtain ⟨x, H1, I1, r1, l, ns, rfl, sq, few, k⟩ := z
  cases r1
  obtain ⟨its, r, pl, hz⟩ := I1.list sq
  have isI : IntsAre its.toArray.toList ns := by
    rw [List.toList_toArray]
    exact r.ints
  refine set_of_list ns (I1.ok.hd hc) pl.isList isI (by unfold scanBound; omega) fun h' tk c a1 a2 a3 => PyProof.Rows.args_nil ?_
  have I2 : Inv X pins σ H1 { s1 with heap := h', toks := tk } := I1.kept a3
  refine sorted_setA (s := { s1 with heap := h', toks := tk }) a1 (I1.ok.hd hc) (by omega) fun s' pp out cc ms b1 b2 b3 b4 b5 b6 b7 b8 b9 => ?_
  have hlen : (ms.map V.int).length ≤ sizeLine := by rw [List.length_map, b9]; exact sizeM (by omega)
  have J : Inv X pins σ (upd H1 pp (.lst (ms.map V.int))) { ({ s1 with heap := h', toks := tk } : Shared) with heap := s'.heap, gens := s'.gens, drawn := s'.drawn, toks := s'.toks } :=
    I2.call (ch := []) (Un.laid b1 b4 (I2.hok.fresh b4)) (I2.hok.laid b1 b4 ⟨hlen, out, cc, vals_of_ints b6, b5⟩) (by rw [b2]; exact I2.bare) (fun _ z => nomatch z)
  have e : s' = { ({ s1 with heap := h', toks := tk } : Shared) with heap := s'.heap, gens := s'.gens, drawn := s'.drawn, toks := s'.toks } := by
    cases s'
    cases s1
    cases b3
    rfl
  rw [e]
  exact ⟨.ref pp, _, J, rfl, k ms pp b7 (fun z => by rw [b8 z, decide_eq_true_eq]) (I2.hok.fresh b4)⟩
/-! ### the data -/
def setI : List Int → List Int
  | [] => []
  | n :: ns => if n ∈ ns then setI ns else n :: setI ns
theorem mem_setI {k : Int} : ∀ {ns : List Int}, k ∈ setI ns ↔ k ∈ ns
  | [] => Iff.rfl
  | n :: ns => by
    unfold setI
    split
    · rename_i h
      rw [mem_setI, List.mem_cons]
      exact ⟨.inr, fun z => z.elim (fun e => e ▸ h) id⟩
    · rw [List.mem_cons, List.mem_cons, mem_setI]
theorem setI_nodup : ∀ ns : List Int, (setI ns).Nodup
  | [] => .nil
  | n :: ns => by
    unfold setI
    split
    · exact setI_nodup ns
    · rename_i h
      exact List.nodup_cons.mpr ⟨fun z => h (mem_setI.mp z), setI_nodup ns⟩
def srtSetD (d : Dt) : Option Dt := match d with
  | .lst xs => (intsOf xs).bind fun ns => if ns.length ≤ 4000 then some (.lst ((sortI (setI ns)).map .int)) else none
  | _ => none
theorem srtSet_one {out ns : List Int} (h : out.Pairwise (· < ·)) (hm : ∀ k, k ∈ out ↔ k ∈ ns) : out = sortI (setI ns) :=
  sortI_one ((List.perm_ext_iff_of_nodup (h.imp fun z => Int.ne_of_lt z) (setI_nodup ns)).mpr fun k => by rw [hm, mem_setI]) (h.imp fun z => Int.le_of_lt z)
theorem und_srtSet (K : PySem.W.Frag) : UnD K (fun x H Q => ∃ (l : Addr) (ns : List Int), x = .ref l ∧ SqL K H l (ns.map V.int) ∧ ns.length ≤ 4000 ∧ ∀ (out : List Int) (p : Addr), out.Pairwise (· < ·) → (∀ k, k ∈ out ↔ k ∈ ns) → H p = none → Q (.ref p) (upd H p (.lst (out.map V.int)))) srtSetD := by
  intro x d z H0 H s hx hg Q k
  unfold srtSetD at hg
  split at hg
  · obtain ⟨ns, h, hg⟩ := Option.bind_eq_some_iff.mp hg
    split at hg
    · rename_i hl
      cases hg
      obtain ⟨a, vs, rfl, h1, h2⟩ := hx
      rw [intsOf_eq h] at h2
      rw [h2.ints] at h1
      refine ⟨a, ns, rfl, SqL.of h1, hl, fun out p b1 b2 => ?_⟩
      rw [srtSet_one b1 b2]
      exact al_lst s (daInts _) k p
    · cases hg
  · cases hg
theorem de_srtSet {X : Cx} {W : WX} {a : Expr} {f1 : Rho → R Dt} {p p2 q pos : Pos} (hc : X.calm = true) (hg : Gl X "sorted") (hm : X.mg "sorted" = none) (hg2 : Gl X "set") (hm2 : X.mg "set" = none) (ha : DK X W a f1)
    (na : starEach [a] X.env = (false, eval a X.env) :: starEach [] X.env := by rfl) : DE X W (.Call (.Name "sorted" p) [.Call (.Name "set" p2) [a] [] q] [] pos) (un srtSetD f1) :=
  fun F => PE.wk (pe_srtSet hc hg hm hg2 hm2 (ha F) na) fun _ _ _ h => tUn_un (und_srtSet _) h
end DW
namespace DW
open PySem PySem.Spec PyProof.Rows L2
/-! ### d.get(k, c) -/
def getOr (c : Int) : Dt → Dt → Option Dt
  | .dct kvs, d => (keyD d).map fun k => (getK kvs k).getD (.int c)
  | _, _ => none
def getP (c : Int) (i : Nat) (f2 : Rho → R Dt) : Rho → R Dt := fun ρ => match pk i ρ with
  | some (.dct _) => (f2 ρ).bind fun e ρ2 => match pk i ρ2 with
    | some d => (match getOr c d e with
      | some z => .ok z ρ2
      | none => .bad)
    | none => .bad
  | _ => .bad
section
variable {X : Cx} {W : WX} {e : Expr} {f2 : Rho → R Dt} {p p3 apos cpos : Pos} {i : Nat}
theorem de_get2 {x : Str} {c : Int} {j : Nat} (hu : X.A.units + 1 < cLine) (hv : PE X (.Name x p) (tVar i)) (he : DE X W e f2) (m : M2 X (.Name x p) "get" apos e (.Constant (.int c) j p3) cpos) :
    DE X W (.Call (.Attribute (.Name x p) "get" apos) [e, .Constant (.int c) j p3] [] cpos) (getP c i f2) :=
  fun F => PE.wk (pe_dget2 hu hv (he F) pe_int m) fun σ H Q ⟨H0, ρ, E, q⟩ => by
    unfold getP at q
    cases e1 : pk i ρ with
    | none => rw [e1] at q; exact q.elim
    | some d0 =>
      rw [e1] at q
      obtain ⟨v0, hv0, p0⟩ := pk_at E e1
      refine ⟨v0, hv0, ?_⟩
      cases d0 with
      | dct kvs0 =>
        dsimp only at q
        obtain ⟨a, ks, rfl, h1, h2⟩ := p0
        refine ⟨a, rfl, .inl ⟨_, .inl h1⟩, H0, ρ, E, ?_⟩
        cases e2 : f2 ρ with
        | ok y ρ2 =>
          rw [e2] at q
          dsimp only [R.bind] at q
          intro v H2 B2 E2 m2 d2
          show ∃ o, DGet B2 a v o ∧ Q (o.getD (.int c)) B2
          cases e3 : pk i ρ2 with
          | none => rw [e3] at q; exact q.elim
          | some d =>
            rw [e3] at q
            dsimp only at q
            obtain ⟨v', hv', px⟩ := pk_at E2 e3
            rw [hv0] at hv'
            cases hv'
            cases d with
            | dct kvs =>
              obtain ⟨a', ks', ea, h3, h4⟩ := px
              cases ea
              cases e4 : keyD y with
              | none =>
                have : getOr c (.dct kvs) y = none := by show (keyD y).map _ = none; rw [e4]; rfl
                rw [this] at q
                exact q.elim
              | some k =>
                have : getOr c (.dct kvs) y = some ((getK kvs k).getD (.int c)) := by show (keyD y).map _ = _; rw [e4]; rfl
                rw [this] at q
                dsimp only at q
                refine ⟨valV ks' k, .inl ⟨ks', k, .inl h3, keyD_Va d2 e4, rfl⟩, ?_⟩
                obtain ⟨g1, g2⟩ := h4.get k
                cases e5 : getK kvs k with
                | none =>
                  rw [e5] at q
                  rw [g2 e5]
                  exact q _ H2 B2 E2 m2 (.int c)
                | some z =>
                  rw [e5] at q
                  obtain ⟨vz, e6, dz⟩ := g1 z e5
                  rw [e6]
                  exact q _ H2 B2 E2 m2 dz
            | _ => exact q.elim
        | ex x ρ1 => rw [e2] at q; exact q
        | bad => rw [e2] at q; exact q
      | _ => exact q.elim
end
end DW

set_option Elab.async false
set_option linter.all false
set_option maxRecDepth 100000
set_option maxHeartbeats 4000000
/-! DWX0: an own error whose __init__ says super().__init__(text) and stores one field -/
namespace DWX
open PySem PySem.W PySem.Calls PyProof.Rows PySem.HandSPX
/-! ### the text of __init__ -/
def xA (f : Str) (p1 p2 : Pos) : Arguments := { posonlyargs := [], args := [{ arg := "self", annotation := none, pos := p1 }, { arg := f, annotation := none, pos := p2 }], vararg := none, kwonlyargs := [], kw_defaults := [], kwarg := none, defaults := [] }
def xB (f m : Str) (j : Nat) (q1 q2 q3 q4 q5 q6 r1 r2 r3 r4 : Pos) : List Stmt :=
  [.Expr (.Call (.Attribute (.Call (.Name "super" q1) [] [] q2) "__init__" q3) [.Constant (.str m) j q4] [] q5) q6, .Assign [.Attribute (.Name "self" r1) f r2] (.Name f r3) r4]
def xS (f : Str) : Scope := { kind := .function, names := [(PySem.Str.ofString "self", .local), (f, .local), (PySem.Str.ofString "__class__", .free), (PySem.Str.ofString "super", .globalImplicit)], isGenerator := false, isCoroutine := false, more := [] }
abbrev xSup (q1 q2 : Pos) : Expr := .Call (.Name "super" q1) [] [] q2
/-- the call's places are told: super().__init__(m) runs as a method's call -/
def McOk (m : Str) (j : Nat) (q1 q2 q3 q4 q5 : Pos) : Prop := ∀ env : Env, eval (.Call (.Attribute (xSup q1 q2) "__init__" q3) [.Constant (.str m) j q4] [] q5) env = (do
  let ov ← attributeBase (xSup q1 q2) "__init__" env (eval (xSup q1 q2) env)
  standAt q3.atName
  let (f, first) ← holding [ov] (getMethod ov "__init__" (do return (← importBound (xSup q1 q2) env).getD true))
  callWith q5 f first (backTo q5 (starEach [.Constant (.str m) j q4] env)) [])
example : McOk "x" 0 ⟨22, 8, 22, 13⟩ ⟨22, 8, 22, 15⟩ ⟨22, 8, 22, 24⟩ ⟨22, 25, 22, 56⟩ ⟨22, 8, 22, 57⟩ := fun _ => rfl
/-- the names of the field that the kernel can look through -/
structure FldOk (f : Str) : Prop where
  l : (xS f).names.lookup f = some .local
  s : (xS f).names.lookup ("super" : Str) = some .globalImplicit
  c : (xS f).names.lookup ("__class__" : Str) = some .free
  ne : f ≠ "self"
  db : (f == ("__debug__" : Str)) = false
  bd : ∀ (qual : Str) (p1 p2 : Pos) (bdy : List Stmt) (cl : List (Str × Addr)) (doc pm : Value) (an : Option Addr) (cdv ct a v : Value), bindArgs (fnX "__init__" qual (xA f p1 p2) bdy (xS f) cl .none .none doc pm an cdv ct) ⟨[a, v], []⟩ = pure [(PySem.Str.ofString "self", a), (f, v)]
  bk : ∀ (qual : Str) (p1 p2 : Pos) (bdy : List Stmt) (cl : List (Str × Addr)) (doc pm : Value) (an : Option Addr) (cdv ct a v : Value), bindArgs (fnX "__init__" qual (xA f p1 p2) bdy (xS f) cl .none .none doc pm an cdv ct) ⟨[a], [(f, v)]⟩ = pure [(PySem.Str.ofString "self", a), (f, v)]
  nz : f ≠ ""
theorem fld_value : FldOk "value" := ⟨rfl, rfl, rfl, by decide, by decide, by intros; rfl, by intros; rfl, by decide⟩
theorem fld_part : FldOk "part" := ⟨rfl, rfl, rfl, by decide, by decide, by intros; rfl, by intros; rfl, by decide⟩
theorem fld_place : FldOk "place" := ⟨rfl, rfl, rfl, by decide, by decide, by intros; rfl, by intros; rfl, by decide⟩
theorem fld_number : FldOk "number" := ⟨rfl, rfl, rfl, by decide, by decide, by intros; rfl, by intros; rfl, by decide⟩
theorem fld_most : FldOk "most" := ⟨rfl, rfl, rfl, by decide, by decide, by intros; rfl, by intros; rfl, by decide⟩
/-- what the written part says of the class cn, at C, its __init__ at fI -/
structure OwnX (P : Program) (K : Frag) (mg : Str → Option Value) (cn f : Str) (B newId initId : String) (bmB : List Value) (C fI : Addr) : Prop where
  fb : ExcBaseFacts B newId initId bmB
  kf : KxsFacts B initId
  sf : StoreFacts B bmB "object.__setattr__" "object"
  fo : FldOk f
  gC : mg cn = some (.ref C)
  ex : excInitIn K C bmB newId = true
  ov : excOver K C bmB = true
  hd : hasDictIn K C = true
  sa : findIn K (.ref C) "__setattr__" = some (some (.builtin "object.__setattr__"))
  tf : takerIn K C f = some none
  iC : findIn K (.ref C) "__init__" = some (some (.ref fI))
  tI : typeIn K (.ref fI) = some (.type "function")
  kC : keepIn K (.ref C) = true
  bC : subIn K (.ref C) (.type "BaseException") = some true
  sB : subIn K (.ref C) (.type B) = some true
  sC : mroIn K C (.ref C) = some true
  tC : typeIn K (.ref C) = some (.type "type")
  sup : ks_superIn K C C "__init__" = some (some (.builtin initId))
  ms : mg "super" = none
  xf : L2.XfC K C
  no : findIn K (.ref C) f = some none
  op : nsIn K cStatics "thirdparty.any" = some none
  top : (P.main.scope.names.lookup ("super" : Str)).isSome = false
  fn : ∃ (oc : Value) (od : Option Addr) (doc pm : Value) (an : Option Addr) (ct : Value) (osl : Array (Option Value)) (qual m : Str) (j : Nat) (p1 p2 q1 q2 q3 q4 q5 q6 r1 r2 r3 r4 : Pos) (cc cda : Addr) (cl ccl : Value) (cld cdd : Option Addr) (csl ccs : Array (Option Value)) (vs : Array Value) (file : Str) (tf : Tok),
    K.lookup fI = some ⟨oc, od, .func (fnX "__init__" qual (xA f p1 p2) (xB f m j q1 q2 q3 q4 q5 q6 r1 r2 r3 r4) (xS f) [(PySem.Str.ofString "__class__", cc)] .none .none doc pm an (.ref cda) ct), osl⟩ ∧ codeIn K (.ref cda) qual = true ∧
    K.lookup cc = some ⟨cl, cld, .cell (some (.ref C)), csl⟩ ∧ K.lookup cda = some ⟨ccl, cdd, .fields vs, ccs⟩ ∧ vs[2]? = some (.str file tf) ∧ ((P.main.file : Str) == file) = true ∧ McOk m j q1 q2 q3 q4 q5
/-- what __init__ leaves of a new error at x -/
structure InitEnd (h h' : Heap) (x C dx t1 : Addr) (f : Str) (v : Value) : Prop where
  keep : ∀ b o, b ≠ x → h.get? b = some o → h'.get? b = some o
  obj : h'.get? x = some { cls := .ref C, dict := some dx, data := .fields #[.ref t1, .none, .none, .none, .bool false, .none] }
  dbig : h.objs.size ≤ dx
  dne : dx ≠ x
  ns : h'.Ns1 dx (fun y => if y = f then some v else none)
structure Made (h h' : Heap) (e C d : Addr) (f : Str) (v : Value) : Prop where
  keep : ∀ b o, h.get? b = some o → h'.get? b = some o
  new : h.objs.size ≤ e
  obj : ∃ oe vs, h'.get? e = some oe ∧ oe.cls = .ref C ∧ oe.dict = some d ∧ oe.data = .fields vs ∧ vs[1]? = some .none
  dbig : h.objs.size ≤ d
  dne : d ≠ e
  ns : h'.Ns1 d (fun y => if y = f then some v else none)
section
variable {P : Program} {w : World} {A : Around} {E : Value → Shared → Prop} {R : Result → Shared → Prop} {K : Frag} {mg : Str → Option Value} {cn f : Str} {B newId initId : String} {bmB : List Value} {C fI : Addr}
/-- self.f = v, the error without a dict -/
theorem store0 (T : OwnX P K mg cn f B newId initId bmB C fI) {hp : Heap} {g : Array GenState} {d : Drawn} {t : Nat} {os : OsState} {x t1 : Addr} {tk : Tok} {v : Value} (X : K.In hp) (hx : hp.get? x = some (excO C t1))
    (hq : ∀ h' tk' dx, (∀ b o, b ≠ x → hp.get? b = some o → h'.get? b = some o) → hp.objs.size ≤ dx → dx ≠ x → h'.get? x = some { cls := .ref C, dict := some dx, data := .fields #[.ref t1, .none, .none, .none, .bool false, .none] } →
      h'.Ns1 dx (fun y => if y = f then some v else none) → R (.ok (.ret .none)) ⟨h', g, d, tk', os⟩) :
    codeAny (model P w) A (.call (.builtin "object.__setattr__") ⟨[.ref x, .str f tk, v], []⟩) R ⟨hp, g, d, t, os⟩ := by
  have I : InstAt hp x (excO C t1) C none := ⟨hx, rfl, rfl, trivial⟩
  refine osa_openX (s := ⟨hp, g, d, t, os⟩) T.sf X I T.ov T.tf fun b => ?_
  obtain ⟨cd, hc, hd'⟩ := any_some T.hd
  have hcls : Looks (model P w) hp (classData C) cd := looks_clsIn X hc
  have hne : x ≠ hp.objs.size := Nat.ne_of_lt (Heap.lt_size hx)
  have hx1 : (hp.push (dictOf [] 0)).get? x = some (excO C t1) := Heap.get?_push_of_some _ hx
  show wpAny (model P w) _ (Builtin.ObjectAttr.storeInOwnDict (.ref x) (.ref C) (.str f tk) f v b) _ _ _
  refine wpAny_bind (wpAny_pure (wpAny_bind (instanceDict_exc hx hcls hd' ?_)))
  show wpAny _ _ (Builtin.ObjectAttr.storeInDict hp.objs.size (.str f tk) f v) _ _ _
  refine store_in_new ?_ fun h' tk' hn hs => ?_
  · exact ⟨_, #[], _, (Heap.get?_update_ne _ _ _ _ hne.symm).trans (Heap.get?_push_at rfl rfl), rfl, fun e he => absurd he (by simp), fun _ => rfl⟩
  · refine hq h' tk' hp.objs.size (fun b o hb ho => ?_) (Nat.le_refl _) hne.symm ?_ hn
    · exact (hs.2 b (Nat.ne_of_lt (Heap.lt_size ho))).trans ((Heap.get?_update_ne _ _ _ _ hb).trans (Heap.get?_push_of_some _ ho))
    · exact (hs.2 x hne).trans (Heap.get?_update_self _ hx1 rfl)
/-- the bound __init__ of the base, called with a text -/
theorem init_call (T : OwnX P K mg cn f B newId initId bmB C fI) {hp : Heap} {g : Array GenState} {d : Drawn} {t : Nat} {os : OsState} {u x t0 : Addr} {rest : List Value} {Q : Value → Shared → Prop} (X : K.In hp) (hx : hp.get? x = some (excO C t0)) (hu : hp.get? u = some (kxs_mw initId x)) (hz : rest.length ≤ sizeLine)
    (hq : ∀ h' t1, (∀ b o, b ≠ x → hp.get? b = some o → h'.get? b = some o) → h'.get? x = some (excO C t1) → Q .none ⟨h', g, d, t, os⟩) :
    wpAny (model P w) A (call (.ref u) rest) Q E ⟨hp, g, d, t, os⟩ := by
  obtain ⟨nm, N', qn, bs, bm, hdct, sn, sub, ab, col, dd, k0, k1, k2, k3, k5, hC, hT⟩ := excInit_of X T.ex
  refine wpAny_call (codeAny_of_tree ?_)
  show wpAny (model P w) A.in1 (callAny (.ref u) ⟨rest, []⟩) _ _ _
  simp only [callAny]
  refine wpAny_bind (wpAny_load hu ?_)
  have e1 : (Value.type "method-wrapper" == Value.type "method" || Value.type "method-wrapper" == Value.type "builtin_function_or_method" || Value.type "method-wrapper" == Value.type "method-wrapper") = true := by decide
  simp only [kxs_mw, e1, if_true]
  refine KFB.if_so (by decide) ?_
  refine wpAny_bind (check_bound_init T.fb.toExcCallFacts hC hx rfl ?_)
  refine wpAny_bind (wpAny_pure (wpAny_pure ?_))
  refine ⟨plainId_quiet T.fb.init.plain _, codeAny_builtin T.fb.initEntry ?_⟩
  exact exc_init_tree (cls := .ref C) (t0 := t0) (dv := none) (c2 := .none) (c3 := .none) (b4 := .bool false) hx hz fun h' k e _ => hq h' _ k e
theorem one_size (v : Value) : [v].length ≤ sizeLine := by
  rw [sizeLine_eq]
  exact (by decide : 1 ≤ 16777216)
theorem own_init (T : OwnX P K mg cn f B newId initId bmB C fI) {s : Shared} {x t0 : Addr} {v : Value} (X : K.In s.heap) (hlim : s.heap.NoLimit) (G : s.heap.Ns mainGlobals mg) (Bt : ∃ mb, s.heap.Ns builtinsNs mb ∧ ∀ y : Str, y ≠ "__name__" → mb y = bootBuiltins y) (hx : s.heap.get? x = some (excO C t0)) (hnx : K.lookup x = none) (hroom : A.depth < recursionLimit) {args : Args} (hargs : args = ⟨[.ref x, v], []⟩ ∨ args = ⟨[.ref x], [(f, v)]⟩ := by exact .inl rfl)
    (hq : ∀ h' tk dx t1, InitEnd s.heap h' x C dx t1 f v → R (.ok (.ret .none)) { s with heap := h', toks := tk }) :
    codeAny (model P w) A (.call (.ref fI) args) R s := by
  obtain ⟨oc, od, doc, pm, an, ct, osl, qual, m, j, p1, p2, q1, q2, q3, q4, q5, q6, r1, r2, r3, r4, cc, cda, cl, ccl, cld, cdd, csl, ccs, vs, file, tf, ho, hcd, hcell, hcode, hvs, hfile, hmc⟩ := T.fn
  obtain ⟨cd, hc, hd'⟩ := any_some T.hd
  have hnf : ∀ y ∈ (xS f).names, y.2 ≠ .cell := fun y hy => by
    simp only [xS, List.mem_cons, List.not_mem_nil, or_false] at hy
    rcases hy with rfl | rfl | rfl | rfl <;> exact fun z => nomatch z
  have hloc : ∀ y ∈ [((PySem.Str.ofString "self"), Value.ref x), (f, v)], (xS f).names.lookup y.1 = some .local := fun y hy => by
    simp only [List.mem_cons, List.not_mem_nil, or_false] at hy
    rcases hy with rfl | rfl
    · rfl
    · exact T.fo.l
  refine ks_codeAny_call_defAt (fd := fnX "__init__" qual (xA f p1 p2) (xB f m j q1 q2 q3 q4 q5 q6 r1 r2 r3 r4) (xS f) [(PySem.Str.ofString "__class__", cc)] .none .none doc pm an (.ref cda) ct) (body := xB f m j q1 q2 q3 q4 q5 q6 r1 r2 r3 r4) (binds := [(PySem.Str.ofString "self", .ref x), (f, v)])
    hroom (X _ _ ho) rfl hlim (codeRec_of X hcd) rfl (BindsTo.of_eq (by rcases hargs with rfl | rfl <;> first | exact T.fo.bd _ _ _ _ _ _ _ _ _ _ _ _ | exact T.fo.bk _ _ _ _ _ _ _ _ _ _ _ _)) hnf hloc (fun h₁ hn k => ?_)
  have X1 : K.In h₁ := X.keeps k
  have hx1 := k _ _ hx
  obtain ⟨oD, hD1, hD2⟩ : ∃ oD, h₁.get? C = some oD ∧ oD.data = .cls cd := by
    unfold clsIn at hc
    split at hc
    · rename_i c d cd' sl hK
      cases hc
      exact ⟨_, X1 _ _ hK, rfl⟩
    · cases hc
  have G1 := G.keeps k
  obtain ⟨mb, b1, b2⟩ := Bt
  have b1' := b1.keeps k
  show _root_.PySem.wpAt (model P w) _ _ (execs (xB f m j q1 q2 q3 q4 q5 q6 r1 r2 r3 r4) _) _ _ _
  refine ks_wpAt_execs_cons (ks_wpAt_Expr_any (ks_wpAt_MethodCall (ks_wpAt_super_base T.fo.s T.fo.c rfl rfl (X1 _ _ ho) rfl rfl rfl (X1 _ _ hcode) rfl hvs hfile T.top ?_) (he := hmc _)))
  refine ks_loadName_global rfl T.fo.s (loadGlobal_builtin G1 T.ms b1' ((b2 _ (by decide)).trans (by rfl)) ⟨rfl, ?_⟩)
  refine wpAny_loadName_free rfl T.fo.c rfl ⟨_, X1 _ _ hcell, rfl⟩ ?_
  have ls : ([(PySem.Str.ofString "self", Value.ref x), (f, v)] : List (Str × Value)).reverse.lookup ("self" : Str) = some (.ref x) := by
    have : ((PySem.Str.ofString "self") == f) = false := by simpa using Ne.symm T.fo.ne
    simp [List.lookup, this]
  have lf : ([(PySem.Str.ofString "self", Value.ref x), (f, v)] : List (Str × Value)).reverse.lookup f = some v := by simp [List.lookup]
  refine wpAny_loadName_local rfl rfl hn (v := .ref x) ls ?_
  refine ks_wpAny_isType_cls hD1 hD2 ⟨rfl, ?_⟩
  refine ks_wpAny_call_super hD1 hD2 hx1 rfl (fun c e => nomatch e) (looks_mroIn X1 T.sC) (fun h2 e2 k2 => ?_)
  -- the bound __init__ of the base
  have X2 : K.In h2 := X1.keeps k2
  have hx2 := k2 _ _ hx1
  have I2 : InstAt h2 x (excO C t0) C none := ⟨hx2, rfl, rfl, trivial⟩
  have hxC : x ≠ C := ks_ne X2 I2 hc
  have hsup := T.sup
  unfold ks_superIn at hsup
  rw [hc] at hsup
  have hmro : Looks (model P w) h2 (mroOf (.ref C)) cd.mro := fun A Q E s k q => wpAny_bind ((looks_clsIn X2 hc) A _ E s k (wpAny_pure q))
  refine kxs_getMethod T.kf e2 (looks_opaque X2 T.op) hmro rfl X2 hsup (I2.type.andThen (looks_subIn X2 T.sB)) hxC rfl ?_
  have k3 : ∀ b o, h2.get? b = some o → (h2.push (kxs_mw initId x)).get? b = some o := fun b o e => Heap.get?_push_of_some _ e
  have hu : (h2.push (kxs_mw initId x)).get? h2.objs.size = some (kxs_mw initId x) := Heap.get?_push_at rfl rfl
  refine kxs_callWith (i := initId) (x := x) rfl ?_
  refine evalArgs_plain (spliced_more (wpAny_Constant_str (spliced_none ?_)))
  refine ⟨hu, init_call T (X2.keeps k3) (k3 _ _ hx2) hu (one_size _) fun h4 t1 k4 hx4 => ?_⟩
  have kA : ∀ b o, b ≠ x → s.heap.get? b = some o → h4.get? b = some o := fun b o hb e => k4 b o hb (k3 b o (k2 b o (k b o e)))
  have hxL : s.heap.objs.size ≠ x := Nat.ne_of_gt (Heap.lt_size hx)
  have hn4 : h4.Ns s.heap.objs.size (fun y => ([(PySem.Str.ofString "self", Value.ref x), (f, v)] : List (Str × Value)).reverse.lookup y) := by
    obtain ⟨oL, es, ep, hL, r⟩ := hn
    exact ⟨oL, es, ep, k4 _ _ hxL (k3 _ _ (k2 _ _ hL)), r⟩
  have X4 : K.In h4 := fun a o e => k4 a o (fun z => by
    rw [z, hnx] at e
    cases e) (k3 a o (X2 a o e))
  show _root_.PySem.wpAt (model P w) _ _ (execs [.Assign [.Attribute (.Name "self" r1) f r2] (.Name f r3) r4] _) _ _ _
  refine ks_wpAt_execs_cons (ks_wpAt_Assign_Attr ?_)
  refine _root_.PySem.wpAt_of_wpAny ?_
  refine wpAny_Name (wpAny_loadName_local rfl T.fo.l hn4 lf ?_) T.fo.db
  refine wpAny_Name (wpAny_loadName_local rfl rfl hn4 ls ?_) rfl
  refine set_plain X4 (ox := excO C t1) (od := none) ⟨hx4, rfl, rfl, trivial⟩ T.sa ?_
  refine store0 T X4 hx4 fun h5 tk5 dx k5 d1 d2 hx5 n5 => ?_
  refine _root_.PySem.wpAt_of_wpAny (wpAny_execs_nil ?_)
  refine hq h5 tk5 dx t1 ⟨fun b o hb e => k5 b o hb (kA b o hb e), hx5, ?_, d2, n5⟩
  exact Nat.le_of_lt (Nat.lt_of_lt_of_le hn4.lt d1)
theorem own_made (T : OwnX P K mg cn f B newId initId bmB C fI) {s : Shared} {v : Value} (X : K.In s.heap) (hlim : s.heap.NoLimit) (G : s.heap.Ns mainGlobals mg) (Bt : ∃ mb, s.heap.Ns builtinsNs mb ∧ ∀ y : Str, y ≠ "__name__" → mb y = bootBuiltins y) (hroom : A.depth + 1 < recursionLimit)
    (hq : ∀ h' tk e d, Made s.heap h' e C d f v → R (.ok (.ret (.ref e))) { s with heap := h', toks := tk }) :
    codeAny (model P w) A (.call (.ref C) ⟨[v], []⟩) R s := by
  obtain ⟨nm, N', qn, bs, bm, hdct, sn, sub, ab, col, dd, k0, k1, k2, k3, k5, hC, hT⟩ := excInit_of X T.ex
  obtain ⟨hp, g, dr, tk, os⟩ := s
  have k : ∀ b o, hp.get? b = some o → ((hp.push (kdv_tup [v])).push (excO C hp.objs.size)).get? b = some o := fun b o e => Heap.get?_push_of_some _ (Heap.get?_push_of_some _ e)
  have hget : ((hp.push (kdv_tup [v])).push (excO C hp.objs.size)).get? (hp.objs.size + 1) = some (excO C hp.objs.size) := by heap_get
  have hnx : K.lookup (hp.objs.size + 1) = none := by
    cases e : K.lookup (hp.objs.size + 1) with
    | none => rfl
    | some o =>
      have z : hp.get? (hp.objs.size + 1) = some o := X _ _ e
      exact absurd (Nat.lt_of_succ_lt (Heap.lt_size z)) (Nat.lt_irrefl _)
  obtain ⟨mb, b1, b2⟩ := Bt
  refine call_own T.fb hT hC (looks_findIn X T.iC) (fun self => bind_fn X self T.tI) (one_size v) ?_
  refine own_init (s := ⟨(hp.push (kdv_tup [v])).push (excO C hp.objs.size), g, dr, tk, os⟩) T (X.keeps k) (hlim.keeps k) (G.keeps k) ⟨mb, b1.keeps k, b2⟩ hget hnx hroom (.inl rfl) fun h' tk' dx t1 J => ?_
  have old : ∀ b o, hp.get? b = some o → h'.get? b = some o := fun b o e => J.keep b o (Nat.ne_of_lt (Nat.lt_succ_of_lt (Heap.lt_size e))) (k b o e)
  have z : hp.objs.size + 1 + 1 ≤ dx := by
    have q := J.dbig
    first
      | exact q
      | (simpa only [Heap.size_push] using q)
  exact ⟨rfl, hq h' tk' (hp.objs.size + 1) dx ⟨old, Nat.le_succ _, ⟨_, _, J.obj, rfl, rfl, rfl, rfl⟩, Nat.le_trans (by omega : hp.objs.size ≤ hp.objs.size + 1 + 1) z, J.dne, J.ns⟩⟩
end
end DWX
namespace DW
open PySem PySem.Spec PyProof.Rows L2
theorem relO_fld {v : V} {u : Value} (r : RelV v u) (f y : Str) : RelO (List.lookup y [(f, v)]) (if y = f then some u else none) := by
  by_cases h : y = f
  · subst h
    rw [if_pos rfl]
    simp only [List.lookup, beq_self_eq_true]
    exact r
  · have h2 : (y == f) = false := by simpa using h
    rw [if_neg h]
    simp only [List.lookup, h2]
    trivial
section
variable {X : Cx} {cn f : Str} {B newId initId : String} {bmB : List Value} {C fI : Addr}
/-- X(e), an own error with the field f -/
def tMkX (C : Addr) (f : Str) (ta : TA) : L2.St → Hp → XK → Prop := fun σ H Q => ta σ H fun vs H1 => ∃ v, vs = [v] ∧ ∀ d, H1 d = none → Q (.ref C) (some d) (upd H1 d (.xd [(f, v)]))
theorem pmk_x {a : Expr} {ta : TA} {p pos : Pos} {k : Nat} (T : DWX.OwnX X.prog X.K X.mg cn f B newId initId bmB C fI) (hr : Room k X.A) (ha : PA X [a] ta) (hg : Gl X cn)
    (hd : (cn == ("__debug__" : Str)) = false) (he : starEach (a :: []) X.env = (false, eval a X.env) :: starEach [] X.env := by rfl) (hpl : (backTo pos (starEach [] X.env)).any (·.1) = false := by rfl) :
    PMk X (.Call (.Name cn p) [a] [] pos) (tMkX C f ta) := by
  intro pins s σ H Q I h
  refine wpAny_Call_Name_kw (ld_glob I hg T.gC ?_ hd)
  refine PySem.W.callWith_K (h₀ := X.base) I.ok.mod.kin T.kC (thn (ha.run pos pins s σ H _ I h) fun us s1 hh => ?_) he hpl
  obtain ⟨vs, H1, I1, r1, v, ev, q1⟩ := hh
  subst ev
  refine ⟨I1.kIn, ?_⟩
  cases r1 with
  | cons rv rn =>
    rename_i v' us'
    cases rn
    show wpAny _ _ (call (.ref C) [v']) _ _ _
    have hlim := I1.nolimit
    have hG : s1.heap.Ns mainGlobals X.mg := I1.mod.glob.keeps I1.bk
    have hB : ∃ mb, s1.heap.Ns builtinsNs mb ∧ ∀ y : Str, y ≠ "__name__" → mb y = bootBuiltins y := by
      obtain ⟨mb, b1, b2⟩ := I1.mod.blt
      exact ⟨mb, b1.keeps I1.bk, b2⟩
    obtain ⟨hp, g, dr, tk, os⟩ := s1
    refine wpAny_call (DWX.own_made T I1.kIn hlim hG hB (by have := hr.dp; omega) fun h' tk' e d M => ?_)
    show MkP X pins σ Q (.ref e) ⟨h', g, dr, tk', os⟩
    obtain ⟨oe, fv, hoe, hc, hdd, hdat, h1⟩ := M.obj
    obtain ⟨G', g1, g2⟩ := restrict h' fun b => decide (b ≠ e)
    have gk : ∀ b, b ≠ e → G'.get? b = h'.get? b := fun b hb => g1 b (decide_eq_true hb)
    have ge : G'.get? e = none := g2 e (by simp)
    have old : ∀ b o, hp.get? b = some o → G'.get? b = some o := fun b o q => (gk b (Nat.ne_of_lt (Nat.lt_of_lt_of_le (Heap.lt_size q) M.new))).trans (M.keep b o q)
    have ob : ObjOk X.prog X.w (upd H1 d (.xd [(f, v)])) G' d (.xd [(f, v)]) := ⟨_, M.ns.at (fun o q => (gk d M.dne).trans q), fun y => relO_fld rv f y⟩
    have J : Inv X pins σ (upd H1 d (.xd [(f, v)])) ⟨G', g, dr, tk', os⟩ := I1.laid (t' := tk') old M.dbig ob
    refine ⟨e, oe, fv, ⟨G', g, dr, tk', os⟩, _, .ref C, some d, rfl, J, fun b o q => ?_, ge, hoe, ⟨hc, hdd⟩, hdat, h1, ?_, rfl, I1.bare, raises_own T.bC T.tC, q1 d (I1.hok.fresh M.dbig)⟩
    · by_cases hb : b = e
      · have q' : G'.get? b = some o := q
        rw [hb, ge] at q'
        cases q'
      · exact (gk b hb).symm.trans q
    · rw [upd_ne (Ne.symm M.dne)]
      exact I1.hok.fresh M.new
end
end DW

set_option Elab.async false
set_option linter.all false
set_option maxRecDepth 100000
set_option maxHeartbeats 4000000
/-! DWX1: defs that raise, calls of them, raise, try .. except X as n: return n.f -/
namespace DW
open PySem PySem.Spec PyProof.Rows L2
def spX (g : Gx) (fn : Fn) : Sp := fun vs H Q E => ∃ H0 ds, Same H0 H ∧ TbOk g.K H0 H ∧ DaAll g.K H0 vs ds ∧ match fn ds with
  | .ok s => ∀ v H0' H', Gw ⟨H0, H, none, false⟩ H0' H' → TbOk g.K H0' H' → Same H0' H' → SlR g.K ⟨H0, H, none, false⟩ H0' H' v s → Q v H'
  | .ex e => ∀ c da H0' H', Gw ⟨H0, H, none, false⟩ H0' H' → TbOk g.K H0' H' → Same H0' H' → XR g ⟨H0, H, none, false⟩ H0' H' e c da → E c da H'
  | .bad => False
abbrev wE (E : XK) : WX := fun c d _ H => E c d H
def HasX (P : Program) (w : World) (K : PySem.W.Frag) (mg : Str → Option Value) (base : Heap) (x : Str) (ps : List Str) (fn : Fn) (k : Nat) : Prop :=
  ∃ f fd, mg x = some (.ref f) ∧ PySem.W.keepIn K (.ref f) = true ∧ Binds K fd ps [] ∧ FnG P w K mg base (L2.CX P w) k f fd ps (spX ⟨K, mg⟩ fn)
section
variable {P : Program} {w : World} {K : PySem.W.Frag} {mg : Str → Option Value} {base : Heap}
theorem fnDX {x qual : Str} {params : Arguments} {bd : List Stmt} {scope : Scope} {f : Addr} {fd : FuncData} {N ps : List Str} {k : Nat} {body : Rho → SR} (F : FunD K x qual params bd scope [] [] f fd) (S : FnScope N ps scope) (hN : ps.length ≤ N.length)
    (hb : ∀ (cdv : Value) (A : Around) (outer : List Env) (s : Shared) (H : Hp) (E : XK), Room k (A.deeper (envOfC qual scope s.heap.objs.size f cdv)) → Quiet (A.deeper (envOfC qual scope s.heap.objs.size f cdv)) →
      Takes (cxOf (L2.CX P w) P w K mg base N qual scope f cdv A outer s H E) (wE E) → PassesOwn (model P w) (cxOf (L2.CX P w) P w K mg base N qual scope f cdv A outer s H E).A (cxOf (L2.CX P w) P w K mg base N qual scope f cdv A outer s H E).env (cxOf (L2.CX P w) P w K mg base N qual scope f cdv A outer s H E).xe →
      DSs (cxOf (L2.CX P w) P w K mg base N qual scope f cdv A outer s H E) (wE E) bd body) :
    FnG P w K mg base (L2.CX P w) (k + 1) f fd ps (spX ⟨K, mg⟩ (runF ps.length N.length body)) := by
  have lem : ∀ ds : List Dt, runF ps.length N.length body ds ≠ .bad → ds.length = ps.length := fun ds h => by
    unfold runF at h
    split at h
    · assumption
    · exact absurd rfl h
  have lem2 : ∀ {vs : List V} {H : Hp} {Q : VK} {E : XK} {H0 : Hp} {ds : List Dt}, (match runF ps.length N.length body ds with
      | .ok s => ∀ v H0' H', Gw ⟨H0, H, none, false⟩ H0' H' → TbOk K H0' H' → Same H0' H' → SlR K ⟨H0, H, none, false⟩ H0' H' v s → Q v H'
      | .ex e => ∀ c da H0' H', Gw ⟨H0, H, none, false⟩ H0' H' → TbOk K H0' H' → Same H0' H' → XR ⟨K, mg⟩ ⟨H0, H, none, false⟩ H0' H' e c da → E c da H'
      | .bad => False) → ds.length = ps.length := fun {vs H Q E H0 ds} h => by
    refine lem ds fun z => ?_
    rw [z] at h
    exact h
  refine fnG F S (fun vs H Q E h => ?_) (fun cdv A outer s H vs Q E hr hq _ h => ?_)
  · obtain ⟨H0, ds, h1, tb, h2, h3⟩ := h
    rw [h2.length]
    exact lem2 (vs := vs) h3
  · obtain ⟨H0, ds, h1, tb, h2, h3⟩ := h
    have hl : ds.length = ps.length := lem2 (vs := vs) h3
    refine ⟨_, hb cdv A outer s H E hr hq (takes_of rfl rfl rfl rfl) (passes_of rfl) ⟨H0, H, none, false⟩, H0, envOf N.length ds, en_start h1 tb h2 (by omega), ?_⟩
    unfold runF at h3
    rw [if_pos hl] at h3
    cases e : body (envOf N.length ds) with
    | nx ρ' =>
      rw [e] at h3
      exact fun σ' H0' H' E' _ => h3 _ H0' H' E'.gr E'.tb E'.ex (Da.non : Da K H0' .non .non)
    | rt s ρ' =>
      rw [e] at h3
      exact fun v σ' H0' H' E' hs => h3 _ H0' H' E'.gr E'.tb E'.ex hs
    | bk _ => rw [e] at h3; exact h3.elim
    | ct _ => rw [e] at h3; exact h3.elim
    | ex x ρ' =>
      rw [e] at h3
      exact fun σ' c da H0' H' xr E' => h3 c da H0' H' E'.gr E'.tb E'.ex xr
    | bad => rw [e] at h3; exact h3.elim
theorem hasX {x : Str} {st : Stmt} {N ps : List Str} {k : Nat} {body : Rho → SR} (D : IsDef K mg x st) (S : FnScope N ps (defScope st)) (hN : ps.length ≤ N.length)
    (hbi : ∀ (kV doc pm : Value) (an : Option Addr) (cdv ct : Value) (us : List Value), us.length = ps.length → bindArgs (PySem.W.fnOf x x (defArgs st) (defBody st) (defScope st) .none kV doc pm an cdv ct) ⟨us, []⟩ = pure (ps.zip us))
    (hb : ∀ (f : Addr) (cdv : Value) (A : Around) (outer : List Env) (s : Shared) (H : Hp) (E : XK), Room k (A.deeper (envOfC x (defScope st) s.heap.objs.size f cdv)) → Quiet (A.deeper (envOfC x (defScope st) s.heap.objs.size f cdv)) →
      Takes (cxOf (L2.CX P w) P w K mg base N x (defScope st) f cdv A outer s H E) (wE E) → PassesOwn (model P w) (cxOf (L2.CX P w) P w K mg base N x (defScope st) f cdv A outer s H E).A (cxOf (L2.CX P w) P w K mg base N x (defScope st) f cdv A outer s H E).env (cxOf (L2.CX P w) P w K mg base N x (defScope st) f cdv A outer s H E).xe →
      DSs (cxOf (L2.CX P w) P w K mg base N x (defScope st) f cdv A outer s H E) (wE E) (defBody st) body) :
    HasX P w K mg base x ps (runF ps.length N.length body) (k + 1) := by
  obtain ⟨f, fd, F, hm⟩ := D
  exact ⟨f, fd, hm, F.kp, F.bindsN hbi, fnDX F S hN (hb f)⟩
end
/-! ### calls of such -/
def callX (fn : Fn) (fa : Rho → R (List Dt)) : Rho → R Dt := fun ρ => (fa ρ).bind fun ds ρ1 => match fn ds with
  | .ok (.fr d) => .ok d ρ1
  | .ex e => .ex e ρ1
  | _ => .bad
section
variable {X : Cx} {CX : CXT} {k : Nat} {f : Addr} {fd : FuncData} {ps : List Str} {sp : Sp} {E : L2.St → XK} {x : Str} {p pos : Pos} {e : Expr} {es : List Expr} {t : TA}
theorem runGS {pins : List (Addr × Obj)} {σ : L2.St} {H : Hp} {s : Shared} {Q : VK} {us : List Value} {vs : List V} (G : FnG X.prog X.w X.K X.mg X.base CX k f fd ps sp) (room : Room k X.A) (quiet : Quiet X.A) (bind : Binds X.K fd ps []) (hx : PassesAt CX X σ (E σ))
    (J : Inv X pins σ H s) (rel : Vals vs us) (h : sp vs H Q (E σ)) : wpAny (model X.prog X.w) X.A (call (.ref f) us) (EP X pins σ Q) X.xe s := by
  have hl : (us ++ []).length = ps.length := by rw [List.append_nil, ← rel.length]; exact G.len _ _ _ _ h
  have hb : BindsTo s fd ⟨us, []⟩ (ps.zip us) := by
    have := bind s us J.kIn hl
    rwa [List.append_nil] at this
  refine wpAny_call (codeAny_mono (G.run X.A X.stack s H ⟨us, []⟩ us vs Q (E σ) room quiet J.env0 hb rel h) fun res s' hq => ?_)
  match res, hq with
  | .error err, hq => exact hx pins H s err s' J hq
  | .ok (.ret u), hq => exact J.after hq
  | .ok .next, hq => exact False.elim hq
  | .ok .brk, hq => exact False.elim hq
  | .ok .cont, hq => exact False.elim hq
theorem pe_callGS (G : FnG X.prog X.w X.K X.mg X.base CX k f fd ps sp) (room : Room k X.A) (quiet : Quiet X.A) (hgl : Gl X x) (hmg : X.mg x = some (.ref f)) (keep : PySem.W.keepIn X.K (.ref f) = true) (bind : Binds X.K fd ps []) (hx : ∀ σ, PassesAt CX X σ (E σ))
    (args : PA X (e :: es) t) (hdb : (x == ("__debug__" : Str)) = false) (he : starEach (e :: es) X.env = (false, eval e X.env) :: starEach es X.env) (hpl : (backTo pos (starEach es X.env)).any (·.1) = false) :
    PE X (.Call (.Name x p) (e :: es) [] pos) (tCallS sp E t) :=
  ⟨fun pins s σ H Q J h => wpAny_Call_Name_kw (ld_glob J hgl hmg (PySem.W.callWith_K (h₀ := X.base) J.ok.mod.kin keep (thn (args.run pos pins s σ H _ J h) fun us s1 z => by
    obtain ⟨vs, H1, J1, rel, q⟩ := z
    exact ⟨J1.kIn, runGS G room quiet bind (hx σ) J1 rel q⟩) he hpl) hdb)⟩
end
section
variable {g : Gx} {F : Fm} {W : WX} {σ : L2.St} {H : Hp} {Q : VK}
theorem tCallX_of {fn : Fn} {fa : Rho → R (List Dt)} (h : tD g F W (callX fn fa) σ H Q) : tCallS (spX g fn) (WE W) (tDA g F W fa) σ H Q := by
  obtain ⟨H0, ρ, E, q⟩ := h
  refine ⟨H0, ρ, E, ?_⟩
  unfold callX at q
  cases e : fa ρ with
  | ok ds ρ1 =>
    rw [e] at q
    dsimp only [R.bind] at q
    intro vs H0' H' E' m hd
    refine ⟨H0', ds, E'.ex, E'.tb, hd, ?_⟩
    cases e2 : fn ds with
    | ok s =>
      rw [e2] at q
      cases s with
      | fr d =>
        intro v C0 C gr tt s2 hv
        obtain ⟨E3, m3⟩ := E'.postW m gr tt s2
        exact q v C0 C E3 m3 hv
      | _ => exact q.elim
    | ex x =>
      rw [e2] at q
      intro c da C0 C gr tt s2 xr
      obtain ⟨E3, m3⟩ := E'.postW m gr tt s2
      obtain ⟨nz, p, v, x1, x2, x3, x4⟩ := xr
      exact q c da C0 C ⟨nz, p, v, x1, x2, Classical.byContradiction fun z => E'.gr.st p z x3, x4⟩ E3
    | bad => rw [e2] at q; exact q.elim
  | ex x ρ1 =>
    rw [e] at q
    exact q
  | bad => rw [e] at q; exact q.elim
end
section
variable {X : Cx} {W : WX} {e : Expr} {es : List Expr} {pos p p2 : Pos} {fa : Rho → R (List Dt)} {k j : Nat} {ps : List Str} {x : Str}
theorem de_hX {fn : Fn} (h : HasX X.prog X.w X.K X.mg X.base x ps fn j) (tk : Takes X W) (hr : Room k X.A) (hq : Quiet X.A) (hjk : j ≤ k) (hg : Gl X x)
    (ha : DA X W (e :: es) fa) (hdb : (x == ("__debug__" : Str)) = false := by decide) (he : starEach (e :: es) X.env = (false, eval e X.env) :: starEach es X.env := by rfl) (hpl : (backTo pos (starEach es X.env)).any (·.1) = false := by rfl) :
    DE X W (.Call (.Name x p) (e :: es) [] pos) (callX fn fa) := by
  obtain ⟨f, fd, hm, hk, hb, G⟩ := h
  exact fun F => PE.wk (pe_callGS G (hr.mono hjk) hq hg hm hk hb (fun σ => passAt tk σ) (ha F) hdb he hpl) fun _ _ _ h => tCallX_of h
end
/-! ### raise -/
def raiseS (cls fld : Str) (f1 : Rho → R Dt) : Rho → SR := fun ρ => (f1 ρ).bindS fun d ρ1 => .ex ⟨cls, fld, d⟩ ρ1
section
variable {X : Cx} {W : WX} {cn f : Str} {B newId initId : String} {bmB : List Value} {C fI : Addr} {e : Expr} {f1 : Rho → R Dt} {p pos pos2 : Pos} {k : Nat}
theorem ds_raise (T : DWX.OwnX X.prog X.K X.mg cn f B newId initId bmB C fI) (hr : Room k X.A) (hc : X.calm = true) (tk : Takes X W) (hg : Gl X cn) (ha : DE X W e f1)
    (hd : (cn == ("__debug__" : Str)) = false := by decide) (he : starEach (e :: []) X.env = (false, eval e X.env) :: starEach [] X.env := by rfl) (hpl : (backTo pos (starEach [] X.env)).any (·.1) = false := by rfl) :
    DS X W (.Raise (some (.Call (.Name cn p) [e] [] pos)) none pos2) (raiseS cn f f1) := fun F =>
  PS.wk (ps_raise hc tk (pmk_x T hr (pa_cons (ha F) pa_nil he) hg hd he hpl)) fun D σ H h => by
    obtain ⟨H0, ρ, E, q⟩ := h
    refine ⟨H0, ρ, E, ?_⟩
    unfold raiseS at q
    cases e1 : f1 ρ with
    | ok d ρ1 =>
      rw [e1] at q
      intro v H0' H' E' m hv
      exact ⟨v, rfl, fun dx hdx => q σ (.ref C) (some dx) H0' (upd H' dx (.xd [(f, v)])) ⟨T.fo.nz, dx, v, T.gC, rfl, Classical.byContradiction fun z => E'.gr.st dx z hdx, upd_same, hv⟩ (E'.grow (gr_newO hdx) (same_newO hdx E'.ex))⟩
    | ex x ρ1 =>
      rw [e1] at q
      exact q σ
    | bad => rw [e1] at q; exact q.elim
end
end DW

set_option Elab.async false
set_option linter.all false
set_option maxRecDepth 100000
set_option maxHeartbeats 4000000
/-! OB1: defs over the store: promises, calls; values that may be references -/
namespace DW
open PySem PySem.Spec PyProof.Rows L2
/-! ### a body that may change the store -/
/-- the heap without the store's objects -/
def hide (H0 H : Hp) : Hp := fun a => match H0 a with
  | some (.tbl _) => none
  | _ => H a
theorem hide_ng {H0 H : Hp} {a : Addr} (h : NG H0 a) : hide H0 H a = H a := by
  unfold hide
  split
  · rename_i ps e
    exact absurd e (h ps)
  · rfl
theorem hide_g {H0 H : Hp} {a : Addr} {ps : Array Value} (h : H0 a = some (.tbl ps)) : hide H0 H a = none := by
  unfold hide
  rw [h]
theorem hide_some {H0 H : Hp} {a : Addr} (h : hide H0 H a ≠ none) : NG H0 a ∧ H a ≠ none := by
  have n : NG H0 a := fun ps e => h (hide_g e)
  exact ⟨n, by rw [hide_ng n] at h; exact h⟩
abbrev FmS (H0 H : Hp) (io : Option Addr) : Fm := ⟨H0, hide H0 H, io, true⟩
theorem Gw.reflS (H0 H : Hp) (io : Option Addr) : Gw (FmS H0 H io) H0 H := ⟨Same.refl _, fun a o h _ _ => by
  have h : hide H0 H a = some o := h
  rw [hide_ng (hide_some (by rw [h]; exact fun z => nomatch z)).1] at h
  exact h, fun _ _ h => h, fun a h => (hide_some h).2, fun _ _ h => h, fun a ps h => .inl ⟨rfl, hide_g h⟩⟩
def putS (S : Sto) (ρ : Rho) : Rho := ρ.set (ρ.length - 1) (some (.sto S))
section
variable {K : PySem.W.Frag} {F : Fm} {H0 H H0' H' C0 C : Hp} {σ : L2.St} {ρ : Rho} {v : V} {d : Dt} {s : Sl} {i : Nat} {a p : Addr} {o : HO} {S S' : Sto} {k : Nat}
theorem En.stF (E : En K F H0 H σ ρ) (h : stoOf ρ = some S) : F.st = true := (E.st1 _ _ (stoOf_at E h).1).2
theorem En.ghost (E : En K F H0 H σ ρ) (hF : F.st = true) {ps : Array Value} (h : H0 a = some (.tbl ps)) : F.H a = none := by
  rcases E.gr.gs a ps h with ⟨_, z⟩ | ⟨z, _⟩
  · exact z
  · rw [hF] at z
    cases z
/-- what a body that may change the store left -/
theorem En.postS (E : En K F H0 H σ ρ) (hS : stoOf ρ = some S) (g : Gw (FmS H0 H none) C0 C) (t : TbOk K C0 C) (e : Same C0 C) (R : StoR K C0 C S') :
    En K F C0 C σ (putS S' ρ) ∧ Mv σ ρ (putS S' ρ) H0 H C0 C := by
  have hF := E.stF hS
  obtain ⟨hlast, R0⟩ := stoOf_at E hS
  have ng : ∀ b, F.H b ≠ none → NG H0 b := fun b hb ps z => hb (E.ghost hF z)
  have hd : ∀ b, NG H0 b → hide H0 H b = H b := fun b h => hide_ng h
  have kp : ∀ b u, H b = some u → NT u → NG H0 b → C b = some u := fun b u hb nt n => g.keep b u (by show hide H0 H b = _; rw [hd b n]; exact hb) nt (fun z => nomatch z)
  have off : ∀ b, H b ≠ none → H0 b = none → C0 b = none := fun b hb h0 => g.off b (by show hide H0 H b ≠ none; rw [hd b (ng_none h0)]; exact hb) h0
  have st : ∀ b, H b ≠ none → C b ≠ none := fun b hb => by
    by_cases n : NG H0 b
    · exact g.st b (by show hide H0 H b ≠ none; rw [hd b n]; exact hb)
    · obtain ⟨ps, z⟩ := Classical.not_forall.mp n
      exact (e b _ (g.gk b ps (Classical.not_not.mp z))).2
  have get : ∀ (j : Nat) (t : Sl), (putS S' ρ)[j]? = some (some t) → (j = ρ.length - 1 ∧ t = .sto S') ∨ (j ≠ ρ.length - 1 ∧ ρ[j]? = some (some t)) := fun j t h => by
    rcases set_get h with ⟨h1, h2⟩ | ⟨h1, h2⟩
    · exact .inl ⟨h1, (Option.some.inj h2)⟩
    · exact .inr ⟨h1, h2⟩
  have nost : ∀ (j : Nat) (T : Sto), ρ[j]? = some (some (.sto T)) → j = ρ.length - 1 := fun j T h => by have := (E.st1 j T h).1; omega
  obtain ⟨w, hw, _⟩ := E.sl _ _ hlast
  have hlen : (putS S' ρ).length = ρ.length := List.length_set
  refine ⟨⟨⟨E.gr.b0.trans g.b0, fun b u hb nt hio => kp b u (E.gr.keep b u hb nt hio) nt (ng b (by rw [hb]; exact fun z => nomatch z)), fun b hb h0 => off b (E.still hb) (E.gr.off b hb h0), fun b hb => st b (E.still hb), fun b ps h => g.gk b ps (E.gr.gk b ps h), fun b ps h => ?_⟩, t, e, by rw [hlen]; exact E.len, fun j t h => ?_, fun j k t u b hjk e1 e2 o1 o2 y1 y2 => ?_, fun b hb => ?_, fun j kvs h => ?_, fun j T h => ?_⟩, ⟨g.b0, fun b u hb nt n _ => kp b u hb nt n, fun b hb h0 _ => off b hb h0, fun b ⟨j, t, h1, h2, h3⟩ => ?_, st, g.gk⟩⟩
  · refine .inl ⟨hF, ?_⟩
    rcases g.gs b ps h with ⟨_, z⟩ | ⟨z, _⟩
    · refine Classical.byContradiction fun y => ?_
      have z : hide H0 H b = none := z
      rw [hd b (ng b y)] at z
      exact E.still y z
    · cases z
  · rcases get j t h with ⟨h1, rfl⟩ | ⟨h1, h2⟩
    · exact ⟨w, by rw [h1]; exact hw, R⟩
    · obtain ⟨x, y1, y2⟩ := E.sl j t h2
      refine ⟨x, y1, ?_⟩
      cases t with
      | fr d => exact Da.mono g.b0 y2
      | ol ds =>
        obtain ⟨c, us, rfl, q1, q2, q3, q4⟩ := y2
        exact ⟨c, us, rfl, off c (by rw [q3]; exact fun z => nomatch z) q1, q2, kp c _ q3 (nt_lst _) (ng_none q1), q4.mono g.b0⟩
      | od ds =>
        obtain ⟨c, us, rfl, q1, q2, q3, q4⟩ := y2
        exact ⟨c, us, rfl, off c (by rw [q3]; exact fun z => nomatch z) q1, q2, kp c _ q3 (nt_dK _) (ng_none q1), q4.mono g.b0⟩
      | raw u _ => exact y2
      | rf k =>
        obtain ⟨c, rfl, q⟩ := y2
        exact ⟨c, rfl, g.gk _ _ q⟩
      | sto T => exact absurd (nost j T h2) h1
      | io ds =>
        obtain ⟨c, us, rfl, q1, q2, q3, q4⟩ := y2
        exact ⟨c, us, rfl, off c (by rw [q3]; exact fun z => nomatch z) q1, q2, kp c _ q3 (nt_dK _) (ng_none q1), q4.mono g.b0⟩
  · rcases get j t e1 with ⟨_, rfl⟩ | ⟨_, z1⟩
    · cases o1
    · rcases get k u e2 with ⟨_, rfl⟩ | ⟨_, z2⟩
      · cases o2
      · exact E.sep j k t u b hjk z1 z2 o1 o2 y1 y2
  · obtain ⟨y1, ⟨kvs, y2⟩, y3⟩ := E.io b hb
    have n0 : ρ.length - 1 ≠ 0 := fun z => by
      rw [z, y2] at hlast
      cases hlast
    exact ⟨y1, ⟨kvs, by unfold putS; rw [List.getElem?_set_ne n0]; exact y2⟩, y3⟩
  · rcases get j _ h with ⟨_, z⟩ | ⟨_, z⟩
    · cases z
    · exact E.io1 j kvs z
  · rw [hlen]
    rcases get j _ h with ⟨h1, z⟩ | ⟨_, z⟩
    · have := (E.st1 _ _ hlast).1
      exact ⟨by omega, hF⟩
    · exact E.st1 j T z
  · rcases get j t h1 with ⟨_, rfl⟩ | ⟨_, z⟩
    · cases h2
    · exact ⟨j, t, z, h2, h3⟩
theorem stoOf_put (E : En K F H0 H σ ρ) (hS : stoOf ρ = some S) : stoOf (putS S' ρ) = some S' := by
  obtain ⟨hlast, _⟩ := stoOf_at E hS
  have hl := lt_of_get hlast
  unfold stoOf putS
  rw [List.getLast?_eq_getElem?, List.length_set, List.getElem?_set_self hl]
end
/-! ### arguments -/
def slOf : Sv → Sl
  | .d x => .fr x
  | .r k => .rf k
inductive SvAll (K : PySem.W.Frag) (H0 : Hp) : List V → List Sv → Prop
  | nil : SvAll K H0 [] []
  | cons {v : V} {x : Sv} {vs : List V} {xs : List Sv} : SvR K H0 v x → SvAll K H0 vs xs → SvAll K H0 (v :: vs) (x :: xs)
section
variable {K : PySem.W.Frag} {F : Fm} {H0 H H0' H' : Hp} {σ : L2.St} {ρ ρ' : Rho} {v : V}
theorem SvAll.length : ∀ {vs : List V} {xs : List Sv}, SvAll K H0 vs xs → vs.length = xs.length
  | _, _, .nil => rfl
  | _, _, .cons _ h => congrArg (· + 1) h.length
theorem SvAll.mono (e : Same H0 H0') (g : ∀ a ps, H0 a = some (.tbl ps) → H0' a = some (.tbl ps)) : ∀ {vs : List V} {xs : List Sv}, SvAll K H0 vs xs → SvAll K H0' vs xs
  | _, _, .nil => .nil
  | _, _, .cons h1 h2 => .cons (h1.mono e g) (SvAll.mono e g h2)
theorem SvAll.get : ∀ {vs : List V} {xs : List Sv} {i : Nat} {x : Sv}, SvAll K H0 vs xs → xs[i]? = some x → ∃ v, vs[i]? = some v ∧ SvR K H0 v x
  | _, _, _, _, .nil, e => by simp at e
  | _, _, 0, _, .cons h _, e => by
    simp at e
    subst e
    exact ⟨_, rfl, h⟩
  | _, _, i + 1, _, .cons _ h, e => by
    simp at e
    obtain ⟨v, h1, h2⟩ := h.get e
    exact ⟨v, by simpa using h1, h2⟩
theorem SvR.sl {x : Sv} (h : SvR K H0 v x) : SlR K F H0 H v (slOf x) := by
  cases x with
  | d x => exact h
  | r k => exact h
end
/-! ### what a def over the store does -/
inductive FS where
  | ok (s : Sv) (S : Sto) | ex (e : Xc) (S : Sto) | bad
abbrev FnS := List Sv → Sto → FS
def envS (n : Nat) (as : List Sv) (S : Sto) : Rho := (as.map (fun a => some (slOf a)) ++ List.replicate (n - as.length) none) ++ [some (.sto S)]
def svOf : Sl → Option Sv
  | .fr d => some (.d d)
  | .ol xs => none
  | .rf k => some (.r k)
  | _ => none
def runS (np nn : Nat) (body : Rho → SR) : FnS := fun as S => if as.length = np then match body (envS nn as S) with
  | .rt s ρ => (match svOf s, stoOf ρ with
    | some x, some S' => .ok x S'
    | _, _ => .bad)
  | .nx ρ => (match stoOf ρ with
    | some S' => .ok (.d .non) S'
    | none => .bad)
  | .ex e ρ => (match stoOf ρ with
    | some S' => .ex e S'
    | none => .bad)
  | _ => .bad
  else .bad
def spS (g : Gx) (fn : FnS) : Sp := fun vs H Q E => ∃ H0 as S, Same H0 H ∧ TbOk g.K H0 H ∧ SvAll g.K H0 vs as ∧ StoR g.K H0 H S ∧ match fn as S with
  | .ok s S' => ∀ v H0' H', Gw (FmS H0 H none) H0' H' → TbOk g.K H0' H' → Same H0' H' → StoR g.K H0' H' S' → SvR g.K H0' v s → Q v H'
  | .ex e S' => ∀ c da H0' H', Gw (FmS H0 H none) H0' H' → TbOk g.K H0' H' → Same H0' H' → StoR g.K H0' H' S' → XR g (FmS H0 H none) H0' H' e c da → E c da H'
  | .bad => False
def FunS (P : Program) (w : World) (K : PySem.W.Frag) (mg : Str → Option Value) (base : Heap) (f : Addr) (ps : List Str) (fn : FnS) (k : Nat) : Prop :=
  ∃ fd, PySem.W.keepIn K (.ref f) = true ∧ Binds K fd ps [] ∧ FnG P w K mg base (L2.CX P w) k f fd ps (spS ⟨K, mg⟩ fn)
def HasS (P : Program) (w : World) (K : PySem.W.Frag) (mg : Str → Option Value) (base : Heap) (x : Str) (ps : List Str) (fn : FnS) (k : Nat) : Prop :=
  ∃ f, mg x = some (.ref f) ∧ FunS P w K mg base f ps fn k
theorem envS_get {n : Nat} {as : List Sv} {S : Sto} {i : Nat} {s : Sl} (hn : as.length ≤ n) (h : (envS n as S)[i]? = some (some s)) : (∃ x, s = slOf x ∧ as[i]? = some x) ∨ (i = n ∧ s = .sto S) := by
  unfold envS at h
  have hl : (as.map (fun a => some (slOf a)) ++ List.replicate (n - as.length) none).length = n := by simp; omega
  by_cases hi : i < n
  · rw [List.getElem?_append_left (by rw [hl]; exact hi)] at h
    left
    by_cases hi2 : i < as.length
    · rw [List.getElem?_append_left (by simpa using hi2), List.getElem?_map] at h
      cases e : as[i]? with
      | none => rw [e] at h; cases h
      | some x =>
        rw [e] at h
        exact ⟨x, (Option.some.inj (Option.some.inj h)).symm, rfl⟩
    · rw [List.getElem?_append_right (by simpa using Nat.le_of_not_lt hi2)] at h
      obtain ⟨h1, h2⟩ := List.getElem?_eq_some_iff.mp h
      rw [List.getElem_replicate] at h2
      cases h2
  · right
    rw [List.getElem?_append_right (by rw [hl]; omega), hl] at h
    have h0 := lt_of_get h
    have hz : i = n := by
      have : i - n < 1 := h0
      omega
    subst hz
    rw [Nat.sub_self] at h
    exact ⟨rfl, (Option.some.inj (Option.some.inj h)).symm⟩
theorem envS_len {n : Nat} {as : List Sv} {S : Sto} (hn : as.length ≤ n) : (envS n as S).length = n + 1 := by
  unfold envS
  simp
  omega
/-- σ with the store's slot filled -/
abbrev startS (N : List Str) (vs : List V) : L2.St := (L2.start N vs).set (N.length - 1) (some .non)
theorem en_startS {K : PySem.W.Frag} {H0 H : Hp} {N : List Str} {n : Nat} {vs : List V} {as : List Sv} {S : Sto} (hN : N.length = n + 1) (s : Same H0 H) (t : TbOk K H0 H) (h : SvAll K H0 vs as) (R : StoR K H0 H S) (hl : as.length ≤ n) :
    En K (FmS H0 H none) H0 H (startS N vs) (envS n as S) where
  gr := Gw.reflS H0 H none
  tb := t
  ex := s
  len := by
    rw [envS_len hl]
    unfold startS L2.start
    simp only [List.length_set, List.length_append, List.length_map, List.length_replicate, h.length]
    omega
  sl := fun i s hs => by
    rcases envS_get hl hs with ⟨x, rfl, hx⟩ | ⟨rfl, rfl⟩
    · obtain ⟨v, h1, h2⟩ := h.get hx
      have hi : N.length - 1 ≠ i := by
        have := lt_of_get hx
        omega
      exact ⟨v, by unfold startS; rw [List.getElem?_set_ne hi]; exact start_get h1, h2.sl⟩
    · refine ⟨.non, ?_, R⟩
      unfold startS
      have e : N.length - 1 = i := by omega
      rw [e, List.getElem?_set_self]
      unfold L2.start
      simp only [List.length_append, List.length_map, List.length_replicate, h.length]
      omega
  sep := fun i j s t a _ h1 _ o1 _ _ => by
    rcases envS_get hl h1 with ⟨x, rfl, _⟩ | ⟨_, rfl⟩
    · cases x <;> cases o1
    · cases o1
  io := fun a z => nomatch z
  io1 := fun i kvs h => by
    rcases envS_get hl h with ⟨x, z, _⟩ | ⟨_, z⟩
    · cases x <;> cases z
    · cases z
  st1 := fun i T h => by
    rw [envS_len hl]
    rcases envS_get hl h with ⟨x, z, _⟩ | ⟨z, _⟩
    · cases x <;> cases z
    · exact ⟨by rw [z], rfl⟩
/-! ### a name that is none: its slot is free -/
theorem inv_gho {X : Cx} {pins : List (Addr × Obj)} {σ : L2.St} {H : Hp} {s : Shared} (I : Inv X pins σ H s) {i : Nat} {y : Str} (hy : X.N[i]? = some y) (hv : ¬ Vis X.env.scope y) (x : Option V) : Inv X pins (σ.set i x) H s :=
  ⟨I.ok, I.os, I.bare, I.base, let ⟨m, h1, h2⟩ := I.loc; ⟨m, h1, fun j z v e1 e2 e3 => by
    by_cases hij : i = j
    · subst hij
      rw [hy] at e1
      cases e1
      exact absurd e3 hv
    · rw [List.getElem?_set_ne hij] at e2
      exact h2 j z v e1 e2 e3⟩, I.cell, I.free, I.freeC, I.pin, I.hok, by rw [List.length_set]; exact I.len⟩
theorem pss_gho {X : Cx} {b : List Stmt} {t : TS} (h : PSs X b t) {i : Nat} {y : Str} (hy : X.N[i]? = some y) (hv : ¬ Vis X.env.scope y) (x : Option V) : PSs X b (fun D σ H => t D (σ.set i x) H) :=
  ⟨fun pins s σ H D I q => h.run pins s (σ.set i x) H D (inv_gho I hy hv x) q⟩
section
variable {P : Program} {w : World} {K : PySem.W.Frag} {mg : Str → Option Value} {base : Heap}
/-- a def's promise from its body -/
theorem fnDS {x qual : Str} {params : Arguments} {bd : List Stmt} {scope : Scope} {kws : List (Str × V)} {f : Addr} {fd : FuncData} {N ps : List Str} {n k : Nat} {y : Str} {body : Rho → SR} (F : FunD K x qual params bd scope [] kws f fd) (S : FnScope N ps scope) (hN : N.length = n + 1) (hn : ps.length ≤ n) (hy : N[n]? = some y) (hv : ¬ Vis scope y)
    (hb : ∀ (cdv : Value) (A : Around) (outer : List Env) (s : Shared) (H : Hp) (E : XK), Room k (A.deeper (envOfC qual scope s.heap.objs.size f cdv)) → Quiet (A.deeper (envOfC qual scope s.heap.objs.size f cdv)) → CdOk K f cdv →
      Takes (cxOf (L2.CX P w) P w K mg base N qual scope f cdv A outer s H E) (wE E) → PassesOwn (model P w) (cxOf (L2.CX P w) P w K mg base N qual scope f cdv A outer s H E).A (cxOf (L2.CX P w) P w K mg base N qual scope f cdv A outer s H E).env (cxOf (L2.CX P w) P w K mg base N qual scope f cdv A outer s H E).xe →
      DSs (cxOf (L2.CX P w) P w K mg base N qual scope f cdv A outer s H E) (wE E) bd body) :
    FnG P w K mg base (L2.CX P w) (k + 1) f fd ps (spS ⟨K, mg⟩ (runS ps.length n body)) := by
  have lem : ∀ (as : List Sv) (T : Sto), runS ps.length n body as T ≠ .bad → as.length = ps.length := fun as T h => by
    unfold runS at h
    split at h
    · assumption
    · exact absurd rfl h
  have lem2 : ∀ {vs : List V} {H : Hp} {Q : VK} {E : XK}, spS ⟨K, mg⟩ (runS ps.length n body) vs H Q E → vs.length = ps.length := fun {vs H Q E} ⟨H0, as, T, h1, tb, h2, R, h3⟩ => by
    rw [h2.length]
    refine lem as T fun z => ?_
    rw [z] at h3
    exact h3
  refine fnG F S (fun vs H Q E h => lem2 h) (fun cdv A outer s H vs Q E hr hq hcd h => ?_)
  have hvl := lem2 h
  obtain ⟨H0, as, T, h1, tb, h2, R, h3⟩ := h
  have hl : as.length = ps.length := by rw [← h2.length]; exact hvl
  refine ⟨_, pss_gho (hb cdv A outer s H E hr hq hcd (takes_of rfl rfl rfl rfl) (passes_of rfl) (FmS H0 H none)) (i := n) (y := y) hy hv (some .non), H0, envS n as T, ?_, ?_⟩
  · have e : n = N.length - 1 := by omega
    rw [e]
    exact en_startS (by omega) h1 tb h2 R (by omega)
  unfold runS at h3
  rw [if_pos hl] at h3
  have atS : ∀ {σ' : L2.St} {ρ' : Rho} {H0' H' : Hp} {S' : Sto}, En K (FmS H0 H none) H0' H' σ' ρ' → stoOf ρ' = some S' → StoR K H0' H' S' := fun {σ' ρ' H0' H' S'} E' e => (stoOf_at E' e).2
  cases e : body (envS n as T) with
  | nx ρ' =>
    rw [e] at h3
    intro σ' H0' H' E' _
    dsimp only at h3
    cases e2 : stoOf ρ' with
    | none => rw [e2] at h3; exact h3.elim
    | some S' =>
      rw [e2] at h3
      exact h3 _ H0' H' E'.gr E'.tb E'.ex (atS E' e2) (Da.non : Da K H0' .non .non)
  | rt s ρ' =>
    rw [e] at h3
    intro v σ' H0' H' E' hs
    dsimp only at h3
    cases e1 : svOf s with
    | none => rw [e1] at h3; exact h3.elim
    | some x =>
      rw [e1] at h3
      cases e2 : stoOf ρ' with
      | none => rw [e2] at h3; exact h3.elim
      | some S' =>
        rw [e2] at h3
        refine h3 _ H0' H' E'.gr E'.tb E'.ex (atS E' e2) ?_
        cases s with
        | fr d => cases e1; exact hs
        | rf k => cases e1; exact hs
        | _ => cases e1
  | bk _ => rw [e] at h3; exact h3.elim
  | ct _ => rw [e] at h3; exact h3.elim
  | ex x ρ' =>
    rw [e] at h3
    dsimp only at h3
    intro σ' c da H0' H' xr E'
    cases e2 : stoOf ρ' with
    | none => rw [e2] at h3; exact h3.elim
    | some S' =>
      rw [e2] at h3
      exact h3 c da H0' H' E'.gr E'.tb E'.ex (atS E' e2) xr
  | bad => rw [e] at h3; exact h3.elim
end
end DW

set_option Elab.async false
set_option linter.all false
set_option maxRecDepth 100000
set_option maxHeartbeats 4000000
/-! OB2: values that may be references: names, arguments, calls, attributes, methods, properties -/
namespace DW
open PySem PySem.Spec PyProof.Rows L2
def tV (g : Gx) (F : Fm) (W : WX) (f : Rho → R Sv) : TE := fun σ H Q => ∃ H0 ρ, En g.K F H0 H σ ρ ∧ match f ρ with
  | .ok x ρ' => ∀ v H0' H', En g.K F H0' H' σ ρ' → Mv σ ρ ρ' H0 H H0' H' → SvR g.K H0' v x → Q v H'
  | .ex e ρ' => XW g F W σ e ρ'
  | .bad => False
def DV (X : Cx) (W : WX) (e : Expr) (f : Rho → R Sv) : Prop := ∀ F, PE X e (tV (gx X) F W f)
def tVA (g : Gx) (F : Fm) (W : WX) (f : Rho → R (List Sv)) : TA := fun σ H Q => ∃ H0 ρ, En g.K F H0 H σ ρ ∧ match f ρ with
  | .ok xs ρ' => ∀ vs H0' H', En g.K F H0' H' σ ρ' → Mv σ ρ ρ' H0 H H0' H' → SvAll g.K H0' vs xs → Q vs H'
  | .ex e ρ' => XW g F W σ e ρ'
  | .bad => False
def DVA (X : Cx) (W : WX) (es : List Expr) (f : Rho → R (List Sv)) : Prop := ∀ F, PA X es (tVA (gx X) F W f)
def dV (f : Rho → R Dt) : Rho → R Sv := fun ρ => (f ρ).bind fun d ρ1 => .ok (.d d) ρ1
def vD (f : Rho → R Sv) : Rho → R Dt := fun ρ => (f ρ).bind fun x ρ1 => match x with
  | .d d => .ok d ρ1
  | .r _ => .bad
def vO (f : Rho → R Sv) : Rho → R Sl := fun ρ => (f ρ).bind fun x ρ1 => .ok (slOf x) ρ1
def varV (i : Nat) : Rho → R Sv := fun ρ => match (ρ[i]? : Option (Option Sl)) with
  | some (some (.rf k)) => .ok (.r k) ρ
  | _ => dV (var i) ρ
def nilV : Rho → R (List Sv) := fun ρ => .ok [] ρ
def consV (f : Rho → R Sv) (fr : Rho → R (List Sv)) : Rho → R (List Sv) := fun ρ => (f ρ).bind fun x ρ1 => (fr ρ1).bind fun xs ρ2 => .ok (x :: xs) ρ2
section
variable {X : Cx} {W : WX} {e o : Expr} {es : List Expr} {f : Rho → R Sv} {f1 : Rho → R Dt} {fr : Rho → R (List Sv)} {i : Nat}
theorem dv_of (h : DE X W e f1) : DV X W e (dV f1) := fun F => PE.wk (h F) fun σ H Q ⟨H0, ρ, E, q⟩ => by
  refine ⟨H0, ρ, E, ?_⟩
  unfold dV at q
  cases e1 : f1 ρ with
  | ok d ρ1 => rw [e1] at q; exact fun v H0' H' E' m hd => q v H0' H' E' m hd
  | ex x ρ1 => rw [e1] at q; exact q
  | bad => rw [e1] at q; exact q
theorem de_dv (h : DV X W e f) : DE X W e (vD f) := fun F => PE.wk (h F) fun σ H Q ⟨H0, ρ, E, q⟩ => by
  refine ⟨H0, ρ, E, ?_⟩
  unfold vD at q
  cases e1 : f ρ with
  | ok x ρ1 =>
    rw [e1] at q
    cases x with
    | d d => exact fun v H0' H' E' m hd => q v H0' H' E' m hd
    | r k => exact q.elim
  | ex x ρ1 => rw [e1] at q; exact q
  | bad => rw [e1] at q; exact q
theorem do_dv (h : DV X W e f) : DO X W e (vO f) := fun F => PE.wk (h F) fun σ H Q ⟨H0, ρ, E, q⟩ => by
  refine ⟨H0, ρ, E, ?_⟩
  unfold vO at q
  cases e1 : f ρ with
  | ok x ρ1 =>
    rw [e1] at q
    exact fun v H0' H' E' m hd => q v H0' H' E' m hd.sl (fun z => by cases x <;> cases z)
  | ex x ρ1 => rw [e1] at q; exact q
  | bad => rw [e1] at q; exact q
theorem dv_var (h : PE X e (tVar i)) : DV X W e (varV i) := fun F => PE.wk h fun σ H Q ⟨H0, ρ, E, q⟩ => by
  by_cases hz : ∃ k, ρ[i]? = some (some (.rf k))
  · obtain ⟨k, hz⟩ := hz
    have e1 : varV i ρ = .ok (.r k) ρ := by unfold varV; rw [hz]
    rw [e1] at q
    obtain ⟨v, h1, h2⟩ := E.sl i _ hz
    exact ⟨v, h1, q v H0 H E Mv.refl h2⟩
  · have e1 : varV i ρ = dV (var i) ρ := by
      unfold varV
      split
      · rename_i k h
        exact absurd ⟨k, h⟩ hz
      · rfl
    rw [e1] at q
    refine tD_var (g := gx X) (F := F) (W := W) ⟨H0, ρ, E, ?_⟩
    unfold dV at q
    cases e2 : var i ρ with
    | ok d ρ1 => rw [e2] at q; exact fun v H0' H' E' m hd => q v H0' H' E' m hd
    | ex x ρ1 => rw [e2] at q; exact q
    | bad => rw [e2] at q; exact q
theorem dva_nil : DVA X W [] nilV := fun F => PA.wk pa_nil fun σ H Q ⟨H0, ρ, E, q⟩ => q [] H0 H E Mv.refl .nil
theorem dva_cons (ha : DV X W e f) (hr : DVA X W es fr) (he : starEach (e :: es) X.env = (false, eval e X.env) :: starEach es X.env := by rfl) : DVA X W (e :: es) (consV f fr) := fun F => PA.wk (pa_cons (ha F) (hr F) he) fun σ H Q ⟨H0, ρ, E, q⟩ => by
  refine ⟨H0, ρ, E, ?_⟩
  unfold consV at q
  cases e1 : f ρ with
  | ok x ρ1 =>
    rw [e1] at q
    dsimp only [R.bind] at q
    intro v H0' H' E1 m1 hx
    refine ⟨H0', ρ1, E1, ?_⟩
    cases e2 : fr ρ1 with
    | ok xs ρ2 =>
      rw [e2] at q
      exact fun vs B0 B E2 m2 hxs => q (v :: vs) B0 B E2 (m1.trans m2) (.cons (hx.mono m2.b0 m2.gk) hxs)
    | ex x ρ2 => rw [e2] at q; exact q
    | bad => rw [e2] at q; exact q
  | ex x ρ1 => rw [e1] at q; exact q
  | bad => rw [e1] at q; exact q
end
/-! ### a def over the store runs -/
def runAt (fn : FnS) (as : List Sv) (ρ : Rho) : R Sv := match stoOf ρ with
  | none => .bad
  | some S => match fn as S with
    | .ok x S' => .ok x (putS S' ρ)
    | .ex e S' => .ex e (putS S' ρ)
    | .bad => .bad
section
variable {g : Gx} {F : Fm} {W : WX} {σ : L2.St} {H0 H : Hp} {ρ : Rho} {Q : VK}
theorem sp_at {fn : FnS} {as : List Sv} {vs : List V} (E : En g.K F H0 H σ ρ) (ha : SvAll g.K H0 vs as) (q : match runAt fn as ρ with
    | .ok x ρ' => ∀ v H0' H', En g.K F H0' H' σ ρ' → Mv σ ρ ρ' H0 H H0' H' → SvR g.K H0' v x → Q v H'
    | .ex e ρ' => XW g F W σ e ρ'
    | .bad => False) : spS g fn vs H Q (WE W σ) := by
  unfold runAt at q
  cases hS : stoOf ρ with
  | none => rw [hS] at q; exact q.elim
  | some S =>
    rw [hS] at q
    dsimp only at q
    refine ⟨H0, as, S, E.ex, E.tb, ha, (stoOf_at E hS).2, ?_⟩
    cases e : fn as S with
    | ok x S' =>
      rw [e] at q
      intro v H0' H' gw tb sm R hx
      obtain ⟨E2, m2⟩ := E.postS hS gw tb sm R
      exact q v H0' H' E2 m2 hx
    | ex x S' =>
      rw [e] at q
      intro c da H0' H' gw tb sm R xr
      obtain ⟨E2, m2⟩ := E.postS hS gw tb sm R
      obtain ⟨nz, p, v, x1, x2, x3, x4, x5⟩ := xr
      refine q c da H0' H' ⟨nz, p, v, x1, x2, Classical.byContradiction fun z => ?_, x4, x5⟩ E2
      have hF := E.stF hS
      have ng : NG H0 p := fun ps y => z (E.ghost hF y)
      have x3 : hide H0 H p = none := x3
      rw [hide_ng ng] at x3
      exact E.still z x3
    | bad => rw [e] at q; exact q.elim
end
def callS (fn : FnS) (fa : Rho → R (List Sv)) : Rho → R Sv := fun ρ => (fa ρ).bind fun as ρ1 => runAt fn as ρ1
section
variable {g : Gx} {F : Fm} {W : WX} {σ : L2.St} {H : Hp} {Q : VK}
theorem run_mv {fn : FnS} {as : List Sv} {ρ ρ1 : Rho} {H0 H B0 B : Hp} (m : Mv σ ρ ρ1 B0 B H0 H) (q : match runAt fn as ρ1 with
    | .ok x ρ' => ∀ v H0' H', En g.K F H0' H' σ ρ' → Mv σ ρ ρ' B0 B H0' H' → SvR g.K H0' v x → Q v H'
    | .ex e ρ' => XW g F W σ e ρ'
    | .bad => False) : match runAt fn as ρ1 with
    | .ok x ρ' => ∀ v H0' H', En g.K F H0' H' σ ρ' → Mv σ ρ1 ρ' H0 H H0' H' → SvR g.K H0' v x → Q v H'
    | .ex e ρ' => XW g F W σ e ρ'
    | .bad => False := by
  cases e : runAt fn as ρ1 with
  | ok x ρ' => rw [e] at q; exact fun v H0' H' E' m' hx => q v H0' H' E' (m.trans m') hx
  | ex x ρ' => rw [e] at q; exact q
  | bad => rw [e] at q; exact q
theorem tCallSS_of {fn : FnS} {fa : Rho → R (List Sv)} (h : tV g F W (callS fn fa) σ H Q) : tCallS (spS g fn) (WE W) (tVA g F W fa) σ H Q := by
  obtain ⟨H0, ρ, E, q⟩ := h
  refine ⟨H0, ρ, E, ?_⟩
  unfold callS at q
  cases e : fa ρ with
  | ok as ρ1 =>
    rw [e] at q
    exact fun vs H0' H' E' m hd => sp_at E' hd (run_mv m q)
  | ex x ρ1 => rw [e] at q; exact q
  | bad => rw [e] at q; exact q
end
section
variable {X : Cx} {W : WX} {CX : CXT} {e o : Expr} {es : List Expr} {pos p apos : Pos} {k j : Nat} {ps : List Str} {x m f : Str} {fn : FnS} {fa : Rho → R (List Sv)} {fe : Rho → R Sv} {C fad gad pad : Addr} {fd : FuncData} {sp : Sp} {t : TA} {ta : TE} {EE : L2.St → XK}
theorem dv_h (h : HasS X.prog X.w X.K X.mg X.base x ps fn j) (tk : Takes X W) (hr : Room k X.A) (hq : Quiet X.A) (hjk : j ≤ k) (hg : Gl X x)
    (ha : DVA X W (e :: es) fa) (hdb : (x == ("__debug__" : Str)) = false := by decide) (he : starEach (e :: es) X.env = (false, eval e X.env) :: starEach es X.env := by rfl) (hpl : (backTo pos (starEach es X.env)).any (·.1) = false := by rfl) :
    DV X W (.Call (.Name x p) (e :: es) [] pos) (callS fn fa) := by
  obtain ⟨f, hm, fd, hk, hb, G⟩ := h
  exact fun F => PE.wk (pe_callGS G (hr.mono hjk) hq hg hm hk hb (fun σ => passAt tk σ) (ha F) hdb he hpl) fun _ _ _ h => tCallSS_of h
theorem pe_callGS0 (G : FnG X.prog X.w X.K X.mg X.base CX k fad fd ps sp) (room : Room k X.A) (quiet : Quiet X.A) (hgl : Gl X x) (hmg : X.mg x = some (.ref fad)) (keep : PySem.W.keepIn X.K (.ref fad) = true) (bind : Binds X.K fd ps []) (hx : ∀ σ, PassesAt CX X σ (EE σ))
    (hdb : (x == ("__debug__" : Str)) = false) : PE X (.Call (.Name x p) [] [] pos) (tCallS sp EE tNil) :=
  ⟨fun pins s σ H Q J h => wpAny_Call_Name_kw (ld_glob J hgl hmg (PySem.W.callWith_K0 J.kIn keep (runGS (us := []) (vs := []) G room quiet bind (hx σ) J .nil h)) hdb)⟩
theorem dv_h0 (h : HasS X.prog X.w X.K X.mg X.base x ps fn j) (tk : Takes X W) (hr : Room k X.A) (hq : Quiet X.A) (hjk : j ≤ k) (hg : Gl X x) (hdb : (x == ("__debug__" : Str)) = false := by decide) :
    DV X W (.Call (.Name x p) [] [] pos) (callS fn nilV) := by
  obtain ⟨f, hm, fd, hk, hb, G⟩ := h
  exact fun F => PE.wk (pe_callGS0 G (hr.mono hjk) hq hg hm hk hb (fun σ => passAt tk σ) hdb) fun σ H Q h => by
    obtain ⟨H0, ρ, E, q⟩ := tCallSS_of h
    exact q [] H0 H E Mv.refl .nil
end
/-! ### objects: what stands at a reference -/
def insAt (cls : Str) (x : Sv) (ρ : Rho) : Option (List (Str × Sv)) := match x with
  | .r k => (match stoOf ρ with
    | some S => (match (S[k]? : Option Ob) with
      | some (.ins c fs) => if c = cls then some fs else none
      | _ => none)
    | none => none)
  | .d _ => none
section
variable {K : PySem.W.Frag} {F : Fm} {H0 H : Hp} {σ : L2.St} {ρ : Rho} {v : V} {x : Sv} {cls f : Str} {fs : List (Str × Sv)}
theorem insAt_at (E : En K F H0 H σ ρ) (hx : SvR K H0 v x) (h : insAt cls x ρ = some fs) : ∃ k S a dx vs, x = .r k ∧ stoOf ρ = some S ∧ S[k]? = some (.ins cls fs) ∧ v = .ref a ∧ H0 a = some (gh k) ∧ H a = some (.ins (He.ga K cls) dx vs) ∧ FsR K H0 vs fs := by
  unfold insAt at h
  split at h
  · rename_i k
    split at h
    · rename_i S hS
      split at h
      · rename_i c gs hk
        split at h
        · rename_i hc
          cases h
          subst hc
          obtain ⟨a, rfl, h2⟩ := hx
          obtain ⟨_, R⟩ := stoOf_at E hS
          obtain ⟨a', g1, dx, vs, g2, g3⟩ := R.at_ k _ hk
          obtain rfl := R.un a a' k h2 g1
          exact ⟨k, S, a, dx, vs, rfl, hS, hk, rfl, h2, g2, g3⟩
        · cases h
      · cases h
    · cases h
  · cases h
theorem FsR.none : ∀ {vs : List (Str × V)} {fs : List (Str × Sv)}, FsR K H0 vs fs → fs.lookup f = none → vs.lookup f = none
  | _, _, .nil, _ => rfl
  | _, _, .cons (f := g) h1 h2, e => by
    rw [List.lookup_cons] at e ⊢
    cases hb : f == g with
    | true => rw [hb] at e; cases e
    | false => rw [hb] at e; exact h2.none e
theorem FsR.some : ∀ {vs : List (Str × V)} {fs : List (Str × Sv)} {y : Sv}, FsR K H0 vs fs → fs.lookup f = some y → ∃ u, vs.lookup f = some u ∧ SvR K H0 u y
  | _, _, _, .nil, e => by cases e
  | _, _, _, .cons (f := g) h1 h2, e => by
    rw [List.lookup_cons] at e ⊢
    cases hb : f == g with
    | true =>
      rw [hb] at e
      cases e
      exact ⟨_, rfl, h1⟩
    | false =>
      rw [hb] at e
      exact h2.some e
theorem FsR.length : ∀ {vs : List (Str × V)} {fs : List (Str × Sv)}, FsR K H0 vs fs → vs.length = fs.length
  | _, _, .nil => rfl
  | _, _, .cons _ h => congrArg (· + 1) h.length
end
/-! ### e.f -/
def fldV (cls f : Str) (fe : Rho → R Sv) : Rho → R Sv := fun ρ => (fe ρ).bind fun x ρ1 => match insAt cls x ρ1 with
  | some fs => (match fs.lookup f with
    | some y => .ok y ρ1
    | none => .bad)
  | none => .bad
section
variable {X : Cx} {W : WX} {CX : CXT} {e o : Expr} {es : List Expr} {pos p apos : Pos} {k j : Nat} {ps : List Str} {x m f cls : Str} {fn : FnS} {fa : Rho → R (List Sv)} {fe fv : Rho → R Sv} {C fad gad pad : Addr} {fd : FuncData} {sp : Sp} {t : TA} {ta : TE} {EE : L2.St → XK}
theorem dv_fld (c : Cls X.K (He.ga X.K cls)) (n : NoAttr X.K (He.ga X.K cls) f) (he : DV X W e fe) (hb : attributeBase e f X.env (eval e X.env) = eval e X.env := by rfl) : DV X W (.Attribute e f pos) (fldV cls f fe) := fun F =>
  PE.wk (pe_fld (he F) hb) fun σ H Q ⟨H0, ρ, E, q⟩ => by
    refine ⟨H0, ρ, E, ?_⟩
    unfold fldV at q
    cases e1 : fe ρ with
    | ok x ρ1 =>
      rw [e1] at q
      dsimp only [R.bind] at q
      intro v H0' H' E' m hx
      cases e2 : insAt cls x ρ1 with
      | none => rw [e2] at q; exact q.elim
      | some fs =>
        rw [e2] at q
        dsimp only at q
        obtain ⟨k, S, a, dx, vs, _, _, _, rfl, _, ha, hf⟩ := insAt_at E' hx e2
        cases e3 : fs.lookup f with
        | none => rw [e3] at q; exact q.elim
        | some y =>
          rw [e3] at q
          obtain ⟨u, hu, hy⟩ := hf.some e3
          exact ⟨a, _, dx, vs, u, rfl, ha, c, n, hu, q u H0' H' E' m hy⟩
    | ex x ρ1 => rw [e1] at q; exact q
    | bad => rw [e1] at q; exact q
/-! ### e.f, a property -/
def noEx {α : Type} (r : R α) : R α := match r with
  | .ex _ _ => .bad
  | r => r
def propV (cls : Str) (fn : FnS) (fe : Rho → R Sv) : Rho → R Sv := fun ρ => (fe ρ).bind fun x ρ1 => match insAt cls x ρ1 with
  | some _ => noEx (runAt fn [x] ρ1)
  | none => .bad
def tPropS (C : Addr) (sp : Sp) (ta : TE) : TE := fun σ H Q => ta σ H fun x H1 => ∃ a dx fs, x = .ref a ∧ H1 a = some (.ins C dx fs) ∧ sp [.ref a] H1 Q fun _ _ _ => False
theorem quiet_in1 {A : Around} (h : Quiet A) : Quiet A.in1 := by
  show A.in1.guards = some []
  first
    | exact h
    | simpa [Around.in1] using h
theorem getprop_okG {pins : List (Addr × Obj)} {σ : L2.St} {H : Hp} {s : Shared} {Q : VK} {b : Bool} {a dx : Addr} {fs : List (Str × V)} (I : Inv X pins σ H s) (ea : H a = some (.ins C dx fs)) (c : Cls X.K C) (hp : PropOf X.K C f pad gad)
    (G : FnG X.prog X.w X.K X.mg X.base (L2.CX X.prog X.w) k gad fd ps sp) (hr : Room (k + 1) X.A) (hq : Quiet X.A) (hb : Binds X.K fd ps []) (h : sp [.ref a] H Q fun _ _ _ => False) :
    wpAny (model X.prog X.w) X.A (getAttr (.ref a) f b) (EP X pins σ Q) X.xe s := by
  obtain ⟨mA, O, _, _, _, _⟩ := ins_get I.hok ea
  obtain ⟨od, J, _⟩ := O.look
  obtain ⟨rest, hrec⟩ := hp.rec_
  have I1 := I.tok (s.toks + 1)
  have hl : ([Value.ref a] ++ []).length = ps.length := by
    rw [← G.len _ _ _ _ h]
    rfl
  have hc : (PySem.W.clsIn X.K C).isSome = true := by
    obtain ⟨cd, hc, _⟩ := PySem.W.any_some c.hd
    rw [hc]
    rfl
  have hbz : BindsTo { s with toks := s.toks + 1 } fd ⟨[.ref a], []⟩ (ps.zip [.ref a]) := by
    have := hb { s with toks := s.toks + 1 } [.ref a] I1.kIn hl
    rwa [List.append_nil] at this
  refine PySem.W.get_bind I.kIn J (PySem.W.plainGet_of (c.get f)).1 (PySem.W.findObj_data hc hp.at_ hp.get hp.tak) (PySem.W.plainGet_of (c.get f)).2 (wpAny_call (PySem.W.prop_get (s := { s with toks := s.toks + 1 }) I.kIn hrec ?_))
  refine codeAny_mono (G.run X.A.in1 X.stack { s with toks := s.toks + 1 } H ⟨[.ref a], []⟩ [.ref a] [.ref a] Q (fun _ _ _ => False) hr.in1 (quiet_in1 hq) I1.env0.in1 hbz (.cons rfl .nil) h) fun r s' hq => ?_
  cases r with
  | error er =>
    obtain ⟨_, _, _, _, _, _, _, _, _, _, _, _, he⟩ := hq
    exact he.elim
  | ok fl =>
    cases fl with
    | ret u =>
      obtain ⟨v, H', I3, rv, q3⟩ := I1.after hq
      show wpAny _ _ (handedOut u) _ _ _
      rw [PySem.W.handedOut_of (handed_of rv)]
      exact wpAny_pure ⟨v, H', I3, rv, q3⟩
    | next => exact False.elim hq
    | brk => exact False.elim hq
    | cont => exact False.elim hq
theorem pe_propG (he : PE X e ta) (c : Cls X.K C) (hp : PropOf X.K C f pad gad) (G : FnG X.prog X.w X.K X.mg X.base (L2.CX X.prog X.w) k gad fd ps sp) (hr : Room (k + 1) X.A) (hq : Quiet X.A) (hb : Binds X.K fd ps [])
    (hab : attributeBase e f X.env (eval e X.env) = eval e X.env) : PE X (.Attribute e f pos) (tPropS C sp ta) := by
  refine ⟨fun pins s σ H Q I h => ?_⟩
  refine attr_of hab (thn (he.run pins s σ H _ I h) fun u s1 ⟨x, H1, I1, rx, a, dx, fs, ex, ea, q⟩ => ?_)
  subst ex
  obtain rfl : u = Value.ref a := rx
  exact getprop_okG I1 ea c hp G hr hq hb q
/-- the getter of a property -/
structure PropS (P : Program) (w : World) (K : PySem.W.Frag) (mg : Str → Option Value) (base : Heap) (cls f : Str) (ps : List Str) (fn : FnS) (k : Nat) : Prop where
  at_ : ∃ pad gad, PropOf K (He.ga K cls) f pad gad ∧ FunS P w K mg base gad ps fn k
theorem dv_prop (c : Cls X.K (He.ga X.K cls)) (h : PropS X.prog X.w X.K X.mg X.base cls f ps fn j) (hr : Room k X.A) (hq : Quiet X.A) (hjk : j + 1 ≤ k) (he : DV X W e fe) (hb : attributeBase e f X.env (eval e X.env) = eval e X.env := by rfl) :
    DV X W (.Attribute e f pos) (propV cls fn fe) := by
  obtain ⟨pad, gad, hp, fd, hk, hbi, G⟩ := h.at_
  exact fun F => PE.wk (pe_propG (he F) c hp G (hr.mono hjk) hq hbi hb) fun σ H Q ⟨H0, ρ, E, q⟩ => by
    refine ⟨H0, ρ, E, ?_⟩
    unfold propV at q
    cases e1 : fe ρ with
    | ok x ρ1 =>
      rw [e1] at q
      dsimp only [R.bind] at q
      intro v H0' H' E' m hx
      cases e2 : insAt cls x ρ1 with
      | none => rw [e2] at q; exact q.elim
      | some fs =>
        rw [e2] at q
        dsimp only at q
        obtain ⟨k, S, a, dx, vs, _, _, _, rfl, _, ha, hf⟩ := insAt_at E' hx e2
        refine ⟨a, dx, vs, rfl, ha, sp_at (W := WF) E' (.cons hx .nil) (run_mv m ?_)⟩
        cases e3 : runAt fn [x] ρ1 with
        | ok y ρ2 => rw [e3] at q; exact q
        | ex y ρ2 => rw [e3] at q; exact q.elim
        | bad => rw [e3] at q; exact q.elim
    | ex x ρ1 => rw [e1] at q; exact q
    | bad => rw [e1] at q; exact q
/-! ### e.m(..) -/
def tMethS (C : Addr) (m : Str) (sp : Sp) (EE : L2.St → XK) (ta : TE) (t : TA) : TE := fun σ H Q => ta σ H fun x H1 => ∃ a dx fs, x = .ref a ∧ H1 a = some (.ins C dx fs) ∧ fs.lookup m = none ∧ t σ H1 fun vs H2 => sp (x :: vs) H2 Q (EE σ)
theorem pe_methGS {pl : Sem Bool} (he : PE X o ta) (c : Cls X.K C) (hm : Meth X.K C m fad) (G : FnG X.prog X.w X.K X.mg X.base CX k fad fd ps sp) (hr : Room k X.A) (hq : Quiet X.A) (hb : Binds X.K fd ps []) (hx : ∀ σ, PassesAt CX X σ (EE σ)) (ha : PA X (e :: es) t)
    (hst : starEach (e :: es) X.env = (false, eval e X.env) :: starEach es X.env) (hpl : (backTo pos (starEach es X.env)).any (·.1) = false)
    (ht : eval (.Call (.Attribute o m apos) (e :: es) [] pos) X.env = (do
      let ov ← eval o X.env
      standAt apos.atName
      let (f, first) ← holding [ov] (getMethod ov m pl)
      callWith pos f first (backTo pos (starEach (e :: es) X.env)) (backToKw pos (keywordEach [] X.env)))) :
    PE X (.Call (.Attribute o m apos) (e :: es) [] pos) (tMethS C m sp EE ta t) := by
  refine ⟨fun pins s σ H Q I h => ?_⟩
  refine PySem.W.methodCall_KW (pl := pl) (thn (he.run pins s σ H _ I h) fun u s1 ⟨x, H1, I1, rx, a, dx, fs, ex, ea, l, q⟩ => ?_) ht
  subst ex
  obtain rfl : u = Value.ref a := rx
  refine getmeth_ok I1 ea c hm l ?_
  refine PySem.W.callWith_K (first := [.ref a]) (h₀ := X.base) I.ok.mod.kin hm.kp (thn (ha.run pos pins s1 σ H1 _ I1 q) fun us s2 ⟨vs, H2, I2, r, q2⟩ => ⟨I2.kIn, ?_⟩) hst hpl
  exact runGS (us := .ref a :: us) (vs := .ref a :: vs) G hr hq hb (hx σ) I2 (.cons rfl r) q2
theorem pe_methGS0 {pl : Sem Bool} (he : PE X o ta) (c : Cls X.K C) (hm : Meth X.K C m fad) (G : FnG X.prog X.w X.K X.mg X.base CX k fad fd ps sp) (hr : Room k X.A) (hq : Quiet X.A) (hb : Binds X.K fd ps []) (hx : ∀ σ, PassesAt CX X σ (EE σ))
    (ht : eval (.Call (.Attribute o m apos) [] [] pos) X.env = (do
      let ov ← eval o X.env
      standAt apos.atName
      let (f, first) ← holding [ov] (getMethod ov m pl)
      callWith pos f first (backTo pos (starEach [] X.env)) (backToKw pos (keywordEach [] X.env)))) :
    PE X (.Call (.Attribute o m apos) [] [] pos) (tMethS C m sp EE ta tNil) := by
  refine ⟨fun pins s σ H Q I h => ?_⟩
  refine PySem.W.methodCall_KW (pl := pl) (thn (he.run pins s σ H _ I h) fun u s1 ⟨x, H1, I1, rx, a, dx, fs, ex, ea, l, q⟩ => ?_) ht
  subst ex
  obtain rfl : u = Value.ref a := rx
  refine getmeth_ok I1 ea c hm l ?_
  exact PySem.W.callWith_K0 (first := [.ref a]) I1.kIn hm.kp (runGS (us := [.ref a]) (vs := [.ref a]) G hr hq hb (hx σ) I1 (.cons rfl .nil) q)
structure MethS (P : Program) (w : World) (K : PySem.W.Frag) (mg : Str → Option Value) (base : Heap) (cls m : Str) (ps : List Str) (fn : FnS) (k : Nat) : Prop where
  at_ : Meth K (He.ga K cls) m (He.ma K (He.ga K cls) m)
  fn : FunS P w K mg base (He.ma K (He.ga K cls) m) ps fn k
def methV (cls m : Str) (fn : FnS) (fe : Rho → R Sv) (fa : Rho → R (List Sv)) : Rho → R Sv := fun ρ => (fe ρ).bind fun x ρ1 => match insAt cls x ρ1 with
  | some fs => if (fs.lookup m).isNone = true then (fa ρ1).bind fun as ρ2 => runAt fn (x :: as) ρ2 else .bad
  | none => .bad
theorem tMethS_of {F : Fm} {σ : L2.St} {H : Hp} {Q : VK} (h : tV (gx X) F W (methV cls m fn fe fa) σ H Q) : tMethS (He.ga X.K cls) m (spS (gx X) fn) (WE W) (tV (gx X) F W fe) (tVA (gx X) F W fa) σ H Q := by
  obtain ⟨H0, ρ, E, q⟩ := h
  refine ⟨H0, ρ, E, ?_⟩
  unfold methV at q
  cases e1 : fe ρ with
  | ok x ρ1 =>
    rw [e1] at q
    dsimp only [R.bind] at q
    intro v H0' H' E' m1 hx
    cases e2 : insAt cls x ρ1 with
    | none => rw [e2] at q; exact q.elim
    | some fs =>
      rw [e2] at q
      dsimp only at q
      obtain ⟨k, S, a, dx, vs, _, _, _, rfl, _, ha, hf⟩ := insAt_at E' hx e2
      by_cases hn : (fs.lookup m).isNone = true
      · rw [if_pos hn] at q
        refine ⟨a, dx, vs, rfl, ha, hf.none (Option.isNone_iff_eq_none.mp hn), H0', ρ1, E', ?_⟩
        cases e3 : fa ρ1 with
        | ok as ρ2 =>
          rw [e3] at q
          exact fun us B0 B E2 m2 hus => sp_at E2 (.cons (hx.mono m2.b0 m2.gk) hus) (run_mv (m1.trans m2) q)
        | ex x ρ2 => rw [e3] at q; exact q
        | bad => rw [e3] at q; exact q
      · rw [if_neg hn] at q
        exact q.elim
  | ex x ρ1 => rw [e1] at q; exact q
  | bad => rw [e1] at q; exact q
theorem dv_meth {pl : Sem Bool} (c : Cls X.K (He.ga X.K cls)) (h : MethS X.prog X.w X.K X.mg X.base cls m ps fn j) (tk : Takes X W) (hr : Room k X.A) (hq : Quiet X.A) (hjk : j ≤ k) (he : DV X W o fe) (ha : DVA X W (e :: es) fa)
    (hst : starEach (e :: es) X.env = (false, eval e X.env) :: starEach es X.env := by rfl) (hpl : (backTo pos (starEach es X.env)).any (·.1) = false := by rfl)
    (ht : eval (.Call (.Attribute o m apos) (e :: es) [] pos) X.env = (do
      let ov ← eval o X.env
      standAt apos.atName
      let (f, first) ← holding [ov] (getMethod ov m pl)
      callWith pos f first (backTo pos (starEach (e :: es) X.env)) (backToKw pos (keywordEach [] X.env))) := by rfl) :
    DV X W (.Call (.Attribute o m apos) (e :: es) [] pos) (methV cls m fn fe fa) := by
  obtain ⟨fd, hk, hbi, G⟩ := h.fn
  exact fun F => PE.wk (pe_methGS (he F) c h.at_ G (hr.mono hjk) hq hbi (fun σ => passAt tk σ) (ha F) hst hpl ht) fun _ _ _ h => tMethS_of h
theorem dv_meth0 {pl : Sem Bool} (c : Cls X.K (He.ga X.K cls)) (h : MethS X.prog X.w X.K X.mg X.base cls m ps fn j) (tk : Takes X W) (hr : Room k X.A) (hq : Quiet X.A) (hjk : j ≤ k) (he : DV X W o fe)
    (ht : eval (.Call (.Attribute o m apos) [] [] pos) X.env = (do
      let ov ← eval o X.env
      standAt apos.atName
      let (f, first) ← holding [ov] (getMethod ov m pl)
      callWith pos f first (backTo pos (starEach [] X.env)) (backToKw pos (keywordEach [] X.env))) := by rfl) :
    DV X W (.Call (.Attribute o m apos) [] [] pos) (methV cls m fn fe nilV) := by
  obtain ⟨fd, hk, hbi, G⟩ := h.fn
  exact fun F => PE.wk (pe_methGS0 (he F) c h.at_ G (hr.mono hjk) hq hbi (fun σ => passAt tk σ) ht) fun σ H Q h => by
    obtain ⟨H0, ρ, E, q⟩ := tMethS_of h
    refine ⟨H0, ρ, E, ?_⟩
    cases e1 : fe ρ with
    | ok x ρ1 =>
      rw [e1] at q
      intro v H0' H' E' m1 hx
      obtain ⟨a, dx, fs, h1, h2, h3, h4⟩ := q v H0' H' E' m1 hx
      obtain ⟨B0, ρ2, E2, q2⟩ := h4
      exact ⟨a, dx, fs, h1, h2, h3, q2 [] B0 H' E2 Mv.refl .nil⟩
    | ex x ρ1 => rw [e1] at q; exact q
    | bad => rw [e1] at q; exact q
end
end DW

set_option Elab.async false
set_option linter.all false
set_option maxRecDepth 100000
set_option maxHeartbeats 4000000
/-! OB3: the store changes: e.f = v, new objects, append; len(o), o(x), x in o -/
namespace DW
open PySem PySem.Spec PyProof.Rows L2
section
variable {K : PySem.W.Frag} {F : Fm} {H0 H H0' H' C0 C : Hp} {σ : L2.St} {ρ : Rho} {v : V} {d : Dt} {s : Sl} {i : Nat} {a p : Addr} {o : HO} {S S' : Sto} {k : Nat} {ob ob' : Ob}
/-- an object of the store is changed -/
theorem StoR.set (R : StoR K H0 H S) (ha : H0 a = some (gh k)) (hk : k < S.length) (hob : ObR K H0 (upd H a o) a ob') : StoR K H0 (upd H a o) (S.set k ob') where
  at_ := fun j q hj => by
    rcases set_get hj with ⟨rfl, rfl⟩ | ⟨hne, hj⟩
    · exact ⟨a, ha, hob⟩
    · obtain ⟨b, h1, h2⟩ := R.at_ j q hj
      have nb : b ≠ a := fun z => by
        rw [z, ha] at h1
        exact hne (gh_inj (Option.some.inj h1)).symm
      exact ⟨b, h1, h2.mono (Same.refl _) (fun _ _ h => h) fun u hu _ => by rw [upd_ne nb]; exact hu⟩
  un := R.un
  all := fun b ps h => by rw [List.length_set]; exact R.all b ps h
theorem En.setObj (E : En K F H0 H σ ρ) (hS : stoOf ρ = some S) (ha : H0 a = some (gh k)) (hk : k < S.length) (hl : (∃ xs, H a = some (.lst xs)) ∨ ∃ c dx fs, H a = some (.ins c dx fs)) (hob : ObR K H0 (upd H a o) a ob') :
    En K F H0 (upd H a o) σ (putS (S.set k ob') ρ) ∧ Mv σ ρ (putS (S.set k ob') ρ) H0 H H0 (upd H a o) := by
  have R := (stoOf_at E hS).2
  have na : ∀ b u, H b = some u → (∀ xs, u ≠ .lst xs) → (∀ c d fs, u ≠ .ins c d fs) → b ≠ a := fun b u hb n1 n2 z => by
    rw [z] at hb
    rcases hl with ⟨xs, e⟩ | ⟨c, dx, fs, e⟩
    · rw [e] at hb; exact n1 xs (Option.some.inj hb).symm
    · rw [e] at hb; exact n2 c dx fs (Option.some.inj hb).symm
  refine E.postS hS ⟨Same.refl _, fun b u hb _ _ => ?_, fun _ _ h => h, fun b hb => ?_, fun _ _ h => h, fun b ps h => .inl ⟨rfl, hide_g h⟩⟩ (tab_awayI E.tb (fun b u hb n1 n2 => by rw [upd_ne (na b u hb n1 n2)]; exact hb) fun _ _ _ h => h) (fun b u hb => ?_) (R.set ha hk hob)
  · have hb : hide H0 H b = some u := hb
    have n := (hide_some (by rw [hb]; exact fun z => nomatch z)).1
    have nb : b ≠ a := fun z => n _ (z ▸ ha)
    rw [upd_ne nb]
    rw [hide_ng n] at hb
    exact hb
  · by_cases nb : b = a
    · rw [nb, upd_same]
      exact fun z => nomatch z
    · rw [upd_ne nb]
      exact (hide_some hb).2
  · by_cases nb : b = a
    · refine ⟨fun n => ?_, by rw [nb, upd_same]; exact fun z => nomatch z⟩
      rw [nb, ha] at hb
      exact absurd (Option.some.inj hb).symm (n _)
    · rw [upd_ne nb]
      exact E.ex b u hb
/-- a new object of the store; more may have come into the heap beside it -/
theorem StoR.push {H1 : Hp} (R : StoR K H0 H S) (h0 : H0 p = none) (kp : ∀ b u, H b = some u → H1 b = some u) (hob : ObR K (upd H0 p (gh S.length)) H1 p ob) : StoR K (upd H0 p (gh S.length)) H1 (S ++ [ob]) where
  at_ := fun j q hj => by
    by_cases hjs : j < S.length
    · rw [List.getElem?_append_left hjs] at hj
      obtain ⟨b, h1, h2⟩ := R.at_ j q hj
      have nb : b ≠ p := ne_of_none h1 h0
      refine ⟨b, by rw [upd_ne nb]; exact h1, h2.mono (base_new h0) (fun c ps z => ?_) fun u hu _ => kp b u hu⟩
      rw [upd_ne (ne_of_none z h0)]
      exact z
    · rw [List.getElem?_append_right (Nat.le_of_not_lt hjs)] at hj
      have hz : j - S.length = 0 := by
        have := lt_of_get hj
        simp at this
        omega
      rw [hz] at hj
      cases hj
      have : j = S.length := by omega
      subst this
      exact ⟨p, upd_same, hob⟩
  un := fun b c j h1 h2 => by
    have key : ∀ b, upd H0 p (gh S.length) b = some (gh j) → (b = p ∧ j = S.length) ∨ (b ≠ p ∧ H0 b = some (gh j)) := fun b h => by
      by_cases z : b = p
      · rw [z, upd_same] at h
        exact .inl ⟨z, (gh_inj (Option.some.inj h)).symm⟩
      · rw [upd_ne z] at h
        exact .inr ⟨z, h⟩
    rcases key b h1 with ⟨e1, e2⟩ | ⟨e1, e2⟩
    · rcases key c h2 with ⟨e3, e4⟩ | ⟨e3, e4⟩
      · rw [e1, e3]
      · obtain ⟨l, e5, e6⟩ := R.all c _ e4
        have := ghA_inj e5
        omega
    · rcases key c h2 with ⟨e3, e4⟩ | ⟨e3, e4⟩
      · obtain ⟨l, e5, e6⟩ := R.all b _ e2
        have := ghA_inj e5
        omega
      · exact R.un b c j e2 e4
  all := fun b ps h => by
    rw [List.length_append]
    by_cases z : b = p
    · rw [z, upd_same] at h
      exact ⟨S.length, (HO.tbl.inj (Option.some.inj h)).symm, by simp⟩
    · rw [upd_ne z] at h
      obtain ⟨l, e5, e6⟩ := R.all b ps h
      exact ⟨l, e5, by simp; omega⟩
theorem tb_new {H1 : Hp} (t : TbOk K H0 H) (h0 : H p = none) (kp : ∀ b u, H b = some u → H1 b = some u) (g : Same H0 (upd H0 p o)) : TbOk K (upd H0 p o) H1 := tab_awayI t (fun b u hb _ _ => kp b u hb) (fun b ps hb hb0 => by rw [upd_ne (ne_of_none hb h0)]; exact hb0) g
theorem same_push {H1 : Hp} (e : Same H0 H) (hp : H p = none) (hp1 : H1 p ≠ none) (kp : ∀ b u, H b = some u → H1 b = some u) : Same (upd H0 p (gh k)) H1 := fun b u hb => by
  by_cases nb : b = p
  · refine ⟨fun n => ?_, by rw [nb]; exact hp1⟩
    rw [nb, upd_same] at hb
    exact absurd (Option.some.inj hb).symm (n _)
  · rw [upd_ne nb] at hb
    refine ⟨fun n => kp b u (e.hit hb n), fun z => ?_⟩
    have h1 := (e b u hb).2
    cases w : H b with
    | none => exact h1 w
    | some x => rw [kp b x w] at z; cases z
theorem gw_push {H1 : Hp} (e : Same H0 H) (hp : H p = none) (kp : ∀ b u, H b = some u → H1 b = some u) : Gw (FmS H0 H none) (upd H0 p (gh k)) H1 := by
  have h0 : H0 p = none := e.no hp
  refine ⟨base_new h0, fun b u hb _ _ => ?_, fun b hb hb0 => ?_, fun b hb => ?_, fun b ps h => ?_, fun b ps h => ?_⟩
  · have hb : hide H0 H b = some u := hb
    rw [hide_ng (hide_some (by rw [hb]; exact fun z => nomatch z)).1] at hb
    exact kp b u hb
  · have hb0 : H0 b = none := hb0
    have nb : b ≠ p := fun z => (hide_some hb).2 (by rw [z]; exact hp)
    rw [upd_ne nb]
    exact hb0
  · have hb := (hide_some hb).2
    cases w : H b with
    | none => exact absurd w hb
    | some x => rw [kp b x w]; exact fun z => nomatch z
  · have h : H0 b = some (.tbl ps) := h
    rw [upd_ne (ne_of_none h h0)]
    exact h
  · refine .inl ⟨rfl, ?_⟩
    show hide H0 H b = none
    by_cases nb : b = p
    · rw [nb, hide_ng (ng_none h0)]
      exact hp
    · rw [upd_ne nb] at h
      exact hide_g h
theorem En.newObj {H1 : Hp} (E : En K F H0 H σ ρ) (hS : stoOf ρ = some S) (hp : H p = none) (hp1 : H1 p ≠ none) (kp : ∀ b u, H b = some u → H1 b = some u) (hob : ObR K (upd H0 p (gh S.length)) H1 p ob) :
    En K F (upd H0 p (gh S.length)) H1 σ (putS (S ++ [ob]) ρ) ∧ Mv σ ρ (putS (S ++ [ob]) ρ) H0 H (upd H0 p (gh S.length)) H1 :=
  E.postS hS (gw_push E.ex hp kp) (tb_new E.tb hp kp (base_new (E.ex.no hp))) (same_push E.ex hp hp1 kp) ((stoOf_at E hS).2.push (E.ex.no hp) kp hob)
end
/-! ### o.f = e -/
def putFS (f : Str) (y : Sv) : List (Str × Sv) → List (Str × Sv)
  | [] => [(f, y)]
  | (g, x) :: r => if g = f then (g, y) :: r else (g, x) :: putFS f y r
theorem FsR.put {K : PySem.W.Frag} {H0 : Hp} {f : Str} {y : Sv} {u : V} (hy : SvR K H0 u y) : ∀ {vs : List (Str × V)} {fs : List (Str × Sv)}, FsR K H0 vs fs → FsR K H0 (putF f u vs) (putFS f y fs)
  | _, _, .nil => .cons hy .nil
  | _, _, .cons (f := g) h1 h2 => by
    unfold putF putFS
    by_cases e : g = f
    · rw [if_pos e, if_pos e]
      exact .cons hy h2
    · rw [if_neg e, if_neg e]
      exact .cons h1 (h2.put hy)
/-- the object at a reference is changed -/
def setAt (x : Sv) (ob : Ob) (ρ : Rho) : Rho := match x with
  | .r k => (match stoOf ρ with
    | some S => putS (S.set k ob) ρ
    | none => ρ)
  | .d _ => ρ
def sFldS (cls f : Str) (fe fv : Rho → R Sv) : Rho → SR := fun ρ => (fv ρ).bindS fun y ρ1 => (fe ρ1).bindS fun x ρ2 => match insAt cls x ρ2 with
  | some fs => if fs.length < 1000 then .nx (setAt x (.ins cls (putFS f y fs)) ρ2) else .bad
  | none => .bad
section
variable {X : Cx} {W : WX} {CX : CXT} {e o value : Expr} {es : List Expr} {pos p apos pos' : Pos} {k j : Nat} {ps : List Str} {x m f cls : Str} {fn : FnS} {fa : Rho → R (List Sv)} {fe fv : Rho → R Sv} {C fad gad pad : Addr} {fd : FuncData} {sp : Sp} {t : TA} {ta : TE} {EE : L2.St → XK}
theorem ds_fldS (c : Cls X.K (He.ga X.K cls)) (n : NoAttr X.K (He.ga X.K cls) f) (he : DV X W o fe) (hv : DV X W value fv) (hs : swapsWith value (some (.Attribute o f pos')) pos.line X.env = pure false := by rfl) :
    DS X W (.Assign [.Attribute o f pos'] value pos) (sFldS cls f fe fv) := fun F => PS.wk (ps_fld (he F) (hv F) hs) fun D σ H ⟨H0, ρ, E, q⟩ => by
  refine ⟨H0, ρ, E, ?_⟩
  unfold sFldS at q
  cases e1 : fv ρ with
  | ok y ρ1 =>
    rw [e1] at q
    dsimp only [R.bindS] at q
    intro u H1 B1 E1 m1 hy
    refine ⟨H1, ρ1, E1, ?_⟩
    cases e2 : fe ρ1 with
    | ok x ρ2 =>
      rw [e2] at q
      dsimp only [R.bindS] at q
      intro v H2 B2 E2 m2 hx
      cases e3 : insAt cls x ρ2 with
      | none => rw [e3] at q; exact q.elim
      | some fs =>
        rw [e3] at q
        dsimp only at q
        obtain ⟨k, S, a, dx, vs, rfl, hS, hk, rfl, ha, hi, hf⟩ := insAt_at E2 hx e3
        by_cases hl : fs.length < 1000
        · rw [if_pos hl] at q
          refine ⟨a, _, dx, vs, rfl, hi, c, n, by rw [hf.length]; exact hl, ?_⟩
          have e4 : setAt (.r k) (.ins cls (putFS f y fs)) ρ2 = putS (S.set k (.ins cls (putFS f y fs))) ρ2 := by unfold setAt; rw [hS]
          rw [e4] at q
          obtain ⟨E3, m3⟩ := E2.setObj (o := .ins (He.ga X.K cls) dx (putF f u vs)) (ob' := .ins cls (putFS f y fs)) hS ha (lt_of_get hk) (.inr ⟨_, _, _, hi⟩) ⟨dx, _, upd_same, hf.put (hy.mono m2.b0 m2.gk)⟩
          exact q σ H2 _ E3 (m1.b0.trans (m2.b0.trans m3.b0))
        · rw [if_neg hl] at q
          exact q.elim
    | ex x ρ2 => rw [e2] at q; exact q σ
    | bad => rw [e2] at q; exact q
  | ex x ρ1 => rw [e1] at q; exact q σ
  | bad => rw [e1] at q; exact q
/-! ### a new list -/
def newL (fa : Rho → R (List Dt)) : Rho → R Sv := fun ρ => (fa ρ).bind fun ds ρ1 => match stoOf ρ1 with
  | some S => if ds.length ≤ 1000000 then .ok (.r S.length) (putS (S ++ [.lst ds]) ρ1) else .bad
  | none => .bad
theorem dv_lst {fa : Rho → R (List Dt)} (h : DA X W es fa) : DV X W (.List es pos) (newL fa) := fun F => PE.wk (pe_lst (h F)) fun σ H Q ⟨H0, ρ, E, q⟩ => by
  refine ⟨H0, ρ, E, ?_⟩
  unfold newL at q
  cases e1 : fa ρ with
  | ok ds ρ1 =>
    rw [e1] at q
    dsimp only [R.bind] at q
    intro vs H0' H' E' m hd
    cases hS : stoOf ρ1 with
    | none => rw [hS] at q; exact q.elim
    | some S =>
      rw [hS] at q
      dsimp only at q
      by_cases hl : ds.length ≤ 1000000
      · rw [if_pos hl] at q
        refine ⟨by rw [hd.length]; exact sizeM hl, fun p hp => ?_⟩
        obtain ⟨E2, m2⟩ := E'.newObj (H1 := upd H' p (.lst vs)) (ob := .lst ds) hS hp (by rw [upd_same]; exact fun z => nomatch z) (fun b u hb => by rw [upd_ne (ne_of_none hb hp)]; exact hb) ⟨vs, upd_same, hd.mono (base_new (E'.ex.no hp))⟩
        exact q _ _ _ E2 (m.trans m2) ⟨p, rfl, upd_same⟩
      · rw [if_neg hl] at q
        exact q.elim
  | ex x ρ1 => rw [e1] at q; exact q
  | bad => rw [e1] at q; exact q
/-! ### a new instance -/
def mkV (cls : Str) (fn : FnS) (fa : Rho → R (List Sv)) : Rho → R Sv := fun ρ => (fa ρ).bind fun as ρ1 => match stoOf ρ1 with
  | some S => (match fn (.r S.length :: as) (S ++ [.ins cls []]) with
    | .ok (.d .non) S' => .ok (.r S.length) (putS S' ρ1)
    | .ex e S' => .ex e (putS S' ρ1)
    | _ => .bad)
  | none => .bad
/-- a class with an own __init__ -/
structure MkS (P : Program) (w : World) (K : PySem.W.Frag) (mg : Str → Option Value) (base : Heap) (cls : Str) (ps : List Str) (fn : FnS) (k : Nat) : Prop where
  gl : mg cls = some (.ref (He.ga K cls))
  mkk : Mk K (He.ga K cls) (He.ma K (He.ga K cls) "__init__")
  fn : FunS P w K mg base (He.ma K (He.ga K cls) "__init__") ps fn k
def tMakeS (C : Addr) (sp : Sp) (EE : L2.St → XK) (t : TA) : TE := fun σ H Q => t σ H fun vs H1 => ∀ x dx, H1 x = none → H1 dx = none → dx ≠ x →
  sp (.ref x :: vs) (upd (upd H1 dx (.own x)) x (.ins C dx [])) (fun v H2 => v = .non ∧ Q (.ref x) H2) (EE σ)
theorem quiet_make {A : Around} (h : Quiet A) (C : Addr) (us : List Value) (kw : List (Str × Value)) : Quiet (A.under (.builtin "type.__call__" ⟨.ref C :: us, kw⟩)) := by
  show (A.under (.builtin "type.__call__" ⟨.ref C :: us, kw⟩)).guards = some []
  first
    | exact h
    | simpa [Around.under, Code.guards, pushGuards, Code.isGuard] using h
theorem run_makeG {pins : List (Addr × Obj)} {σ : L2.St} {H : Hp} {s : Shared} {Q : VK} {us : List Value} {vs : List V} {E : XK} (M : Mk X.K C fad) (G : FnG X.prog X.w X.K X.mg X.base CX k fad fd ps sp) (hr : Room (k + 1) X.A) (hq : Quiet X.A) (hb : Binds X.K fd ps [])
    (hx : PassesAt CX X σ E) (I : Inv X pins σ H s) (r : Vals vs us)
    (h : ∀ x dx, H x = none → H dx = none → dx ≠ x → sp (.ref x :: vs) (upd (upd H dx (.own x)) x (.ins C dx [])) (fun v H2 => v = .non ∧ Q (.ref x) H2) E) :
    wpAny (model X.prog X.w) X.A (call (.ref C) us) (EP X pins σ Q) X.xe s := by
  have hq2 := h (s.heap.objs.size + 1) s.heap.objs.size (I.hok.fresh (Nat.le_succ _)) (I.hok.fresh (Nat.le_refl _)) (Nat.ne_of_lt (Nat.lt_succ_self _))
  have I2 := Inv.made (C := C) I
  have r2 : Vals (V.ref (s.heap.objs.size + 1) :: vs) (Value.ref (s.heap.objs.size + 1) :: us) := .cons rfl r
  have hl : (Value.ref (s.heap.objs.size + 1) :: us ++ []).length = ps.length := by
    rw [List.append_nil, ← r2.length]
    exact G.len _ _ _ _ hq2
  have hbz : BindsTo { s with heap := (s.heap.push PySem.W.emptyDict).push (PySem.W.instObj C s.heap.objs.size) } fd ⟨Value.ref (s.heap.objs.size + 1) :: us, []⟩ (ps.zip (Value.ref (s.heap.objs.size + 1) :: us)) := by
    have := hb { s with heap := (s.heap.push PySem.W.emptyDict).push (PySem.W.instObj C s.heap.objs.size) } (Value.ref (s.heap.objs.size + 1) :: us) I2.kIn hl
    rwa [List.append_nil] at this
  refine wpAny_call (make_map (f := fad) I.kIn M.makes M.init (beq_iff_eq.mp M.fn) (codeAny_mono (G.run _ X.stack _ _ ⟨Value.ref (s.heap.objs.size + 1) :: us, []⟩ (Value.ref (s.heap.objs.size + 1) :: us) _ _ E (hr.make C us []) (quiet_make hq C us [])
    (I2.env0.make C us []) hbz r2 hq2) fun r s' hq' => ?_))
  cases r with
  | error e => exact hx pins _ _ e s' I2 hq'
  | ok fl =>
    cases fl with
    | ret u =>
      obtain ⟨v, H', I3, rv, ev, q3⟩ := I2.after hq'
      subst ev
      exact ⟨rv, ⟨V.ref (s.heap.objs.size + 1), H', I3, rfl, q3⟩⟩
    | next => exact False.elim hq'
    | brk => exact False.elim hq'
    | cont => exact False.elim hq'
theorem pe_makeG (M : Mk X.K C fad) (G : FnG X.prog X.w X.K X.mg X.base CX k fad fd ps sp) (hr : Room (k + 1) X.A) (hq : Quiet X.A) (hg : Gl X x) (hm : X.mg x = some (.ref C)) (hb : Binds X.K fd ps []) (hx : ∀ σ, PassesAt CX X σ (EE σ))
    (ha : PA X (e :: es) t) (hdb : (x == ("__debug__" : Str)) = false) (he : starEach (e :: es) X.env = (false, eval e X.env) :: starEach es X.env) (hpl : (backTo pos (starEach es X.env)).any (·.1) = false) :
    PE X (.Call (.Name x p) (e :: es) [] pos) (tMakeS C sp EE t) := by
  refine ⟨fun pins s σ H Q I h => ?_⟩
  refine wpAny_Call_Name_kw (ld_glob I hg hm ?_ hdb)
  refine PySem.W.callWith_K (h₀ := X.base) I.ok.mod.kin M.kp (thn (ha.run pos pins s σ H _ I h) fun us s1 ⟨vs, H1, I1, r, q⟩ => ⟨I1.kIn, ?_⟩) he hpl
  exact run_makeG M G hr hq hb (hx σ) I1 r q
theorem dv_mk (h : MkS X.prog X.w X.K X.mg X.base cls ps fn j) (tk : Takes X W) (hr : Room k X.A) (hq : Quiet X.A) (hjk : j + 1 ≤ k) (hg : Gl X cls) (ha : DVA X W (e :: es) fa)
    (hdb : (cls == ("__debug__" : Str)) = false := by decide) (he : starEach (e :: es) X.env = (false, eval e X.env) :: starEach es X.env := by rfl) (hpl : (backTo pos (starEach es X.env)).any (·.1) = false := by rfl) :
    DV X W (.Call (.Name cls p) (e :: es) [] pos) (mkV cls fn fa) := by
  obtain ⟨fd, hk, hbi, G⟩ := h.fn
  exact fun F => PE.wk (pe_makeG h.mkk G (hr.mono hjk) hq hg h.gl hbi (fun σ => passAt tk σ) (ha F) hdb he hpl) fun σ H Q ⟨H0, ρ, E, q⟩ => by
    refine ⟨H0, ρ, E, ?_⟩
    unfold mkV at q
    cases e1 : fa ρ with
    | ok as ρ1 =>
      rw [e1] at q
      dsimp only [R.bind] at q
      intro vs H0' H' E' m hd
      cases hS : stoOf ρ1 with
      | none => rw [hS] at q; exact q.elim
      | some S =>
        rw [hS] at q
        dsimp only at q
        intro a dx hx hdx hne
        have ha1 : upd (upd H' dx (.own a)) a (.ins (He.ga X.K cls) dx []) a = some (.ins (He.ga X.K cls) dx []) := upd_same
        have kp : ∀ b u, H' b = some u → upd (upd H' dx (.own a)) a (.ins (He.ga X.K cls) dx []) b = some u := fun b u hb => by
          rw [upd_ne (ne_of_none hb hx), upd_ne (ne_of_none hb hdx)]
          exact hb
        have g0 := gw_push (k := S.length) (H1 := upd (upd H' dx (.own a)) a (.ins (He.ga X.K cls) dx [])) E'.ex hx kp
        have R1 := (stoOf_at E' hS).2.push (ob := .ins cls []) (H1 := upd (upd H' dx (.own a)) a (.ins (He.ga X.K cls) dx [])) (E'.ex.no hx) kp ⟨dx, [], ha1, .nil⟩
        refine ⟨upd H0' a (gh S.length), .r S.length :: as, S ++ [.ins cls []], same_push E'.ex hx (by rw [ha1]; exact fun z => nomatch z) kp, tb_new E'.tb hx kp (base_new (E'.ex.no hx)), .cons ⟨a, rfl, upd_same⟩ (hd.mono (base_new (E'.ex.no hx)) fun b ps z => by rw [upd_ne (ne_of_none z (E'.ex.no hx))]; exact z), R1, ?_⟩
        -- what came behind the push and the def
        have both : ∀ {C0 C : Hp}, Gw (FmS (upd H0' a (gh S.length)) (upd (upd H' dx (.own a)) a (.ins (He.ga X.K cls) dx [])) none) C0 C → Gw (FmS H0' H' none) C0 C := fun {C0 C} g => by
          have hh : ∀ b, hide H0' H' b ≠ none → hide (upd H0' a (gh S.length)) (upd (upd H' dx (.own a)) a (.ins (He.ga X.K cls) dx [])) b = H' b ∧ b ≠ a := fun b hb => by
            obtain ⟨n1, n2⟩ := hide_some hb
            have na : b ≠ a := fun z => n2 (z ▸ hx)
            have nd : b ≠ dx := fun z => n2 (z ▸ hdx)
            have n3 : NG (upd H0' a (gh S.length)) b := fun ps z => by rw [upd_ne na] at z; exact n1 ps z
            rw [hide_ng n3, upd_ne na, upd_ne nd]
            exact ⟨rfl, na⟩
          refine ⟨(base_new (E'.ex.no hx)).trans g.b0, fun b u hb nt hio => ?_, fun b hb h0 => ?_, fun b hb => ?_, fun b ps z => g.gk b ps (g0.gk b ps z), fun b ps z => .inl ⟨rfl, ?_⟩⟩
          · have hb : hide H0' H' b = some u := hb
            obtain ⟨e5, _⟩ := hh b (by rw [hb]; exact fun z => nomatch z)
            rw [hide_ng (hide_some (by rw [hb]; exact fun z => nomatch z)).1] at hb
            exact g.keep b u (e5.trans hb) nt (fun z => nomatch z)
          · obtain ⟨e5, na⟩ := hh b hb
            have h0 : H0' b = none := h0
            exact g.off b (by show hide _ _ b ≠ none; rw [e5]; exact (hide_some hb).2) (by show upd H0' a (gh S.length) b = none; rw [upd_ne na]; exact h0)
          · obtain ⟨e5, na⟩ := hh b hb
            exact g.st b (by show hide _ _ b ≠ none; rw [e5]; exact (hide_some hb).2)
          · refine Classical.byContradiction fun y => ?_
            obtain ⟨e5, na⟩ := hh b y
            rcases g.gs b ps z with ⟨_, w⟩ | ⟨w, _⟩
            · have w : hide _ _ b = none := w
              rw [e5] at w
              exact (hide_some y).2 w
            · cases w
        cases e2 : fn (.r S.length :: as) (S ++ [.ins cls []]) with
        | ok y S' =>
          rw [e2] at q
          intro v C0 C gw tb sm R hy
          cases y with
          | r _ => exact q.elim
          | d d =>
            cases d with
            | non =>
              cases hy
              refine ⟨rfl, ?_⟩
              obtain ⟨E2, m2⟩ := E'.postS hS (both gw) tb sm R
              exact q _ C0 C E2 (m.trans m2) ⟨a, rfl, gw.gk _ _ upd_same⟩
            | _ => exact q.elim
        | ex y S' =>
          rw [e2] at q
          intro c da C0 C gw tb sm R xr
          obtain ⟨E2, m2⟩ := E'.postS hS (both gw) tb sm R
          obtain ⟨nz, p, v, x1, x2, x3, x4, x5⟩ := xr
          refine q c da C0 C ⟨nz, p, v, x1, x2, Classical.byContradiction fun z => ?_, x4, x5⟩ E2
          have hF := E'.stF hS
          have ng : NG H0' p := fun ps y => z (E'.ghost hF y)
          have st := E'.still z
          have x3 : hide (upd H0' a (gh S.length)) (upd (upd H' dx (.own a)) a (.ins (He.ga X.K cls) dx [])) p = none := x3
          have na : p ≠ a := fun y => st (y ▸ hx)
          have nd : p ≠ dx := fun y => st (y ▸ hdx)
          rw [hide_ng (fun ps y => by rw [upd_ne na] at y; exact ng ps y), upd_ne na, upd_ne nd] at x3
          exact st x3
        | bad => rw [e2] at q; exact q.elim
    | ex x ρ1 => rw [e1] at q; exact q
    | bad => rw [e1] at q; exact q
end
end DW

set_option Elab.async false
set_option linter.all false
set_option maxRecDepth 100000
set_option maxHeartbeats 4000000
/-! OB4: append to a list of the store; len(o), x in o, o(x) of own classes -/
namespace DW
open PySem PySem.Spec PyProof.Rows L2
/-! ### film.append(e) -/
def rfAt (i : Nat) (ρ : Rho) : Option (Nat × List Dt) := match (ρ[i]? : Option (Option Sl)) with
  | some (some (.rf k)) => (match stoOf ρ with
    | some S => (match (S[k]? : Option Ob) with
      | some (.lst xs) => some (k, xs)
      | _ => none)
    | none => none)
  | _ => none
def sappS (i : Nat) (f : Rho → R Dt) : Rho → SR := fun ρ => match rfAt i ρ with
  | none => .bad
  | some _ => (f ρ).bindS fun d ρ1 => match rfAt i ρ1 with
    | none => .bad
    | some (k, xs) => if xs.length < 1000000 then .nx (setAt (.r k) (.lst (xs ++ [d])) ρ1) else .bad
theorem rfAt_at {K : PySem.W.Frag} {F : Fm} {H0 H : Hp} {σ : L2.St} {ρ : Rho} {i k : Nat} {xs : List Dt} (E : En K F H0 H σ ρ) (h : rfAt i ρ = some (k, xs)) : ∃ S a vs, stoOf ρ = some S ∧ S[k]? = some (.lst xs) ∧ σ[i]? = some (some (.ref a)) ∧ H0 a = some (gh k) ∧ H a = some (.lst vs) ∧ DaAll K H0 vs xs := by
  unfold rfAt at h
  split at h
  · rename_i l e
    split at h
    · rename_i S hS
      split at h
      · rename_i ys hk
        cases h
        obtain ⟨v, h1, a, rfl, h2⟩ := E.sl i _ e
        obtain ⟨_, R⟩ := stoOf_at E hS
        obtain ⟨a', g1, vs, g2, g3⟩ := R.at_ k _ hk
        obtain rfl := R.un a a' k h2 g1
        exact ⟨S, a, vs, hS, hk, h1, h2, g2, g3⟩
      · cases h
    · cases h
  · cases h
section
variable {X : Cx} {W : WX} {e : Expr} {f1 : Rho → R Dt} {p : Pos}
theorem ds_sapp (i : Nat) {x : Str} {apos cpos spos : Pos} (hx : PE X (.Name x p) (tVar i)) (he : DE X W e f1) (hbase : attributeBase (.Name x p) "append" X.env (eval (.Name x p) X.env) = eval (.Name x p) X.env := by rfl)
    (hfew : ((backTo cpos (starEach (e :: []) X.env)).all (fun x => !x.1) && (backToKw cpos (keywordEach [] X.env)).all (fun x => x.1.isSome)
      && decide ((e :: ([] : List Expr)).length + ([] : List Keyword).length + (if ([] : List Keyword).isEmpty then 0 else 1) < 30)) = true := by rfl)
    (hline : (apos.endLine == cpos.line) = true := by rfl) (hs : starEach (e :: []) X.env = (false, eval e X.env) :: starEach [] X.env := by rfl) (hplain : (backTo cpos (starEach [] X.env)).any (·.1) = false := by rfl)
    (hsw : swapsWith (.Call (.Attribute (.Name x p) "append" apos) [e] [] cpos) none spos.line X.env = pure false := by rfl) :
    DS X W (.Expr (.Call (.Attribute (.Name x p) "append" apos) [e] [] cpos) spos) (sappS i f1) :=
  fun F => PS.wk (ps_expr (pe_bm PySem.F.plainAttrs_list PySem.F.slot_list_append PySem.F.type_list_append mt_append hx (pa_cons (he F) pa_nil hs) hbase hfew hline hs hplain) hsw) fun D σ H ⟨H0, ρ, E, q⟩ => by
    unfold sappS at q
    cases e0 : rfAt i ρ with
    | none => rw [e0] at q; exact q.elim
    | some kx0 =>
      obtain ⟨k0, xs0⟩ := kx0
      rw [e0] at q
      dsimp only at q
      obtain ⟨S0, a, vs0, _, _, ha, hg0, hv0, _⟩ := rfAt_at E e0
      refine ⟨.ref a, ha, .inl ⟨rfl, _, SqL.of hv0⟩, H0, ρ, E, ?_⟩
      cases e1 : f1 ρ with
      | ok d ρ1 =>
        rw [e1] at q
        dsimp only [R.bindS] at q
        intro v H0' H' E' m hd
        cases e2 : rfAt i ρ1 with
        | none => rw [e2] at q; exact q.elim
        | some kx =>
          obtain ⟨k, xs⟩ := kx
          rw [e2] at q
          dsimp only at q
          obtain ⟨S, a', vs', hS, hk, ha', hg', hv', hd'⟩ := rfAt_at E' e2
          rw [ha] at ha'
          cases ha'
          by_cases hl : xs.length < 1000000
          · rw [if_pos hl] at q
            refine ⟨a, vs', v, rfl, rfl, hv', by rw [hd'.length]; exact Nat.lt_of_lt_of_le hl (by decide), ?_⟩
            have e4 : setAt (.r k) (.lst (xs ++ [d])) ρ1 = putS (S.set k (.lst (xs ++ [d]))) ρ1 := by unfold setAt; rw [hS]
            rw [e4] at q
            obtain ⟨E3, m3⟩ := E'.setObj (o := .lst (vs' ++ [v])) (ob' := .lst (xs ++ [d])) hS hg' (lt_of_get hk) (.inl ⟨_, hv'⟩) ⟨_, upd_same, hd'.append (.cons hd .nil)⟩
            exact q σ H0' _ E3 (m.b0.trans m3.b0)
          · rw [if_neg hl] at q
            exact q.elim
      | ex x ρ1 => rw [e1] at q; exact q σ
      | bad => rw [e1] at q; exact q
end
/-! ### special methods that raise nothing -/
section
variable {X : Cx} {W : WX} {e fe0 : Expr} {es : List Expr} {pos p apos : Pos} {k j : Nat} {ps : List Str} {x m f cls : Str} {fn : FnS} {fa : Rho → R (List Sv)} {fe fx : Rho → R Sv} {C fad : Addr} {fd : FuncData} {sp : Sp} {t : TA} {ta : TE}
theorem runG1 {pins : List (Addr × Obj)} {σ : L2.St} {H : Hp} {s : Shared} {Q : VK} {us : List Value} {vs : List V} {A' : Around} {Ex : Value → Shared → Prop} (hA : A' = X.A ∨ A' = X.A.in1) (G : FnG X.prog X.w X.K X.mg X.base (L2.CX X.prog X.w) k fad fd ps sp) (hr : Room (k + 1) X.A) (hq : Quiet X.A) (hb : Binds X.K fd ps [])
    (J : Inv X pins σ H s) (rel : Vals vs us) (h : sp vs H Q fun _ _ _ => False) : wpAny (model X.prog X.w) A' (call (.ref fad) us) (EP X pins σ Q) Ex s := by
  have hl : (us ++ []).length = ps.length := by rw [List.append_nil, ← rel.length]; exact G.len _ _ _ _ h
  have hbz : BindsTo s fd ⟨us, []⟩ (ps.zip us) := by
    have := hb s us J.kIn hl
    rwa [List.append_nil] at this
  have hr' : Room k A' := by rcases hA with z | z <;> subst z; exact hr.mono (Nat.le_succ k); exact hr.in1
  have hq' : Quiet A' := by rcases hA with z | z <;> subst z; exact hq; exact quiet_in1 hq
  have he' : Env0 X.prog X.w X.K X.mg X.base A' X.stack s H := by rcases hA with z | z <;> subst z; exact J.env0; exact J.env0.in1
  refine wpAny_call (codeAny_mono (G.run A' X.stack s H ⟨us, []⟩ us vs Q _ hr' hq' he' hbz rel h) fun res s' hq => ?_)
  match res, hq with
  | .error err, hq =>
    obtain ⟨_, _, _, _, _, _, _, _, _, _, _, _, he⟩ := hq
    exact he.elim
  | .ok (.ret u), hq => exact J.after hq
  | .ok .next, hq => exact False.elim hq
  | .ok .brk, hq => exact False.elim hq
  | .ok .cont, hq => exact False.elim hq
theorem inst_at {pins : List (Addr × Obj)} {σ : L2.St} {H : Hp} {s : Shared} {a dx : Addr} {fs : List (Str × V)} (I : Inv X pins σ H s) (e : H a = some (.ins C dx fs)) : ∃ ox od, PySem.W.InstAt s.heap a ox C od ∧ ox.data = .plain := by
  obtain ⟨mA, O, _⟩ := ins_get I.hok e
  obtain ⟨od, J, _⟩ := O.look
  exact ⟨_, _, J, rfl⟩
/-! ### len(o) -/
theorem cr_lenO (hm : Meth X.K C "__len__" fad) (G : FnG X.prog X.w X.K X.mg X.base (L2.CX X.prog X.w) k fad fd ps sp) (hr : Room (k + 1) X.A) (hq : Quiet X.A) (hb : Binds X.K fd ps []) :
    CallR X (.builtin "len") (fun xs H Q => ∃ a dx fs, xs = [.ref a] ∧ H a = some (.ins C dx fs) ∧ sp [.ref a] H (fun v H' => ∃ n : Int, v = .int n ∧ 0 ≤ n ∧ n < 2 ^ 63 ∧ Q (.int n) H') fun _ _ _ => False) := by
  intro pins s σ H xs us Q I r ⟨a, dx, fs, ex, ea, q⟩
  subst ex
  obtain ⟨u, rfl, ru⟩ := vals1 r
  obtain rfl : u = Value.ref a := ru
  obtain ⟨ox, od, J, _⟩ := inst_at I ea
  obtain ⟨mm, Fr⟩ := I.fr
  refine PySem.W.len_K Fr I.mod.kin J hm.at_ hm.fn (wpAny_mono (runG1 (us := [.ref a]) (vs := [.ref a]) (.inr rfl) G hr hq hb I (.cons rfl .nil) q) (fun v s' h => ?_) fun _ _ z => z)
  obtain ⟨w, H', I', rv, n, rfl, h0, h1, hq'⟩ := h
  obtain ⟨t, rfl⟩ := rv
  exact ⟨⟨h0, h1⟩, .int n, H', I'.tok _, ⟨_, rfl⟩, hq'⟩
def lenV (cls : Str) (fn : FnS) (fe : Rho → R Sv) : Rho → R Dt := fun ρ => (fe ρ).bind fun x ρ1 => match insAt cls x ρ1 with
  | some _ => (match runAt fn [x] ρ1 with
    | .ok (.d (.int n)) ρ2 => if 0 ≤ n ∧ n < 2 ^ 63 then .ok (.int n) ρ2 else .bad
    | _ => .bad)
  | none => .bad
theorem de_lenO (h : MethS X.prog X.w X.K X.mg X.base cls "__len__" ps fn j) (hr : Room k X.A) (hq : Quiet X.A) (hjk : j + 1 ≤ k) (hg : Gl X "len") (hm : X.mg "len" = none) (he : DV X W e fe) (hst : starEach (e :: []) X.env = (false, eval e X.env) :: starEach [] X.env := by rfl)
    (hpl : (backTo pos (starEach [] X.env)).any (·.1) = false := by rfl) : DE X W (.Call (.Name "len" p) [e] [] pos) (lenV cls fn fe) := by
  obtain ⟨fd, hk, hbi, G⟩ := h.fn
  exact fun F => PE.wk (pe_callB (cr_lenO h.at_ G (hr.mono hjk) hq hbi) hg hm (by decide +kernel) (pa_cons (he F) pa_nil hst) (he := hst) (hpl := hpl)) fun σ H Q ⟨H0, ρ, E, q⟩ => by
    refine ⟨H0, ρ, E, ?_⟩
    unfold lenV at q
    cases e1 : fe ρ with
    | ok x ρ1 =>
      rw [e1] at q
      dsimp only [R.bind] at q
      intro v H0' H' E' m hx
      cases e2 : insAt cls x ρ1 with
      | none => rw [e2] at q; exact q.elim
      | some fs =>
        rw [e2] at q
        dsimp only at q
        obtain ⟨k, S, a, dx, vs, _, _, _, rfl, _, ha, hf⟩ := insAt_at E' hx e2
        refine ⟨a, dx, vs, rfl, ha, sp_at (W := WF) E' (.cons hx .nil) ?_⟩
        cases e3 : runAt fn [x] ρ1 with
        | ok y ρ2 =>
          rw [e3] at q
          cases y with
          | r _ => exact q.elim
          | d d =>
            cases d with
            | int n =>
              dsimp only at q
              by_cases hn : 0 ≤ n ∧ n < 2 ^ 63
              · rw [if_pos hn] at q
                intro w C0 C E2 m2 hy
                cases hy
                exact ⟨n, rfl, hn.1, hn.2, q _ C0 C E2 (m.trans m2) (.int n)⟩
              · rw [if_neg hn] at q
                exact q.elim
            | _ => exact q.elim
        | ex y ρ2 => rw [e3] at q; exact q.elim
        | bad => rw [e3] at q; exact q.elim
    | ex x ρ1 => rw [e1] at q; exact q
    | bad => rw [e1] at q; exact q
/-! ### x in o -/
theorem contains_K {Q : Bool → Shared → Prop} {Ex : Value → Shared → Prop} {s : Shared} {M : Model} {A : Around} {K : PySem.W.Frag} {a : Addr} {ox : Obj} {od : Option Obj} {y : Value} (Kin : K.In s.heap) (I : PySem.W.InstAt s.heap a ox C od) (hs : PySem.W.findIn K (.ref C) "__contains__" = some (some (.ref fad))) (hf : PySem.W.isFn K (.ref fad) = true)
    (h : wpAny M A (call (.ref fad) [.ref a, y]) (fun r s' => wpAny M A (truthy r) Q Ex s') Ex s) : wpAny M A (contains (.ref a) y) Q Ex s := by
  unfold contains
  refine wpAny_holding ?_
  rw [stdlibNamesSay?_ref]
  refine wpAny_bind (wpAny_bind (I.type.here ((PySem.W.looks_findIn Kin hs).here ?_)))
  show wpAny M A (if (some (Value.ref fad) == some Value.none) = true then _ else _) Q Ex s
  rw [if_neg (show ¬ ((some (Value.ref fad) == some Value.none) = true) from Bool.false_ne_true)]
  refine wpAny_bind (m := callSpecialUnlessNone? (.ref a) (Str.ofString "__contains__") [y] _) ?_
  unfold callSpecialUnlessNone?
  refine wpAny_bind (wpAny_bind (I.type.here ((PySem.W.looks_findIn Kin hs).here ?_)))
  refine wpAny_holding (wpAny_bind ((PySem.W.bind_fn Kin _ (beq_iff_eq.mp hf)).here ?_))
  show wpAny M A (if (Value.ref fad == Value.none) = true then _ else _) _ Ex s
  rw [if_neg (show ¬ ((Value.ref fad == Value.none) = true) from Bool.false_ne_true)]
  exact wpAny_bind (wpAny_mono h (fun v s' h' => wpAny_pure h') fun _ _ z => z)
def rInO (C : Addr) (sp : Sp) (neg : Bool) : R2 := fun x y H Q => ∃ a dx fs, y = .ref a ∧ H a = some (.ins C dx fs) ∧ sp [.ref a, x] H (fun v H' => ∃ b, v = .bl b ∧ Q (.bl (if neg = true then !b else b)) H') fun _ _ _ => False
theorem opr_inO (hm : Meth X.K C "__contains__" fad) (G : FnG X.prog X.w X.K X.mg X.base (L2.CX X.prog X.w) k fad fd ps sp) (hr : Room (k + 1) X.A) (hq : Quiet X.A) (hb : Binds X.K fd ps []) : OpR X (compareOp .In) (rInO C sp false) := by
  intro pins s σ H x y v u Q I rx ry ⟨a, dx, fs, ey, ea, q⟩
  subst ey
  obtain rfl : u = Value.ref a := ry
  obtain ⟨ox, od, J, _⟩ := inst_at I ea
  show wpAny (model X.prog X.w) X.A (do return Value.bool (← contains (.ref a) v)) (EP X pins σ Q) X.xe s
  refine wpAny_bind (contains_K I.kIn J hm.at_ hm.fn (wpAny_mono (runG1 (us := [.ref a, v]) (vs := [.ref a, x]) (.inl rfl) G hr hq hb I (.cons rfl (.cons rx .nil)) q) (fun w s' h => ?_) fun _ _ z => z))
  obtain ⟨w', H', I', rv, b, rfl, hq'⟩ := h
  cases rv
  exact wpAny_truthy_bool (wpAny_pure ⟨.bl b, H', I', rfl, hq'⟩)
theorem opr_ninO (hm : Meth X.K C "__contains__" fad) (G : FnG X.prog X.w X.K X.mg X.base (L2.CX X.prog X.w) k fad fd ps sp) (hr : Room (k + 1) X.A) (hq : Quiet X.A) (hb : Binds X.K fd ps []) : OpR X (compareOp .NotIn) (rInO C sp true) := by
  intro pins s σ H x y v u Q I rx ry ⟨a, dx, fs, ey, ea, q⟩
  subst ey
  obtain rfl : u = Value.ref a := ry
  obtain ⟨ox, od, J, _⟩ := inst_at I ea
  show wpAny (model X.prog X.w) X.A (do return Value.bool (!(← contains (.ref a) v))) (EP X pins σ Q) X.xe s
  refine wpAny_bind (contains_K I.kIn J hm.at_ hm.fn (wpAny_mono (runG1 (us := [.ref a, v]) (vs := [.ref a, x]) (.inl rfl) G hr hq hb I (.cons rfl (.cons rx .nil)) q) (fun w s' h => ?_) fun _ _ z => z))
  obtain ⟨w', H', I', rv, b, rfl, hq'⟩ := h
  cases rv
  exact wpAny_truthy_bool (wpAny_pure ⟨.bl (!b), H', I', rfl, hq'⟩)
end
end DW

set_option Elab.async false
set_option linter.all false
set_option maxRecDepth 100000
set_option maxHeartbeats 4000000
/-! OB5: x in o, o(x) over data; defs that may change a dict and the store -/
namespace DW
open PySem PySem.Spec PyProof.Rows L2
def inOV (cls : Str) (fn : FnS) (neg : Bool) (fd : Rho → R Dt) (fe : Rho → R Sv) : Rho → R Dt := fun ρ => (fd ρ).bind fun d ρ1 => (fe ρ1).bind fun x ρ2 => match insAt cls x ρ2 with
  | some _ => (match runAt fn [x, .d d] ρ2 with
    | .ok (.d (.bl b)) ρ3 => .ok (.bl (if neg = true then !b else b)) ρ3
    | _ => .bad)
  | none => .bad
section
variable {X : Cx} {W : WX} {a b e fe0 : Expr} {es : List Expr} {pos p apos : Pos} {k j : Nat} {ps : List Str} {x m f cls : Str} {fn : FnS} {fd : Rho → R Dt} {fa : Rho → R (List Sv)} {fe fx : Rho → R Sv} {C fad : Addr} {fdd : FuncData} {sp : Sp} {t : TA} {ta : TE} {neg : Bool}
theorem tInO_of {F : Fm} {σ : L2.St} {H : Hp} {Q : VK} (h : tD (gx X) F W (inOV cls fn neg fd fe) σ H Q) : tOp (rInO (He.ga X.K cls) (spS (gx X) fn) neg) (tD (gx X) F W fd) (tV (gx X) F W fe) σ H Q := by
  obtain ⟨H0, ρ, E, q⟩ := h
  refine ⟨H0, ρ, E, ?_⟩
  unfold inOV at q
  cases e1 : fd ρ with
  | ok d ρ1 =>
    rw [e1] at q
    dsimp only [R.bind] at q
    intro v H1 B1 E1 m1 hd
    refine ⟨H1, ρ1, E1, ?_⟩
    cases e2 : fe ρ1 with
    | ok x ρ2 =>
      rw [e2] at q
      dsimp only [R.bind] at q
      intro u H2 B2 E2 m2 hx
      cases e3 : insAt cls x ρ2 with
      | none => rw [e3] at q; exact q.elim
      | some fs =>
        rw [e3] at q
        dsimp only at q
        obtain ⟨k, S, a, dx, vs, _, _, _, rfl, _, ha, hf⟩ := insAt_at E2 hx e3
        refine ⟨a, dx, vs, rfl, ha, sp_at (W := WF) E2 (.cons hx (.cons (x := .d d) (hd.mono m2.b0) .nil)) ?_⟩
        cases e4 : runAt fn [x, .d d] ρ2 with
        | ok y ρ3 =>
          rw [e4] at q
          cases y with
          | r _ => exact q.elim
          | d z =>
            cases z with
            | bl c =>
              intro w C0 C E3 m3 hy
              cases hy
              exact ⟨c, rfl, q _ C0 C E3 (m1.trans (m2.trans m3)) (.bl _)⟩
            | _ => exact q.elim
        | ex y ρ3 => rw [e4] at q; exact q.elim
        | bad => rw [e4] at q; exact q.elim
    | ex x ρ2 => rw [e2] at q; exact q
    | bad => rw [e2] at q; exact q
  | ex x ρ1 => rw [e1] at q; exact q
  | bad => rw [e1] at q; exact q
theorem de_inO (h : MethS X.prog X.w X.K X.mg X.base cls "__contains__" ps fn j) (hr : Room k X.A) (hq : Quiet X.A) (hjk : j + 1 ≤ k) (ha : DE X W a fd) (hb : DV X W b fe) (hm : behindInMarks .In b = false := by rfl) : DE X W (.Compare a [.In] [b] pos) (inOV cls fn false fd fe) := by
  obtain ⟨fd', hk, hbi, G⟩ := h.fn
  exact fun F => PE.wk (pe_cmpR (opr_inO h.at_ G (hr.mono hjk) hq hbi) (ha F) (hb F) hm) fun _ _ _ h => tInO_of h
theorem de_ninO (h : MethS X.prog X.w X.K X.mg X.base cls "__contains__" ps fn j) (hr : Room k X.A) (hq : Quiet X.A) (hjk : j + 1 ≤ k) (ha : DE X W a fd) (hb : DV X W b fe) (hm : behindInMarks .NotIn b = false := by rfl) : DE X W (.Compare a [.NotIn] [b] pos) (inOV cls fn true fd fe) := by
  obtain ⟨fd', hk, hbi, G⟩ := h.fn
  exact fun F => PE.wk (pe_cmpR (opr_ninO h.at_ G (hr.mono hjk) hq hbi) (ha F) (hb F) hm) fun _ _ _ h => tInO_of h
theorem dt_inO (h : MethS X.prog X.w X.K X.mg X.base cls "__contains__" ps fn j) (hr : Room k X.A) (hq : Quiet X.A) (hjk : j + 1 ≤ k) (ha : DE X W a fd) (hb : DV X W b fe) (hm : behindInMarks .In b = false := by rfl) : DT X W (.Compare a [.In] [b] pos) (tstF (inOV cls fn false fd fe)) := by
  obtain ⟨fd', hk, hbi, G⟩ := h.fn
  exact fun F => PT.wk (pt_cmpR (opr_inO h.at_ G (hr.mono hjk) hq hbi) (ha F) (hb F) hm) fun _ _ _ h => tInO_of (tTest_of h)
theorem dt_ninO (h : MethS X.prog X.w X.K X.mg X.base cls "__contains__" ps fn j) (hr : Room k X.A) (hq : Quiet X.A) (hjk : j + 1 ≤ k) (ha : DE X W a fd) (hb : DV X W b fe) (hm : behindInMarks .NotIn b = false := by rfl) : DT X W (.Compare a [.NotIn] [b] pos) (tstF (inOV cls fn true fd fe)) := by
  obtain ⟨fd', hk, hbi, G⟩ := h.fn
  exact fun F => PT.wk (pt_cmpR (opr_ninO h.at_ G (hr.mono hjk) hq hbi) (ha F) (hb F) hm) fun _ _ _ h => tInO_of (tTest_of h)
/-! ### o(e, ..) -/
def callV (cls : Str) (fn : FnS) (fe : Rho → R Sv) (fa : Rho → R (List Sv)) : Rho → R Sv := fun ρ => (fe ρ).bind fun x ρ1 => match insAt cls x ρ1 with
  | some _ => (fa ρ1).bind fun as ρ2 => (match insAt cls x ρ2 with
    | some _ => runAt fn (x :: as) ρ2
    | none => .bad)
  | none => .bad
/-- a class whose instances may be called -/
structure CallS (P : Program) (w : World) (K : PySem.W.Frag) (mg : Str → Option Value) (base : Heap) (cls : Str) (ps : List Str) (fn : FnS) (k : Nat) : Prop where
  co : StX.CallO K (He.ga K cls) (He.ma K (He.ga K cls) "__call__")
  fn : FunS P w K mg base (He.ma K (He.ga K cls) "__call__") ps fn k
def tCallOS (C : Addr) (sp : Sp) (EE : L2.St → XK) (tf : TE) (t : TA) : TE := fun σ H Q => tf σ H fun y H1 => ∃ a, y = .ref a ∧ t σ H1 fun vs H2 => (∃ dx fs, H2 a = some (.ins C dx fs)) ∧ sp (y :: vs) H2 Q (EE σ)
theorem codeGS {CX : CXT} {EE : L2.St → XK} {pins : List (Addr × Obj)} {σ : L2.St} {H : Hp} {s : Shared} {Q : VK} {us : List Value} {vs : List V} (G : FnG X.prog X.w X.K X.mg X.base CX k fad fdd ps sp) (room : Room k X.A) (quiet : Quiet X.A) (bind : Binds X.K fdd ps []) (hx : PassesAt CX X σ (EE σ))
    (J : Inv X pins σ H s) (rel : Vals vs us) (h : sp vs H Q (EE σ)) : codeAny (model X.prog X.w) X.A (.call (.ref fad) ⟨us, []⟩) (fun r s' => match r with | .ok (.ret v) => EP X pins σ Q v s' | .ok _ => False | .error e => X.xe e s') s := by
  have hl : (us ++ []).length = ps.length := by rw [List.append_nil, ← rel.length]; exact G.len _ _ _ _ h
  have hb : BindsTo s fdd ⟨us, []⟩ (ps.zip us) := by
    have := bind s us J.kIn hl
    rwa [List.append_nil] at this
  refine codeAny_mono (G.run X.A X.stack s H ⟨us, []⟩ us vs Q (EE σ) room quiet J.env0 hb rel h) fun res s' hq => ?_
  match res, hq with
  | .error err, hq => exact hx pins H s err s' J hq
  | .ok (.ret u), hq => exact J.after hq
  | .ok .next, hq => exact False.elim hq
  | .ok .brk, hq => exact False.elim hq
  | .ok .cont, hq => exact False.elim hq
theorem pe_callOG {CX : CXT} {tf : TE} {EE : L2.St → XK} (hf : PE X fe0 tf) (c : StX.CallO X.K C fad) (G : FnG X.prog X.w X.K X.mg X.base CX k fad fdd ps sp) (hr : Room k X.A) (hq : Quiet X.A) (hb : Binds X.K fdd ps []) (hx : ∀ σ, PassesAt CX X σ (EE σ)) (ha : PA X (e :: es) t)
    (ht : eval (.Call fe0 (e :: es) [] pos) X.env = (do callWith pos (← eval fe0 X.env) [] (backTo pos (starEach (e :: es) X.env)) (backToKw pos (keywordEach [] X.env))))
    (he : starEach (e :: es) X.env = (false, eval e X.env) :: starEach es X.env) (hpl : (backTo pos (starEach es X.env)).any (·.1) = false) : PE X (.Call fe0 (e :: es) [] pos) (tCallOS C sp EE tf t) := by
  refine ⟨fun pins s σ H Q I h => ?_⟩
  refine PyProof.Rows.Call_ (thn (hf.run pins s σ H _ I h) fun u s1 ⟨y, H1, I1, ry, a, ey, q⟩ => ?_) ht
  subst ey
  obtain rfl : u = Value.ref a := ry
  refine StX.callO_with (thn (ha.run pos pins s1 σ H1 _ I1 q) fun us s2 ⟨vs, H2, I2, r, ⟨dx, fs, hi⟩, q2⟩ => ?_) he hpl
  obtain ⟨ox, od, J, hd⟩ := inst_at I2 hi
  exact ⟨⟨C, ox, od, J, hd⟩, wpAny_call (PySem.W.kco_code I2.kIn J hd c.at_ c.fn c.fi (codeGS (us := .ref a :: us) (vs := .ref a :: vs) G hr hq hb (hx σ) I2 (.cons rfl r) q2))⟩
theorem tCallOS_of {F : Fm} {σ : L2.St} {H : Hp} {Q : VK} (h : tV (gx X) F W (callV cls fn fe fa) σ H Q) : tCallOS (He.ga X.K cls) (spS (gx X) fn) (WE W) (tV (gx X) F W fe) (tVA (gx X) F W fa) σ H Q := by
  obtain ⟨H0, ρ, E, q⟩ := h
  refine ⟨H0, ρ, E, ?_⟩
  unfold callV at q
  cases e1 : fe ρ with
  | ok x ρ1 =>
    rw [e1] at q
    dsimp only [R.bind] at q
    intro v H0' H' E' m1 hx
    cases e2 : insAt cls x ρ1 with
    | none => rw [e2] at q; exact q.elim
    | some fs =>
      rw [e2] at q
      dsimp only at q
      obtain ⟨k, S, a, dx, vs, _, _, _, rfl, _, ha, hf⟩ := insAt_at E' hx e2
      refine ⟨a, rfl, H0', ρ1, E', ?_⟩
      cases e3 : fa ρ1 with
      | ok as ρ2 =>
        rw [e3] at q
        dsimp only at q
        intro us B0 B E2 m2 hus
        have hx2 := hx.mono m2.b0 m2.gk
        cases e4 : insAt cls x ρ2 with
        | none => rw [e4] at q; exact q.elim
        | some fs2 =>
          rw [e4] at q
          dsimp only at q
          obtain ⟨k2, S2, a2, dx2, vs2, _, _, _, hv, _, ha2, hf2⟩ := insAt_at E2 hx2 e4
          cases hv
          exact ⟨⟨dx2, vs2, ha2⟩, sp_at E2 (.cons hx2 hus) (run_mv (m1.trans m2) q)⟩
      | ex x ρ2 => rw [e3] at q; exact q
      | bad => rw [e3] at q; exact q
  | ex x ρ1 => rw [e1] at q; exact q
  | bad => rw [e1] at q; exact q
theorem dv_call (h : CallS X.prog X.w X.K X.mg X.base cls ps fn j) (tk : Takes X W) (hr : Room k X.A) (hq : Quiet X.A) (hjk : j ≤ k) (hf : DV X W fe0 fe) (ha : DVA X W (e :: es) fa)
    (ht : eval (.Call fe0 (e :: es) [] pos) X.env = (do callWith pos (← eval fe0 X.env) [] (backTo pos (starEach (e :: es) X.env)) (backToKw pos (keywordEach [] X.env))) := by rfl)
    (he : starEach (e :: es) X.env = (false, eval e X.env) :: starEach es X.env := by rfl) (hpl : (backTo pos (starEach es X.env)).any (·.1) = false := by rfl) : DV X W (.Call fe0 (e :: es) [] pos) (callV cls fn fe fa) := by
  obtain ⟨fd', hk, hbi, G⟩ := h.fn
  exact fun F => PE.wk (pe_callOG (hf F) h.co G (hr.mono hjk) hq hbi (fun σ => passAt tk σ) (ha F) ht he hpl) fun _ _ _ h => tCallOS_of h
end
end DW

set_option Elab.async false
set_option linter.all false
set_option maxRecDepth 100000
set_option maxHeartbeats 4000000
/-! OB6: defs that may change a dict (their first parameter) and the store; the law's own def -/
namespace DW
open PySem PySem.Spec PyProof.Rows L2
inductive FMS where
  | ok (x : Sv) (kvs : List (Key × Dt)) (S : Sto) | bad
abbrev FnMS := List (Key × Dt) → List Sv → Sto → FMS
/-- n: how many names but the store's -/
def envMS (n : Nat) (kvs : List (Key × Dt)) (as : List Sv) (S : Sto) : Rho := some (.io kvs) :: envS (n - 1) as S
def runMS (np nn : Nat) (body : Rho → SR) : FnMS := fun kvs as S => if as.length + 1 = np then match body (envMS nn kvs as S) with
  | .rt s ρ => (match svOf s, ioOf ρ, stoOf ρ with
    | some x, some kvs', some S' => .ok x kvs' S'
    | _, _, _ => .bad)
  | .nx ρ => (match ioOf ρ, stoOf ρ with
    | some kvs', some S' => .ok (.d .non) kvs' S'
    | _, _ => .bad)
  | _ => .bad
  else .bad
def spMS (g : Gx) (fn : FnMS) : Sp := fun vs H Q _ => ∃ H0 a ks kvs vs' as S, vs = .ref a :: vs' ∧ Same H0 H ∧ TbOk g.K H0 H ∧ H0 a = none ∧ H a = some (.dK ks) ∧ DaKv g.K H0 ks kvs ∧ SvAll g.K H0 vs' as ∧ StoR g.K H0 H S ∧ match fn kvs as S with
  | .ok x kvs' S' => ∀ v ks' H0' H', Gw (FmS H0 H (some a)) H0' H' → TbOk g.K H0' H' → Same H0' H' → H' a = some (.dK ks') → DaKv g.K H0' ks' kvs' → StoR g.K H0' H' S' → SvR g.K H0' v x → Q v H'
  | .bad => False
def HasMS (P : Program) (w : World) (K : PySem.W.Frag) (mg : Str → Option Value) (base : Heap) (x : Str) (ps : List Str) (fn : FnMS) (k : Nat) : Prop :=
  ∃ f fd, mg x = some (.ref f) ∧ PySem.W.keepIn K (.ref f) = true ∧ Binds K fd ps [] ∧ FnG P w K mg base CX0 k f fd ps (spMS ⟨K, mg⟩ fn)
theorem envMS_get {n : Nat} {kvs : List (Key × Dt)} {as : List Sv} {S : Sto} {i : Nat} {s : Sl} (hn : as.length + 1 ≤ n) (h : (envMS n kvs as S)[i]? = some (some s)) : (i = 0 ∧ s = .io kvs) ∨ (∃ j x, i = j + 1 ∧ s = slOf x ∧ as[j]? = some x) ∨ (i = n ∧ s = .sto S) := by
  cases i with
  | zero =>
    simp [envMS] at h
    exact .inl ⟨rfl, h.symm⟩
  | succ j =>
    have h' : (envS (n - 1) as S)[j]? = some (some s) := by simpa [envMS] using h
    rcases envS_get (by omega) h' with ⟨x, h1, h2⟩ | ⟨h1, h2⟩
    · exact .inr (.inl ⟨j, x, rfl, h1, h2⟩)
    · exact .inr (.inr ⟨by omega, h2⟩)
theorem envMS_len {n : Nat} {kvs : List (Key × Dt)} {as : List Sv} {S : Sto} (hn : as.length + 1 ≤ n) : (envMS n kvs as S).length = n + 1 := by
  unfold envMS
  rw [List.length_cons, envS_len (by omega)]
  omega
theorem en_startMS {K : PySem.W.Frag} {H0 H : Hp} {N : List Str} {n : Nat} {a : Addr} {ks : List (Key × V)} {kvs : List (Key × Dt)} {vs : List V} {as : List Sv} {S : Sto} (hN : N.length = n + 1) (s : Same H0 H) (t : TbOk K H0 H) (h0 : H0 a = none) (ha : H a = some (.dK ks)) (hk : DaKv K H0 ks kvs) (h : SvAll K H0 vs as) (R : StoR K H0 H S) (hl : as.length + 1 ≤ n) :
    En K (FmS H0 H (some a)) H0 H (startS N (.ref a :: vs)) (envMS n kvs as S) where
  gr := Gw.reflS H0 H (some a)
  tb := t
  ex := s
  len := by
    rw [envMS_len hl]
    unfold startS L2.start
    simp only [List.length_set, List.length_append, List.length_map, List.length_replicate, List.length_cons, h.length]
    omega
  sl := fun i s hs => by
    rcases envMS_get hl hs with ⟨rfl, rfl⟩ | ⟨j, x, rfl, rfl, hx⟩ | ⟨rfl, rfl⟩
    · refine ⟨.ref a, ?_, a, ks, rfl, h0, rfl, ha, hk⟩
      unfold startS
      rw [List.getElem?_set_ne (by omega)]
      exact start_get rfl
    · obtain ⟨v, h1, h2⟩ := h.get hx
      have hi : N.length - 1 ≠ j + 1 := by
        have := lt_of_get hx
        omega
      exact ⟨v, by unfold startS; rw [List.getElem?_set_ne hi]; exact start_get (by simpa using h1), h2.sl⟩
    · refine ⟨.non, ?_, R⟩
      unfold startS
      have e : N.length - 1 = i := by omega
      rw [e, List.getElem?_set_self]
      unfold L2.start
      simp only [List.length_append, List.length_map, List.length_replicate, List.length_cons, h.length]
      omega
  sep := fun i j s t a _ h1 _ o1 _ _ => by
    rcases envMS_get hl h1 with ⟨_, rfl⟩ | ⟨_, x, _, rfl, _⟩ | ⟨_, rfl⟩
    · cases o1
    · cases x <;> cases o1
    · cases o1
  io := fun b z => by
    cases z
    refine ⟨?_, ⟨kvs, rfl⟩, ?_⟩
    · unfold startS
      rw [List.getElem?_set_ne (by omega)]
      exact start_get rfl
    · show hide H0 H a ≠ none
      rw [hide_ng (ng_none h0), ha]
      exact fun z => nomatch z
  io1 := fun i kvs' h => by
    rcases envMS_get hl h with ⟨z, _⟩ | ⟨_, x, _, z, _⟩ | ⟨_, z⟩
    · exact z
    · cases x <;> cases z
    · cases z
  st1 := fun i T h => by
    rw [envMS_len hl]
    rcases envMS_get hl h with ⟨_, z⟩ | ⟨_, x, _, z, _⟩ | ⟨z, _⟩
    · cases z
    · cases x <;> cases z
    · exact ⟨by rw [z], rfl⟩
/-- what a body left that may change a dict and the store -/
theorem En.postMS {K : PySem.W.Frag} {F : Fm} {H0 H C0 C : Hp} {σ : L2.St} {ρ : Rho} {i : Nat} {kvs kvs' : List (Key × Dt)} {ks' : List (Key × V)} {a : Addr} {S S' : Sto} (E : En K F H0 H σ ρ) (h : dAt i ρ = some kvs) (hS : stoOf ρ = some S) (ha : σ[i]? = some (some (.ref a))) (g : Gw (FmS H0 H (some a)) C0 C) (t : TbOk K C0 C) (e : Same C0 C)
    (hc : C a = some (.dK ks')) (hd : DaKv K C0 ks' kvs') (R : StoR K C0 C S') : En K F C0 C σ (dPut i kvs' (putS S' ρ)) ∧ Mv σ ρ (dPut i kvs' (putS S' ρ)) H0 H C0 C := by
  obtain ⟨a', ks, ha', h0, hH, hk, own, _⟩ := dAt_put E h
  rw [ha] at ha'
  cases ha'
  have hdA : hide H0 H a = some (.dK ks) := by rw [hide_ng (ng_none h0)]; exact hH
  have c0 : C0 a = none := g.off a (by show hide H0 H a ≠ none; rw [hdA]; exact fun z => nomatch z) h0
  have cb : ∀ b, b ≠ a → upd C a (.dK ks) b = C b := fun b n => upd_ne n
  have ca : upd C a (.dK ks) a = some (.dK ks) := upd_same
  have g1 : Gw (FmS H0 H none) C0 (upd C a (.dK ks)) := by
    refine ⟨g.b0, fun b u hb nt _ => ?_, g.off, fun b hb => ?_, g.gk, g.gs⟩
    · by_cases hba : b = a
      · subst hba
        have hb : hide H0 H b = some u := hb
        rw [hdA] at hb
        rw [ca]
        exact hb
      · rw [cb b hba]
        exact g.keep b u hb nt fun z => hba (Option.some.inj z).symm
    · by_cases hba : b = a
      · subst hba
        rw [ca]
        exact fun z => nomatch z
      · rw [cb b hba]
        exact g.st b hb
  have up : ∀ b u, C b = some u → (∀ xs, u ≠ .dK xs) → upd C a (.dK ks) b = some u := fun b u hb hu => by
    by_cases hba : b = a
    · subst hba
      rw [hc] at hb
      cases hb
      exact absurd rfl (hu _)
    · rw [cb b hba]
      exact hb
  have n0 : ∀ b u, C0 b = some u → b ≠ a := fun b u hb z => by rw [z, c0] at hb; cases hb
  have t1 : TbOk K C0 (upd C a (.dK ks)) := tab_away t (fun b u hb _ hu => up b u hb hu) (fun b _ hb _ _ => hb)
  have e1 : Same C0 (upd C a (.dK ks)) := fun b u hb => by
    rw [cb b (n0 b u hb)]
    exact e b u hb
  have R1 : StoR K C0 (upd C a (.dK ks)) S' := R.mono (Same.refl _) (fun _ _ => Iff.rfl) fun b j u hb hu _ => by
    rw [cb b (n0 b _ hb)]
    exact hu
  obtain ⟨E1, m1⟩ := E.postS hS g1 t1 e1 R1
  obtain ⟨hlast, _⟩ := stoOf_at E hS
  have d1 : dAt i (putS S' ρ) = some kvs := by
    have hi : i ≠ ρ.length - 1 := fun z => by
      unfold dAt at h
      rw [z, hlast] at h
      cases h
    unfold dAt putS at *
    rw [List.getElem?_set_ne (by omega)]
    exact h
  obtain ⟨b, ks2, hb, _, hb2, _, _, k⟩ := dAt_put E1 d1
  rw [ha] at hb
  cases hb
  have g2 : Gw ⟨C0, upd C a (.dK ks), some a, false⟩ C0 C := by
    refine ⟨Same.refl _, fun b u hb _ n => ?_, fun _ _ h => h, fun b hb => ?_, fun _ _ h => h, fun _ _ h => .inr ⟨rfl, h⟩⟩
    · have hba : b ≠ a := fun z => n (by rw [z])
      have hb : upd C a (.dK ks) b = some u := hb
      rw [cb b hba] at hb
      exact hb
    · by_cases hba : b = a
      · subst hba
        rw [hc]
        exact fun z => nomatch z
      · have hb : upd C a (.dK ks) b ≠ none := hb
        rw [cb b hba] at hb
        exact hb
  obtain ⟨E2, m2⟩ := k ks' kvs' C0 C g2 t e hc hd
  exact ⟨E2, m1.trans m2⟩
section
variable {P : Program} {w : World} {K : PySem.W.Frag} {mg : Str → Option Value} {base : Heap}
/-- a def's promise from its body -/
theorem fnDMS {x qual : Str} {params : Arguments} {bd : List Stmt} {scope : Scope} {f : Addr} {fd : FuncData} {N ps : List Str} {n k : Nat} {y : Str} {body : Rho → SR} (F : FunD K x qual params bd scope [] [] f fd) (S : FnScope N ps scope) (hN : N.length = n + 1) (hn : ps.length ≤ n) (hy : N[n]? = some y) (hv : ¬ Vis scope y)
    (hb : ∀ (cdv : Value) (A : Around) (outer : List Env) (s : Shared) (H : Hp) (E : XK), Room k (A.deeper (envOfC qual scope s.heap.objs.size f cdv)) → Quiet (A.deeper (envOfC qual scope s.heap.objs.size f cdv)) → CdOk K f cdv → DSs (cxOf CX0 P w K mg base N qual scope f cdv A outer s H E).nox WF bd body) :
    FnG P w K mg base CX0 (k + 1) f fd ps (spMS ⟨K, mg⟩ (runMS ps.length n body)) := by
  have lem : ∀ kvs (as : List Sv) (T : Sto), runMS ps.length n body kvs as T ≠ .bad → as.length + 1 = ps.length := fun kvs as T h => by
    unfold runMS at h
    split at h
    · assumption
    · exact absurd rfl h
  have lem2 : ∀ {vs : List V} {H : Hp} {Q : VK} {E : XK}, spMS ⟨K, mg⟩ (runMS ps.length n body) vs H Q E → vs.length = ps.length := fun {vs H Q E} ⟨H0, a, ks, kvs, vs', as, T, hvs, h1, tb, h2, h3, h4, h5, R, h6⟩ => by
    rw [hvs, List.length_cons, h5.length]
    refine lem kvs as T fun z => ?_
    rw [z] at h6
    exact h6
  refine fnG F S (fun vs H Q E h => lem2 h) (fun cdv A outer s H vs Q E hr hq hcd h => ?_)
  have hvl := lem2 h
  obtain ⟨H0, a, ks, kvs, vs', as, T, rfl, h1, tb, h2, h3, h4, h5, R, h6⟩ := h
  have hl : as.length + 1 = ps.length := by rw [List.length_cons, h5.length] at hvl; exact hvl
  refine ⟨_, pss_gho (PSs.nox (hb cdv A outer s H E hr hq hcd (FmS H0 H (some a)))) (i := n) (y := y) hy hv (some .non), H0, envMS n kvs as T, ?_, ?_⟩
  · have e : n = N.length - 1 := by omega
    rw [e]
    exact en_startMS (by omega) h1 tb h2 h3 h4 h5 R (by omega)
  unfold runMS at h6
  rw [if_pos hl] at h6
  have atS : ∀ {σ' : L2.St} {ρ' : Rho} {H0' H' : Hp} {S' : Sto}, En K (FmS H0 H (some a)) H0' H' σ' ρ' → stoOf ρ' = some S' → StoR K H0' H' S' := fun {σ' ρ' H0' H' S'} E' e => (stoOf_at E' e).2
  have atIo : ∀ {σ' : L2.St} {ρ' : Rho} {H0' H' : Hp} {kvs' : List (Key × Dt)}, En K (FmS H0 H (some a)) H0' H' σ' ρ' → ioOf ρ' = some kvs' → ∃ ks', H' a = some (.dK ks') ∧ DaKv K H0' ks' kvs' := fun {σ' ρ' H0' H' kvs'} E' hio => by
    obtain ⟨y1, ⟨kv, y2⟩, _⟩ := E'.io a rfl
    obtain ⟨v, z1, b, ks2, rfl, z2, z3, z4, z5⟩ := E'.sl 0 _ y2
    rw [y1] at z1
    cases z1
    refine ⟨ks2, z4, ?_⟩
    cases ρ' with
    | nil => cases y2
    | cons x r =>
      have hx : x = some (.io kv) := by simpa using y2
      subst hx
      have : kv = kvs' := by simpa [ioOf] using hio
      subst this
      exact z5
  cases e : body (envMS n kvs as T) with
  | nx ρ' =>
    rw [e] at h6
    intro σ' H0' H' E' _
    dsimp only at h6
    cases e1 : ioOf ρ' with
    | none => rw [e1] at h6; exact h6.elim
    | some kvs' =>
      rw [e1] at h6
      cases e2 : stoOf ρ' with
      | none => rw [e2] at h6; exact h6.elim
      | some S' =>
        rw [e2] at h6
        obtain ⟨ks', q1, q2⟩ := atIo E' e1
        exact h6 _ ks' H0' H' E'.gr E'.tb E'.ex q1 q2 (atS E' e2) (Da.non : Da K H0' .non .non)
  | rt s ρ' =>
    rw [e] at h6
    intro v σ' H0' H' E' hs
    dsimp only at h6
    cases e0 : svOf s with
    | none => rw [e0] at h6; exact h6.elim
    | some x =>
      rw [e0] at h6
      cases e1 : ioOf ρ' with
      | none => rw [e1] at h6; exact h6.elim
      | some kvs' =>
        rw [e1] at h6
        cases e2 : stoOf ρ' with
        | none => rw [e2] at h6; exact h6.elim
        | some S' =>
          rw [e2] at h6
          obtain ⟨ks', q1, q2⟩ := atIo E' e1
          refine h6 _ ks' H0' H' E'.gr E'.tb E'.ex q1 q2 (atS E' e2) ?_
          cases s with
          | fr d => cases e0; exact hs
          | rf k => cases e0; exact hs
          | _ => cases e0
  | bk _ => rw [e] at h6; exact h6.elim
  | ct _ => rw [e] at h6; exact h6.elim
  | ex _ _ => rw [e] at h6; exact h6.elim
  | bad => rw [e] at h6; exact h6.elim
theorem hasMS {x : Str} {st : Stmt} {N ps : List Str} {n k : Nat} {y : Str} {body : Rho → SR} (D : IsDef K mg x st) (S : FnScope N ps (defScope st)) (hN : N.length = n + 1) (hn : ps.length ≤ n) (hy : N[n]? = some y) (hv : ¬ Vis (defScope st) y)
    (hbi : ∀ (kV doc pm : Value) (an : Option Addr) (cdv ct : Value) (us : List Value), us.length = ps.length → bindArgs (PySem.W.fnOf x x (defArgs st) (defBody st) (defScope st) .none kV doc pm an cdv ct) ⟨us, []⟩ = pure (ps.zip us))
    (hb : ∀ (f : Addr) (cdv : Value) (A : Around) (outer : List Env) (s : Shared) (H : Hp) (E : XK), Room k (A.deeper (envOfC x (defScope st) s.heap.objs.size f cdv)) → Quiet (A.deeper (envOfC x (defScope st) s.heap.objs.size f cdv)) → mg x = some (.ref f) ∧ CdOk K f cdv → DSs (cxOf CX0 P w K mg base N x (defScope st) f cdv A outer s H E).nox WF (defBody st) body) :
    HasMS P w K mg base x ps (runMS ps.length n body) (k + 1) := by
  obtain ⟨f, fd, F, hm⟩ := D
  exact ⟨f, fd, hm, F.kp, F.bindsN hbi, fnDMS F S hN hn hy hv fun cdv A outer s H E hr hq hc => hb f cdv A outer s H E hr hq ⟨hm, hc⟩⟩
/-- a def at module level over the store, found by its name -/
theorem hasS {x : Str} {st : Stmt} {N ps : List Str} {n k : Nat} {y : Str} {body : Rho → SR} (D : IsDef K mg x st) (S : FnScope N ps (defScope st)) (hN : N.length = n + 1) (hn : ps.length ≤ n) (hy : N[n]? = some y) (hv : ¬ Vis (defScope st) y)
    (hbi : ∀ (kV doc pm : Value) (an : Option Addr) (cdv ct : Value) (us : List Value), us.length = ps.length → bindArgs (PySem.W.fnOf x x (defArgs st) (defBody st) (defScope st) .none kV doc pm an cdv ct) ⟨us, []⟩ = pure (ps.zip us))
    (hb : ∀ (f : Addr) (cdv : Value) (A : Around) (outer : List Env) (s : Shared) (H : Hp) (E : XK), Room k (A.deeper (envOfC x (defScope st) s.heap.objs.size f cdv)) → Quiet (A.deeper (envOfC x (defScope st) s.heap.objs.size f cdv)) → mg x = some (.ref f) ∧ CdOk K f cdv →
      Takes (cxOf (L2.CX P w) P w K mg base N x (defScope st) f cdv A outer s H E) (wE E) → PassesOwn (model P w) (cxOf (L2.CX P w) P w K mg base N x (defScope st) f cdv A outer s H E).A (cxOf (L2.CX P w) P w K mg base N x (defScope st) f cdv A outer s H E).env (cxOf (L2.CX P w) P w K mg base N x (defScope st) f cdv A outer s H E).xe →
      DSs (cxOf (L2.CX P w) P w K mg base N x (defScope st) f cdv A outer s H E) (wE E) (defBody st) body) :
    HasS P w K mg base x ps (runS ps.length n body) (k + 1) := by
  obtain ⟨f, fd, F, hm⟩ := D
  exact ⟨f, hm, fd, F.kp, F.bindsN hbi, fnDS F S hN hn hy hv fun cdv A outer s H E hr hq hc => hb f cdv A outer s H E hr hq ⟨hm, hc⟩⟩
/-! ### the law's own def: it begins with an empty store -/
def envL (n : Nat) (ds : List Dt) : Rho := envS n (ds.map .d) []
def runL0 (np nn : Nat) (body : Rho → SR) : Fn := fun ds => if ds.length = np then match body (envL nn ds) with
  | .rt (.fr (.bl b)) _ => .ok (.fr (.bl b))
  | _ => .bad
  else .bad
def spL (g : Gx) (fn : Fn) : Sp := fun vs H Q _ => ∃ H0 ds, Same H0 H ∧ TbOk g.K H0 H ∧ (∀ a, NG H0 a) ∧ DaAll g.K H0 vs ds ∧ match fn ds with
  | .ok (.fr (.bl b)) => ∀ H', Q (.bl b) H'
  | _ => False
theorem svAll_of {H0 : Hp} : ∀ {vs : List V} {ds : List Dt}, DaAll K H0 vs ds → SvAll K H0 vs (ds.map .d)
  | _, _, .nil => .nil
  | _, _, .cons h1 h2 => .cons (x := .d _) h1 (svAll_of h2)
theorem stoR_nil {H0 H : Hp} (n : ∀ a, NG H0 a) : StoR K H0 H [] := ⟨fun _ _ h => by simp at h, fun a _ k h _ => absurd h (n a _), fun a ps h => absurd h (n a ps)⟩
theorem fnDL {x qual : Str} {params : Arguments} {bd : List Stmt} {scope : Scope} {f : Addr} {fd : FuncData} {N ps : List Str} {n k : Nat} {y : Str} {body : Rho → SR} (F : FunD K x qual params bd scope [] [] f fd) (S : FnScope N ps scope) (hN : N.length = n + 1) (hn : ps.length ≤ n) (hy : N[n]? = some y) (hv : ¬ Vis scope y)
    (hb : ∀ (cdv : Value) (A : Around) (outer : List Env) (s : Shared) (H : Hp) (E : XK), Room k (A.deeper (envOfC qual scope s.heap.objs.size f cdv)) → Quiet (A.deeper (envOfC qual scope s.heap.objs.size f cdv)) → CdOk K f cdv → DSs (cxOf CX0 P w K mg base N qual scope f cdv A outer s H E).nox WF bd body) :
    FnG P w K mg base CX0 (k + 1) f fd ps (spL ⟨K, mg⟩ (runL0 ps.length n body)) := by
  have lem : ∀ (ds : List Dt), runL0 ps.length n body ds ≠ .bad → ds.length = ps.length := fun as h => by
    unfold runL0 at h
    split at h
    · assumption
    · exact absurd rfl h
  have lem2 : ∀ {vs : List V} {H : Hp} {Q : VK} {E : XK}, spL ⟨K, mg⟩ (runL0 ps.length n body) vs H Q E → vs.length = ps.length := fun {vs H Q E} ⟨H0, ds, h1, tb, ng, h2, h3⟩ => by
    rw [h2.length]
    refine lem ds fun z => ?_
    rw [z] at h3
    exact h3
  refine fnG F S (fun vs H Q E h => lem2 h) (fun cdv A outer s H vs Q E hr hq hcd h => ?_)
  have hvl := lem2 h
  obtain ⟨H0, ds, h1, tb, ng, h2, h3⟩ := h
  have hl : ds.length = ps.length := by rw [← h2.length]; exact hvl
  refine ⟨_, pss_gho (PSs.nox (hb cdv A outer s H E hr hq hcd (FmS H0 H none))) (i := n) (y := y) hy hv (some .non), H0, envL n ds, ?_, ?_⟩
  · have e : n = N.length - 1 := by omega
    rw [e]
    exact en_startS (by omega) h1 tb (svAll_of h2) (stoR_nil ng) (by rw [List.length_map]; omega)
  unfold runL0 at h3
  rw [if_pos hl] at h3
  cases e : body (envL n ds) with
  | rt s ρ' =>
    rw [e] at h3
    intro v σ' H0' H' E' hs
    cases s with
    | fr d =>
      cases d with
      | bl b =>
        cases hs
        exact h3 H'
      | _ => exact h3.elim
    | _ => exact h3.elim
  | nx _ => rw [e] at h3; exact h3.elim
  | bk _ => rw [e] at h3; exact h3.elim
  | ct _ => rw [e] at h3; exact h3.elim
  | ex _ _ => rw [e] at h3; exact h3.elim
  | bad => rw [e] at h3; exact h3.elim
end
/-- the law's promise from its function: the tables are not the base's -/
theorem law_spL {K : PySem.W.Frag} {mg : Str → Option Value} {fn : Fn} (h : ∀ ns : List Int, ns.length ≤ 63 → fn [.scr ns] = .ok (.fr (.bl true))) (H : Hp) (a : Addr) (ns : List Int) (hl : ns.length ≤ 63) (hS : SqL K H a (ns.map V.int)) (hT : ∀ p ∈ tT K, H p.1 = some (.tbl #[])) : spL ⟨K, mg⟩ fn [.ref a] H (fun v _ => v = .bl true) fun _ _ _ => False := by
  have sm : Same (fun b => match H b with | some (.tbl _) => none | o => o) H := Same.of fun b o e => by
    split at e
    · cases e
    · exact e
  have hS0 : SqL K (fun b => match H b with | some (.tbl _) => none | o => o) a (ns.map V.int) := by
    rcases hS with (h | ⟨o, h⟩) | h
    · exact .inl (.inl (by show (match H a with | some (.tbl _) => none | o => o) = _; rw [h]))
    · exact .inl (.inr ⟨o, by show (match H a with | some (.tbl _) => none | o => o) = _; rw [h]⟩)
    · exact .inr h
  refine ⟨_, [.scr ns], sm, fun p hp => ⟨⟨?_, fun _ ps e pos cv hc => ?_⟩, LamX.TabS.nil (hT p hp)⟩, fun b ps e => ?_, .cons (.scr hS0) .nil, ?_⟩
  · show (match H p.1 with | some (.tbl _) => none | o => o) = _
    rw [hT p hp]
  · rw [hT p hp] at e
    cases e
    cases hc
  · dsimp only at e
    split at e
    · cases e
    · rename_i n
      exact n ps e
  · rw [h ns hl]
    exact fun _ => rfl
/-! ### calls -/
def callMS (fn : FnMS) (i : Nat) (fa : Rho → R (List Sv)) : Rho → R Sv := fun ρ => match dAt i ρ with
  | none => .bad
  | some _ => (fa ρ).bind fun as ρ1 => match dAt i ρ1 with
    | none => .bad
    | some kvs => match stoOf ρ1 with
      | none => .bad
      | some S => match fn kvs as S with
        | .ok x kvs' S' => .ok x (dPut i kvs' (putS S' ρ1))
        | .bad => .bad
section
variable {g : Gx} {F : Fm} {W : WX} {σ : L2.St} {H : Hp} {Q : VK}
theorem tCallMS_of {fn : FnMS} {i : Nat} {fa : Rho → R (List Sv)} {E : XK} (h : tV g F W (callMS fn i fa) σ H Q) : tCall (spMS g fn) [] E (tCons (tVar i) (tVA g F W fa)) σ H Q := by
  obtain ⟨H0, ρ, E, q⟩ := h
  unfold callMS at q
  cases e0 : dAt i ρ with
  | none => rw [e0] at q; exact q.elim
  | some kvs0 =>
    rw [e0] at q
    dsimp only at q
    obtain ⟨a, ks0, ha, _⟩ := dAt_put E e0
    refine ⟨.ref a, ha, H0, ρ, E, ?_⟩
    cases e : fa ρ with
    | ok as ρ1 =>
      rw [e] at q
      dsimp only [R.bind] at q
      intro vs H0' H' E' m hd
      show spMS g fn ((V.ref a :: vs) ++ []) H' Q _
      rw [List.append_nil]
      cases e1 : dAt i ρ1 with
      | none => rw [e1] at q; exact q.elim
      | some kvs =>
        rw [e1] at q
        dsimp only at q
        cases e3 : stoOf ρ1 with
        | none => rw [e3] at q; exact q.elim
        | some S =>
          rw [e3] at q
          dsimp only at q
          obtain ⟨a', ks, ha', h2, h3, h4, own, _⟩ := dAt_put E' e1
          rw [ha] at ha'
          cases ha'
          refine ⟨H0', a, ks, kvs, vs, as, S, rfl, E'.ex, E'.tb, h2, h3, h4, hd, (stoOf_at E' e3).2, ?_⟩
          cases e2 : fn kvs as S with
          | ok x kvs' S' =>
            rw [e2] at q
            intro v ks' C0 C gr tt s2 hc hdk R hv
            obtain ⟨E3, m3⟩ := E'.postMS e1 e3 ha gr tt s2 hc hdk R
            exact q v C0 C E3 (m.trans m3) hv
          | bad => rw [e2] at q; exact q.elim
    | ex x ρ1 =>
      rw [e] at q
      exact q
    | bad =>
      rw [e] at q
      exact q
end
section
variable {X : Cx} {W : WX} {e : Expr} {es : List Expr} {pos p p2 : Pos} {fa : Rho → R (List Sv)} {k j : Nat} {ps : List Str} {x : Str}
theorem dv_hMS {fn : FnMS} {i : Nat} {y : Str} (h : HasMS X.prog X.w X.K X.mg X.base x ps fn j) (hr : Room k X.A) (hq : Quiet X.A) (hjk : j ≤ k) (hg : Gl X x)
    (hy : PE X (.Name y p2) (tVar i)) (ha : DVA X W es fa) (hdb : (x == ("__debug__" : Str)) = false := by decide) (he : starEach (.Name y p2 :: es) X.env = (false, eval (.Name y p2) X.env) :: starEach es X.env := by rfl) (hpl : (backTo pos (starEach es X.env)).any (·.1) = false := by rfl) :
    DV X W (.Call (.Name x p) (.Name y p2 :: es) [] pos) (callMS fn i fa) := by
  obtain ⟨f, fd, hm, hk, hb, G⟩ := h
  exact fun F => PE.wk (pe_callG G (hr.mono hjk) hq hg hm hk hb pass0 (pa_cons hy (ha F) he) hdb he hpl) fun _ _ _ h => tCallMS_of h
end
end DW

set_option Elab.async false
set_option linter.all false
set_option maxRecDepth 100000
set_option maxHeartbeats 4000000
/-! OB7: slices of what a name holds, read late; promises of methods from their texts -/
namespace DW
open PySem PySem.Spec PyProof.Rows L2
def slP (i : Nat) (fl fh : Rho → R (Option Int)) : Rho → R Dt := fun ρ => match pk i ρ with
  | none => .bad
  | some _ => (fl ρ).bind fun lo ρ1 => (fh ρ1).bind fun hi ρ2 => match pk i ρ2 with
    | some d => (match slD d lo hi with
      | some z => .ok z ρ2
      | none => .bad)
    | none => .bad
theorem tSlP_of {g : Gx} {F : Fm} {W : WX} {i : Nat} {fl fh : Rho → R (Option Int)} {σ : L2.St} {H : Hp} {Q : VK} (h : tD g F W (slP i fl fh) σ H Q) : tSl (rSlAll g.K) (tVar i) (tDP g F W fl) (tDP g F W fh) σ H Q := by
  obtain ⟨H0, ρ, E, q⟩ := h
  unfold slP at q
  cases e1 : pk i ρ with
  | none => rw [e1] at q; exact q.elim
  | some d0 =>
    rw [e1] at q
    obtain ⟨x, hx, _⟩ := pk_at E e1
    refine ⟨x, hx, H0, ρ, E, ?_⟩
    dsimp only [R.bind] at q
    cases e2 : fl ρ with
    | ok lo ρ2 =>
      rw [e2] at q
      dsimp only [R.bind] at q
      intro C0 C E2 m2
      refine ⟨C0, ρ2, E2, ?_⟩
      cases e3 : fh ρ2 with
      | ok hi ρ3 =>
        rw [e3] at q
        dsimp only [R.bind] at q
        intro D0 D E3 m3
        cases e4 : pk i ρ3 with
        | none => rw [e4] at q; exact q.elim
        | some d =>
          rw [e4] at q
          dsimp only at q
          obtain ⟨x', hx', px⟩ := pk_at E3 e4
          rw [hx] at hx'
          cases hx'
          cases e5 : slD d lo hi with
          | none => rw [e5] at q; exact q.elim
          | some z =>
            rw [e5] at q
            refine slD_ok E3.ex px e5 fun v I0 I gr s4 d4 => ?_
            obtain ⟨E4, m4⟩ := E3.post (m2.trans m3) gr s4
            exact q v I0 I E4 m4 d4
      | ex x ρ1 => rw [e3] at q; exact q
      | bad => rw [e3] at q; exact q
    | ex x ρ1 => rw [e2] at q; exact q
    | bad => rw [e2] at q; exact q
theorem de_slP {X : Cx} {W : WX} {i : Nat} {x : Str} {pos p p2 : Pos} {lo hi : Option Expr} {fl fh : Rho → R (Option Int)} (ha : PE X (.Name x p) (tVar i)) (hl : DP X W lo fl) (hh : DP X W hi fh) : DE X W (.Subscript (.Name x p) (.Slice lo hi none p2) pos) (slP i fl fh) :=
  fun F => PE.wk (pe_slice slr_all ha (hl F) (hh F)) fun _ _ _ h => tSlP_of h
/-! ### methods -/
/-- the j-th statement of a class -/
def clsAt (j : Nat) : Stmt → Stmt
  | .ClassDef _ _ _ body .. => body.getD j (.Pass ⟨0, 0, 0, 0⟩)
  | st => st
/-- the getter of a property -/
def gtA (K : PySem.W.Frag) (cls f : Str) : Addr := match PySem.W.recIn K (He.ma K (He.ga K cls) f) "property" with
  | some (.ref g :: _) => g
  | _ => 0
section
variable {P : Program} {w : World} {K : PySem.W.Frag} {mg : Str → Option Value} {base : Heap}
def IsMeth (K : PySem.W.Frag) (cls m : Str) (st : Stmt) : Prop := ∃ fd, FunD K m (cls ++ "." ++ m) (defArgs st) (defBody st) (defScope st) [] [] (He.ma K (He.ga K cls) m) fd
def IsGet (K : PySem.W.Frag) (cls m : Str) (st : Stmt) : Prop := ∃ fd, FunD K m (cls ++ "." ++ m) (defArgs st) (defBody st) (defScope st) [] [] (gtA K cls m) fd
theorem funS_of {x qual : Str} {st : Stmt} {N ps : List Str} {n k : Nat} {y : Str} {f : Addr} {body : Rho → SR} (D : ∃ fd, FunD K x qual (defArgs st) (defBody st) (defScope st) [] [] f fd) (S : FnScope N ps (defScope st)) (hN : N.length = n + 1) (hn : ps.length ≤ n) (hy : N[n]? = some y) (hv : ¬ Vis (defScope st) y)
    (hbi : ∀ (kV doc pm : Value) (an : Option Addr) (cdv ct : Value) (us : List Value), us.length = ps.length → bindArgs (PySem.W.fnOf x qual (defArgs st) (defBody st) (defScope st) .none kV doc pm an cdv ct) ⟨us, []⟩ = pure (ps.zip us))
    (hb : ∀ (f : Addr) (cdv : Value) (A : Around) (outer : List Env) (s : Shared) (H : Hp) (E : XK), Room k (A.deeper (envOfC qual (defScope st) s.heap.objs.size f cdv)) → Quiet (A.deeper (envOfC qual (defScope st) s.heap.objs.size f cdv)) →
      Takes (cxOf (L2.CX P w) P w K mg base N qual (defScope st) f cdv A outer s H E) (wE E) → PassesOwn (model P w) (cxOf (L2.CX P w) P w K mg base N qual (defScope st) f cdv A outer s H E).A (cxOf (L2.CX P w) P w K mg base N qual (defScope st) f cdv A outer s H E).env (cxOf (L2.CX P w) P w K mg base N qual (defScope st) f cdv A outer s H E).xe →
      DSs (cxOf (L2.CX P w) P w K mg base N qual (defScope st) f cdv A outer s H E) (wE E) (defBody st) body) :
    FunS P w K mg base f ps (runS ps.length n body) (k + 1) := by
  obtain ⟨fd, F⟩ := D
  exact ⟨fd, F.kp, F.bindsN hbi, fnDS F S hN hn hy hv fun cdv A outer s H E hr hq hc => hb f cdv A outer s H E hr hq⟩
end
theorem notVis {sc : Scope} {x : Str} (h : sc.names.lookup x = none) : ¬ Vis sc x := by
  rintro (z | z | z) <;> rw [h] at z <;> cases z
end DW

set_option Elab.async false
set_option linter.all false
set_option maxRecDepth 100000
set_option maxHeartbeats 4000000
/-! DWX2: try: .. except X as n: return n.f -/
namespace DW
open PySem PySem.Spec PyProof.Rows L2
/-- body; what each error's class is to the clause; what the suite returns of an error -/
def tryR (i : Nat) (fb : Rho → SR) (mt : Str → Option Bool) (su : Xc → Option Dt) : Rho → SR := fun ρ => match fb ρ with
  | .ex e ρ1 => match mt e.cls with
    | some true => match su e with
      | some d => if i < ρ1.length then .rt (.fr d) ρ1 else .bad
      | none => .bad
    | some false => .ex e ρ1
    | none => .bad
  | r => r
/-- the field of an error of just one class -/
def fldOf (cn f : Str) (e : Xc) : Option Dt := if e.cls = cn ∧ e.fld = f then some e.val else none
/-- the clause's class is at c -/
def MtOk (K : PySem.W.Frag) (mg : Str → Option Value) (mt : Str → Option Bool) (c : Value) : Prop := ∀ cn b, mt cn = some b → ∀ cv, mg cn = some cv → PySem.W.exmOne K cv c = some b
def mtL (l : List (Str × Bool)) (s : Str) : Option Bool := l.lookup s
theorem mt_nil {K : PySem.W.Frag} {mg : Str → Option Value} {c : Value} : MtOk K mg (mtL []) c := fun cn b h => by
  unfold mtL at h
  cases h
theorem mt_cons {K : PySem.W.Frag} {mg : Str → Option Value} {c : Value} {l : List (Str × Bool)} {cn : Str} {b : Bool} {a : Addr} (hg : mg cn = some (.ref a)) (he : PySem.W.exmOne K (.ref a) c = some b) (h : MtOk K mg (mtL l) c) : MtOk K mg (mtL ((cn, b) :: l)) c := fun y b' hy cv hcv => by
  unfold mtL at hy
  rw [List.lookup_cons] at hy
  split at hy
  · rename_i e
    have e2 : y = cn := by simpa using e
    subst e2
    rw [hg] at hcv
    cases hcv
    cases hy
    exact he
  · exact h y b' hy cv hcv
section
variable {X : Cx} {W : WX} {cn f n : Str} {B newId initId : String} {bmB : List Value} {C fI : Addr} {body : List Stmt} {fb : Rho → SR} {p1 p2 p3 p4 p5 p6 : Pos} {mt : Str → Option Bool}
theorem ds_tryF (i : Nat) (T : DWX.OwnX X.prog X.K X.mg cn f B newId initId bmB C fI) (hm : MtOk X.K X.mg mt (.ref C)) (hs : X.stack = X.env :: X.outer) (hf : X.env.frame = some X.env.locals) (hN : X.N.Nodup) (hi : X.N[i]? = some n) (hln : X.env.kindOf n = some .local) (hg : Gl X cn) (tk : Takes X W)
    (hb : ∀ (W' : WX) (pn : List (Addr × Obj)) (xe : Value → Shared → Prop), Takes (X.tr pn xe) W' → PassesOwn (model X.prog X.w) X.A X.env xe → DSs (X.tr pn xe) W' body fb)
    (hd : (cn == ("__debug__" : Str)) = false := by decide) (hv : ∀ a oe pn, PE (X.suite a ((a, oe) :: pn)) (.Name n p3) (tVar i) := by exact fun _ _ _ => pv _) (hab : attributeBase (.Name n p3) f X.env (eval (.Name n p3) X.env) = eval (.Name n p3) X.env := by rfl) :
    DS X W (.Try body [.ExceptHandler (some (.Name cn p1)) (some n) [.Return (some (.Attribute (.Name n p3) f p4)) p5] p2] [] [] p6) (tryR i fb mt (fldOf cn f)) := fun F =>
  PS.wk (ps_try_as (i := i) (tb := fun W' => tS (gx X) F W' fb) (ts := fun a cls d => tRet (tXf a cls d C f (tVar i))) (Wout := W) hs hf hN hi hln ⟨hg, hd, .inl T.gC⟩ tk
      (fun W' pn xe tk' po => hb W' pn xe tk' po F) (fun a oe cls d pn hz hf' => pss_one (ps_ret (pe_xf T.xf T.no hz hf' (hv a oe pn) hab)))) fun D σ H h => by
    obtain ⟨H0, ρ, E, q⟩ := h
    refine ⟨H0, ρ, E, ?_⟩
    unfold tryR at q
    cases e1 : fb ρ with
    | nx ρ1 => rw [e1] at q; exact q
    | rt s ρ1 => rw [e1] at q; exact q
    | bk ρ1 => rw [e1] at q; exact q
    | ct ρ1 => rw [e1] at q; exact q
    | bad => rw [e1] at q; exact q
    | ex e ρ1 =>
      rw [e1] at q
      dsimp only at q
      intro σ' cv da H0' H' xr E'
      cases e2 : mt e.cls with
      | none => rw [e2] at q; exact q.elim
      | some b =>
        rw [e2] at q
        obtain ⟨nz, dd, v, g1, g2, g0, g3, g4⟩ := xr
        refine ⟨b, hm _ _ e2 _ g1, fun hbt a ha => ?_, fun hbf => ?_⟩
        · subst hbt
          dsimp only at q
          unfold fldOf at q
          by_cases hc : e.cls = cn ∧ e.fld = f
          · rw [if_pos hc] at q
            have hcv : cv = .ref C := by
              rw [hc.1] at g1
              exact Option.some.inj (g1.symm.trans T.gC)
            dsimp only at q
            by_cases hi1 : i < ρ1.length
            rotate_left
            · rw [if_neg hi1] at q
              exact q.elim
            rw [if_pos hi1] at q
            have hl : i < σ'.length := by rw [E'.len]; exact hi1
            refine ⟨.ref a, by rw [List.getElem?_set_self hl], rfl, hcv, dd, [(e.fld, v)], v, g2, g3, by rw [hc.2]; simp [List.lookup], ?_⟩
            exact q v σ' H0' H' E' g4
          · rw [if_neg hc] at q
            exact q.elim
        · subst hbf
          exact q σ' cv da H0' H' ⟨nz, dd, v, g1, g2, g0, g3, g4⟩ E'
end
end DW

set_option Elab.async false
set_option linter.all false
set_option maxRecDepth 100000
set_option maxHeartbeats 4000000
/-! DWX3: the facts of own error classes, told by the head -/
namespace DWX
open PySem PySem.W PySem.Calls PyProof.Rows L2 He
/-- an error class: its name, its field, the text of its __init__, the base above it -/
structure XD where
  cn : Str
  fld : Str
  st : Stmt
  B : String
  newId : String
  initId : String
  bmB : List Value
abbrev FnE : Type := Option (Str × Str × Arguments × FuncBody × Scope × Addr × List Str × Addr)
def initAt (K : Frag) (cn : Str) : Addr := ma K (ga K cn) "__init__"
def fnE (K : Frag) (a : Addr) : FnE := match K.lookup a with
  | some ⟨_, _, .func fd, _⟩ => some (fd.name, fd.qualname, fd.params, fd.body, fd.scope, fd.globals, fd.closure.map (·.1), fd.builtins)
  | _ => none
def XD.val (d : XD) : FnE := some ("__init__", d.cn ++ ".__init__", defArgs d.st, .stmts (defBody d.st), defScope d.st, mainGlobals, [PySem.Str.ofString "__class__"], builtinsNs)
def cellB (K : Frag) (C : Addr) : List (Str × Addr) → Bool
  | [(_, cc)] => (match K.lookup cc with
    | some ⟨_, _, .cell (some (.ref D)), _⟩ => decide (D = C)
    | _ => false)
  | _ => false
def fileB (K : Frag) (file : Str) : Value → Bool
  | .ref c => (match K.lookup c with
    | some ⟨_, _, .fields vs, _⟩ => (match (vs[2]? : Option Value) with
      | some (.str z _) => file == z
      | _ => false)
    | _ => false)
  | _ => false
def iniB (K : Frag) (file qual : Str) (C a : Addr) : Bool := match K.lookup a with
  | some ⟨_, _, .func fd, _⟩ => decide (fd.defaults = .none) && (decide (fd.kwdefaults = .none) && (codeIn K fd.code qual && (cellB K C fd.closure && fileB K file fd.code)))
  | _ => false
def XD.ok (file : Str) (K : Frag) (d : XD) : Bool :=
  eqO (nsIn K mainGlobals d.cn) (some (some (.ref (ga K d.cn)))) && (excInitIn K (ga K d.cn) d.bmB d.newId && (excOver K (ga K d.cn) d.bmB && (hasDictIn K (ga K d.cn) &&
  (eqO (findIn K (.ref (ga K d.cn)) "__setattr__") (some (some (.builtin "object.__setattr__"))) && (eqO (takerIn K (ga K d.cn) d.fld) (some none) && (eqO (findIn K (.ref (ga K d.cn)) d.fld) (some none) &&
  (eqO (findIn K (.ref (ga K d.cn)) "__init__") (some (some (.ref (initAt K d.cn)))) && (decide (typeIn K (.ref (initAt K d.cn)) = some (.type "function")) && (keepIn K (.ref (ga K d.cn)) &&
  (decide (subIn K (.ref (ga K d.cn)) (.type "BaseException") = some true) && (decide (subIn K (.ref (ga K d.cn)) (.type d.B) = some true) && (decide (mroIn K (ga K d.cn) (.ref (ga K d.cn)) = some true) &&
  (decide (typeIn K (.ref (ga K d.cn)) = some (.type "type")) && (eqO (ks_superIn K (ga K d.cn) (ga K d.cn) "__init__") (some (some (.builtin d.initId))) && (eqO (nsIn K mainGlobals "super") (some none) &&
  (eqO (nsIn K cStatics "thirdparty.any") (some none) && (xfB K (ga K d.cn) && iniB K file (d.cn ++ ".__init__") (ga K d.cn) (initAt K d.cn))))))))))))))))))
def TxtOk (st : Stmt) (f : Str) : Prop := ∃ (m : Str) (j : Nat) (p1 p2 q1 q2 q3 q4 q5 q6 r1 r2 r3 r4 : Pos), defArgs st = xA f p1 p2 ∧ defBody st = xB f m j q1 q2 q3 q4 q5 q6 r1 r2 r3 r4 ∧ defScope st = xS f ∧ McOk m j q1 q2 q3 q4 q5
theorem cellB_ok {K : Frag} {C : Addr} {cl : List (Str × Addr)} (h : cellB K C cl = true) : ∃ y cc cv cd cs, cl = [(y, cc)] ∧ K.lookup cc = some ⟨cv, cd, .cell (some (.ref C)), cs⟩ := by
  unfold cellB at h
  split at h
  · rename_i y cc
    split at h
    · rename_i a b D c e
      rw [of_decide_eq_true h] at e
      exact ⟨y, cc, _, _, _, rfl, e⟩
    · cases h
  · cases h
theorem fileB_ok {K : Frag} {file : Str} {v : Value} (h : fileB K file v = true) : ∃ c cv cd vs cs z t, v = .ref c ∧ K.lookup c = some ⟨cv, cd, .fields vs, cs⟩ ∧ vs[2]? = some (.str z t) ∧ (file == z) = true := by
  unfold fileB at h
  split at h
  · rename_i c
    split at h
    · rename_i a b vs d e
      split at h
      · rename_i z t e2
        exact ⟨c, _, _, _, _, z, t, rfl, e, e2, h⟩
      · cases h
    · cases h
  · cases h
theorem XD.own {P : Program} {K : Frag} {h : Heap} {mg : Str → Option Value} {d : XD} {file : Str} (X : K.In h) (G : h.Ns mainGlobals mg) (hok : d.ok file K = true) (hfn : fnE K (initAt K d.cn) = d.val) (tx : TxtOk d.st d.fld)
    (fb : ExcBaseFacts d.B d.newId d.initId d.bmB) (kf : KxsFacts d.B d.initId) (sf : StoreFacts d.B d.bmB "object.__setattr__" "object") (fo : FldOk d.fld) (hfile : (P.main.file : Str) = file) (top : (P.main.scope.names.lookup ("super" : Str)).isSome = false) :
    OwnX P K mg d.cn d.fld d.B d.newId d.initId d.bmB (ga K d.cn) (initAt K d.cn) := by
  unfold XD.ok at hok
  obtain ⟨h1, hok⟩ := ba hok
  obtain ⟨h2, hok⟩ := ba hok
  obtain ⟨h3, hok⟩ := ba hok
  obtain ⟨h4, hok⟩ := ba hok
  obtain ⟨h5, hok⟩ := ba hok
  obtain ⟨h6, hok⟩ := ba hok
  obtain ⟨h7, hok⟩ := ba hok
  obtain ⟨h8, hok⟩ := ba hok
  obtain ⟨h9, hok⟩ := ba hok
  obtain ⟨h10, hok⟩ := ba hok
  obtain ⟨h11, hok⟩ := ba hok
  obtain ⟨h12, hok⟩ := ba hok
  obtain ⟨h13, hok⟩ := ba hok
  obtain ⟨h14, hok⟩ := ba hok
  obtain ⟨h15, hok⟩ := ba hok
  obtain ⟨h16, hok⟩ := ba hok
  obtain ⟨h17, hok⟩ := ba hok
  obtain ⟨h18, h19⟩ := ba hok
  obtain ⟨m, j, p1, p2, q1, q2, q3, q4, q5, q6, r1, r2, r3, r4, t1, t2, t3, t4⟩ := tx
  refine ⟨fb, kf, sf, fo, mg_of X G (eqO_ok h1), h2, h3, h4, eqO_ok h5, eqO_ok h6, eqO_ok h8, of_decide_eq_true h9, h10, of_decide_eq_true h11, of_decide_eq_true h12, of_decide_eq_true h13, of_decide_eq_true h14, eqO_ok h15, mg_none_of X G (eqO_ok h16), xfB_ok h18, eqO_ok h7, eqO_ok h17, top, ?_⟩
  unfold iniB at h19
  unfold fnE XD.val at hfn
  cases e : K.lookup (initAt K d.cn) with
  | none =>
    rw [e] at hfn
    cases hfn
  | some o =>
    obtain ⟨oc, od, dt, osl⟩ := o
    rw [e] at hfn h19
    cases dt with
    | func fd =>
      obtain ⟨g1, g2⟩ := ba h19
      obtain ⟨g3, g4⟩ := ba g2
      obtain ⟨g5, g6⟩ := ba g4
      obtain ⟨g7, g8⟩ := ba g6
      obtain ⟨y, cc, cv, cdx, cs, c1, c2⟩ := cellB_ok g7
      obtain ⟨c, cv2, cd2, vs, cs2, z, t, f1, f2, f3, f4⟩ := fileB_ok g8
      have k1 := of_decide_eq_true g1
      have k2 := of_decide_eq_true g3
      obtain ⟨nm, qn, params, body, scope, gl, clo, dv, kv, doc, pm, an, code, ct, bl⟩ := fd
      dsimp only at k1 k2 c1 f1 g5 hfn
      subst k1 k2 c1 f1
      injection hfn with hfn
      simp only [Prod.mk.injEq, List.map_cons, List.map_nil, List.cons.injEq, and_true] at hfn
      obtain ⟨rfl, rfl, rfl, rfl, rfl, rfl, rfl, rfl⟩ := hfn
      rw [t1, t2, t3]
      exact ⟨oc, od, doc, pm, an, ct, osl, _, m, j, p1, p2, q1, q2, q3, q4, q5, q6, r1, r2, r3, r4, cc, c, cv, cv2, cdx, cd2, cs, cs2, vs, z, t, rfl, g5, c2, f2, f3, by rw [hfile]; exact f4, t4⟩
    | _ => cases h19
/-! ### the Hook: what the names of the module reach, and the statics -/
/-- those that are not yet among the bits of m -/
def visB : List Addr → Nat → List Addr → Nat × List Addr
  | [], m, out => (m, out)
  | a :: as, m, out => match Nat.beq (Nat.land (Nat.shiftRight m a) 1) 1 with
    | true => visB as m out
    | false => visB as (Nat.lor m (Nat.shiftLeft 1 a)) (a :: out)
def refB (g : Addr → Option Obj) (a : Addr) : List Addr := match g a with
  | some o => refsD o
  | none => []
def asB (g : Addr → Option Obj) : Nat → Nat → List Addr → List Addr → List Addr
  | 0, _, _, all => all
  | n + 1, m, fr, all => match visB (fr.flatMap (refB g)) m [] with
    | (m', new) => asB g n m' new (new ++ all)
def asE (g : Addr → Option Obj) (n : Nat) : List Addr := sysModules :: cStatics :: asB g n (Nat.shiftLeft 1 mainGlobals) [mainGlobals] [mainGlobals]
abbrev frE (g : Addr → Option Obj) (n : Nat) : Frag := frT g (asE g n)
abbrev AlE : Type := (AlT × Bool) × List FnE
def obsE (n : Nat) (fa : List Fa) (fn : List DefD) (ts : List Tab) (tf : List Defn) (file : Str) (xs : List XD) (ex : Frag → Bool) (g : Addr → Option Obj) : AlE :=
  ((obsT fa fn ts (frE g n), xs.all (XD.ok file (frE g n)) && (tabsB g tf (frE g n) && ex (frE g n))), xs.map fun d => fnE (frE g n) (initAt (frE g n) d.cn))
def valE (fn : List DefD) (ts : List Tab) (xs : List XD) (w : World) : AlE := ((valT fn ts w, true), xs.map XD.val)
structure SaysE (fa : List Fa) (fn : List DefD) (ts : List Tab) (tf : List Defn) (file : Str) (xs : List XD) (ex : Frag → Bool) (w : World) (h : Heap) (K : Frag) : Prop where
  t : SaysT fa fn ts w K
  ok : ∀ d ∈ xs, d.ok file K = true
  txt : ∀ d ∈ xs, fnE K (initAt K d.cn) = d.val
  hd : ∀ p ∈ tf, codeHdIn K (cT K p).1 (cT K p).2 = true
  out : ∀ p ∈ tf, K.lookup (cT K p).2 = none
  empty : ∀ p ∈ tf, h.get? (cT K p).2 = some { cls := .none, data := .fields #[] }
  ex : ex K = true
theorem map_all {α β : Type} {f g : α → β} : ∀ {l : List α}, l.map f = l.map g → ∀ x ∈ l, f x = g x
  | [], _, _, h => nomatch h
  | a :: l, e, x, h => by
    injection e with e1 e2
    cases h with
    | head => exact e1
    | tail _ h => exact map_all e2 x h
theorem saysE_of {n : Nat} {fa : List Fa} {fn : List DefD} {ts : List Tab} {tf : List Defn} {file : Str} {xs : List XD} {ex : Frag → Bool} {w : World} {h : Heap} (e : obsE n fa fn ts tf file xs ex h.get? = valE fn ts xs w) : SaysE fa fn ts tf file xs ex w h (frE h.get? n) := by
  have e1 : obsT fa fn ts (frE h.get? n) = valT fn ts w := congrArg (fun z : AlE => z.1.1) e
  have e2 : (xs.all (XD.ok file (frE h.get? n)) && (tabsB h.get? tf (frE h.get? n) && ex (frE h.get? n))) = true := congrArg (fun z : AlE => z.1.2) e
  have e3 : (xs.map fun d => fnE (frE h.get? n) (initAt (frE h.get? n) d.cn)) = xs.map XD.val := congrArg (fun z : AlE => z.2) e
  obtain ⟨h1, h2⟩ := ba e2
  obtain ⟨h2, hex⟩ := ba h2
  have tabs : ∀ p ∈ tf, codeHdIn (frE h.get? n) (cT (frE h.get? n) p).1 (cT (frE h.get? n) p).2 = true ∧ ∃ o, h.get? (cT (frE h.get? n) p).2 = some o ∧ emptyTab o = true := fun p hp => by
    obtain ⟨h3, h4⟩ := ba (List.all_eq_true.mp h2 p hp)
    refine ⟨h3, ?_⟩
    split at h4
    · rename_i o q
      exact ⟨o, q, h4⟩
    · cases h4
  refine ⟨e1, List.all_eq_true.mp h1, fun d hd => map_all e3 d hd, fun p hp => (tabs p hp).1, fun p hp => ?_, fun p hp => ?_, hex⟩
  · obtain ⟨o, q, z⟩ := (tabs p hp).2
    exact frT_none q z
  · obtain ⟨o, q, z⟩ := (tabs p hp).2
    rw [q, emptyTab_eq z]
def hookE (n : Nat) (fa : List Fa) (fn : List DefD) (ts : List Tab) (tf : List Defn) (file : Str) (xs : List XD) (ex : Frag → Bool) : Hook where
  α := AlE
  obs := fun s => obsE n fa fn ts tf file xs ex s.heap.get?
  val := fun w => valE fn ts xs w
  says := fun w h => ∃ K : Frag, K.In h ∧ SaysE fa fn ts tf file xs ex w h K
  of := fun _ _ e => ⟨_, frT_in, saysE_of e⟩
  keeps := fun _ _ _ ⟨K, hK, c⟩ k => ⟨K, Frag.In.keeps hK k, ⟨c.t, c.ok, c.txt, c.hd, c.out, fun p hp => k _ _ (c.empty p hp), c.ex⟩⟩
theorem obsE_eq {n : Nat} {fa : List Fa} {fn : List DefD} {ts : List Tab} {tf : List Defn} {file : Str} {xs : List XD} {ex : Frag → Bool} {g : Addr → Option Obj} {s : Shared} (h : ∀ a, g a = s.heap.get? a) : obsE n fa fn ts tf file xs ex g = (hookE n fa fn ts tf file xs ex).obs s := by
  have e : g = s.heap.get? := funext h
  rw [e]
  rfl
/-! ### the three bases -/
abbrev veB : List Value := [.type "ValueError", .type "Exception", .type "BaseException", .type "object"]
abbrev leB : List Value := [.type "LookupError", .type "Exception", .type "BaseException", .type "object"]
abbrev oeB : List Value := [.type "OverflowError", .type "ArithmeticError", .type "Exception", .type "BaseException", .type "object"]
/-- the __init__ that a class's text begins with -/
def clsInit : Stmt → Stmt
  | .ClassDef _ _ _ (st :: _) .. => st
  | st => st
end DWX

set_option Elab.async false
set_option linter.all false
set_option maxRecDepth 100000
set_option maxHeartbeats 4000000
/-! OBH: what the head tells of properties: the getter's text, the property's own facts -/
namespace DW
open PySem PySem.W PySem.Spec PyProof.Rows L2
structure GD where
  cls : Str
  f : Str
  d : He.DefD
def fnWA (K : Frag) (a : Addr) : He.FnW := match K.lookup a with
  | some ⟨_, _, .func fd, _⟩ => some (fd.name, fd.qualname, fd.params, fd.body, fd.scope, fd.globals, fd.closure, fd.builtins)
  | _ => none
def recB (K : Frag) (p : Addr) : Bool := match recIn K p "property" with
  | some (.ref _ :: _) => true
  | _ => false
def funB (K : Frag) (a : Addr) (d : He.DefD) : Bool := keepIn K (.ref a) && (match K.lookup a with
  | some ⟨_, _, .func fd, _⟩ => codeIn K fd.code d.qual && (He.dflB K fd.defaults (d.dvs K) && He.kwdB K fd.kwdefaults (d.kws K))
  | _ => false)
abbrev prA (K : Frag) (cls f : Str) : Addr := He.ma K (He.ga K cls) f
def GD.ok (K : Frag) (g : GD) : Bool := He.eqO (findIn K (.ref (He.ga K g.cls)) g.f) (some (some (.ref (prA K g.cls g.f)))) && (He.eqO (specialIn K (.ref (prA K g.cls g.f)) "__get__") (some (some (.builtin "property.__get__"))) &&
  (decide (takesIn K (.ref (prA K g.cls g.f)) = some true) && (recB K (prA K g.cls g.f) && funB K (gtA K g.cls g.f) g.d)))
theorem funD_at {K : Frag} {d : He.DefD} {a : Addr} (e : fnWA K a = d.val) (c : funB K a d = true) : ∃ fd, FunD K d.name d.qual d.params d.body d.scope (d.dvs K) (d.kws K) a fd := by
  obtain ⟨kp, c2⟩ := He.ba c
  unfold fnWA at e
  cases q : K.lookup a with
  | none =>
    rw [q] at c2
    cases c2
  | some o =>
    obtain ⟨oc, od, dt, osl⟩ := o
    rw [q] at c2 e
    cases dt with
    | func fd =>
      obtain ⟨n1, n2, n3, n4, n5, n6, n7, n8, n9, n10, n11, n12, n13, n14, n15⟩ := fd
      have e2 : (some (n1, n2, n3, n4, n5, n6, n7, n15) : He.FnW) = some (d.name, d.qual, d.params, .stmts d.body, d.scope, mainGlobals, [], builtinsNs) := e
      simp only [Option.some.injEq, Prod.mk.injEq] at e2
      obtain ⟨h1, h2, h3, h4, h5, h6, h7, h8⟩ := e2
      subst h1 h2 h3 h4 h5 h6 h7 h8
      have c3 : (codeIn K n13 d.qual && (He.dflB K n8 (d.dvs K) && He.kwdB K n9 (d.kws K))) = true := c2
      obtain ⟨k1, k2⟩ := He.ba c3
      obtain ⟨k3, k4⟩ := He.ba k2
      exact ⟨_, ⟨oc, od, n8, n9, n10, n11, n12, n13, n14, osl, rfl, q, k1, He.dflB_ok k3, He.kwdB_ok k4⟩, kp⟩
    | _ => cases c2
theorem GD.prop {K : Frag} {g : GD} (c : g.ok K = true) : PropOf K (He.ga K g.cls) g.f (prA K g.cls g.f) (gtA K g.cls g.f) := by
  obtain ⟨c1, c⟩ := He.ba c
  obtain ⟨c2, c⟩ := He.ba c
  obtain ⟨c3, c⟩ := He.ba c
  obtain ⟨c4, c5⟩ := He.ba c
  refine ⟨He.eqO_ok c1, He.eqO_ok c2, of_decide_eq_true c3, ?_⟩
  unfold recB at c4
  unfold gtA
  split at c4
  · rename_i r rest e
    exact ⟨rest, by
      show recIn K (He.ma K (He.ga K g.cls) g.f) "property" = _
      rw [e]⟩
  · cases c4
theorem GD.get {K : Frag} {g : GD} (c : g.ok K = true) (e : fnWA K (gtA K g.cls g.f) = g.d.val) : ∃ fd, FunD K g.d.name g.d.qual g.d.params g.d.body g.d.scope (g.d.dvs K) (g.d.kws K) (gtA K g.cls g.f) fd := by
  obtain ⟨c1, c⟩ := He.ba c
  obtain ⟨c2, c⟩ := He.ba c
  obtain ⟨c3, c⟩ := He.ba c
  obtain ⟨c4, c5⟩ := He.ba c
  exact funD_at e c5
/-! ### the Hook -/
abbrev AlP : Type := DWX.AlE × List He.FnW
def obsP (n : Nat) (fa : List He.Fa) (fn : List He.DefD) (ts : List He.Tab) (tf : List He.Defn) (file : Str) (xs : List DWX.XD) (ex : Frag → Bool) (gs : List GD) (g : Addr → Option Obj) : AlP :=
  (DWX.obsE n fa fn ts tf file xs (fun K => ex K && gs.all (GD.ok K)) g, gs.map fun d => fnWA (DWX.frE g n) (gtA (DWX.frE g n) d.cls d.f))
def valP (fn : List He.DefD) (ts : List He.Tab) (xs : List DWX.XD) (gs : List GD) (w : World) : AlP := (DWX.valE fn ts xs w, gs.map fun d => d.d.val)
structure SaysP (fa : List He.Fa) (fn : List He.DefD) (ts : List He.Tab) (tf : List He.Defn) (file : Str) (xs : List DWX.XD) (ex : Frag → Bool) (gs : List GD) (w : World) (h : Heap) (K : Frag) : Prop where
  e : DWX.SaysE fa fn ts tf file xs (fun K => ex K && gs.all (GD.ok K)) w h K
  gt : ∀ d ∈ gs, fnWA K (gtA K d.cls d.f) = d.d.val
theorem SaysP.ok {fa : List He.Fa} {fn : List He.DefD} {ts : List He.Tab} {tf : List He.Defn} {file : Str} {xs : List DWX.XD} {ex : Frag → Bool} {gs : List GD} {w : World} {h : Heap} {K : Frag} (c : SaysP fa fn ts tf file xs ex gs w h K) {d : GD} (hd : d ∈ gs) : d.ok K = true :=
  List.all_eq_true.mp (He.ba c.e.ex).2 d hd
def hookP (n : Nat) (fa : List He.Fa) (fn : List He.DefD) (ts : List He.Tab) (tf : List He.Defn) (file : Str) (xs : List DWX.XD) (ex : Frag → Bool) (gs : List GD) : Hook where
  α := AlP
  obs := fun s => obsP n fa fn ts tf file xs ex gs s.heap.get?
  val := fun w => valP fn ts xs gs w
  says := fun w h => ∃ K : Frag, K.In h ∧ SaysP fa fn ts tf file xs ex gs w h K
  of := fun _ _ e => ⟨_, He.frT_in, DWX.saysE_of (congrArg (·.1) e), fun d hd => DWX.map_all (congrArg (·.2) e) d hd⟩
  keeps := fun _ _ _ ⟨K, hK, c⟩ k => ⟨K, Frag.In.keeps hK k, ⟨c.e.t, c.e.ok, c.e.txt, c.e.hd, c.e.out, fun p hp => k _ _ (c.e.empty p hp), c.e.ex⟩, c.gt⟩
theorem obsP_eq {n : Nat} {fa : List He.Fa} {fn : List He.DefD} {ts : List He.Tab} {tf : List He.Defn} {file : Str} {xs : List DWX.XD} {ex : Frag → Bool} {gs : List GD} {g : Addr → Option Obj} {s : Shared} (h : ∀ a, g a = s.heap.get? a) : obsP n fa fn ts tf file xs ex gs g = (hookP n fa fn ts tf file xs ex gs).obs s := by
  have e : g = s.heap.get? := funext h
  rw [e]
  rfl
end DW

set_option Elab.async false
set_option linter.all false
set_option maxRecDepth 100000
set_option maxHeartbeats 4000000
/-! DWT: a law's end where lambdas were made (tables of code objects) -/
namespace DW
open PySem PySem.Spec PyProof.Rows L2
theorem lawT {P : Program} {w : World} {K : PySem.W.Frag} {mg mb : Str → Option Value} {CX : CXT} {k : Nat} {fa a : Addr} {cs : List (Addr × Addr)} {fd : FuncData} {x : Str} {sp : Sp} {t : Shared} {us : List Value} {ns : List Int}
    (kin : K.In t.heap) (glob : t.heap.Ns mainGlobals mg) (blt : t.heap.Ns builtinsNs mb) (boot : ∀ x : Str, x ≠ "__name__" → mb x = bootBuiltins x) (lim : t.heap.NoLimit) (gens : t.gens = #[])
    (tab : ∀ p ∈ cs, t.heap.get? p.2 = some { cls := .none, data := .fields #[] }) (out : ∀ p ∈ cs, K.lookup p.2 = none) (code : ∀ p ∈ cs, PySem.W.codeHdIn K p.1 p.2 = true)
    (bmod : ∃ (bm : Addr) (ob : Obj), mg "__builtins__" = some (.ref bm) ∧ bm ≠ builtinsNs ∧ t.heap.get? bm = some ob ∧ ob.cls = .type "module" ∧ ob.dict = some builtinsNs ∧ ob.data = .plain)
    (obj : t.heap.get? a = some { cls := .type "list", data := .seq us.toArray }) (hints : IntsAre us ns) (len : ns.length ≤ sizeLine) (room : Room k callerA)
    (G : ∀ base : Heap, K.In base → base.Ns mainGlobals mg → (∀ p ∈ cs, LamX.TabB base mg p.1 p.2) → FnG P w K mg base CX k fa fd [x] sp) (bind : ∀ (s : Shared) (u : Value), BindsTo s fd ⟨[u], []⟩ [(x, u)])
    (hsp : ∀ H : Hp, (∀ p ∈ cs, H p.2 = some (.tbl #[])) → SqL K H a (ns.map V.int) → sp [.ref a] H (fun v _ => v = .bl true) fun _ _ _ => False)
    (hCX : ∀ H e s', CX [] H t (fun _ _ _ => False) e s' → False) :
    codeAny (model P w) callerA (.call (.ref fa) ⟨[.ref a], []⟩) (fun r s' => r = .ok (.ret (.bool true)) ∧ OldK t.heap s'.heap ∧ s'.os = t.os ∧ AllBare s'.gens) t := by
  let tb : Addr → Prop := fun b => ∃ p ∈ cs, p.2 = b
  have tabAt : ∀ {b}, tb b → t.heap.get? b = some { cls := .none, data := .fields #[] } := fun ⟨p, hp, e⟩ => e ▸ tab p hp
  have notA : ¬ tb a := fun z => by
    have q := tabAt z
    rw [obj] at q
    cases q
  have codeT : ∀ p ∈ cs, PySem.W.CodeHd t.heap p.1 p.2 := fun p hp => PySem.W.codeHd_of_K kin (code p hp)
  -- H: the script, the tables, no more
  have key : ∀ H : Hp, (∀ p ∈ cs, H p.2 = some (.tbl #[])) → (∀ b, H b = none ∨ tb b ∨ ∃ o xs, H b = some (.frz o (.lst xs))) → SqL K H a (ns.map V.int) → HOk P w H t.heap → (∀ b, H b ≠ none → b = a ∨ tb b) → (H a ≠ none → K.lookup a = none) →
      codeAny (model P w) callerA (.call (.ref fa) ⟨[.ref a], []⟩) (fun r s' => r = .ok (.ret (.bool true)) ∧ OldK t.heap s'.heap ∧ s'.os = t.os ∧ AllBare s'.gens) t := fun H tabs kinds sq hok at_ off => by
    have away : ∀ {b : Addr}, b ≠ a → ¬ tb b → H b = none := fun {b} hb hn => by
      cases q : H b with
      | none => rfl
      | some u =>
        rcases at_ b (by rw [q]; exact fun z => nomatch z) with z | z
        · exact absurd z hb
        · exact absurd z hn
    have other : ∀ {b : Addr} {o : Obj}, t.heap.get? b = some o → (∀ vs n, o.data ≠ .seq vs n) → o.data ≠ .fields #[] → H b = none := fun {b o} e n1 n2 => by
      refine away (fun z => ?_) fun z => ?_
      · rw [z, obj] at e
        cases e
        exact n1 _ _ rfl
      · rw [tabAt z] at e
        cases e
        exact n2 rfl
    have move : ∀ {b : Addr} {m : Str → Option Value}, t.heap.Ns b m → (hidT t.heap H).Ns b m := fun {b m} n => by
      obtain ⟨o, es, ep, e, d, rest⟩ := n
      exact ⟨o, es, ep, hidT_get e (other e (fun _ _ z => by rw [d] at z; cases z) fun z => by rw [d] at z; cases z), d, rest⟩
    have kinH : K.In (hidT t.heap H) := fun b o e => by
      refine hidT_get (kin b o e) ?_
      by_cases hb : b = a
      · subst hb
        cases q : H b with
        | none => rfl
        | some u =>
          rw [off (by rw [q]; exact fun z => nomatch z)] at e
          cases e
      · refine away hb fun ⟨p, hp, z⟩ => ?_
        rw [← z, out p hp] at e
        cases e
    have tabB : ∀ p ∈ cs, LamX.TabB (hidT t.heap H) mg p.1 p.2 := fun p hp => by
      refine ⟨PySem.W.codeHd_of_K kinH (code p hp), ?_, fun z => ?_⟩
      · obtain ⟨bm, ob, b1, b2, b3, b4, b5, b6⟩ := bmod
        refine ⟨bm, ob, b1, b2, fun z => ?_, fun z => ?_, hidT_get b3 (other b3 (fun _ _ z => by rw [b6] at z; cases z) fun z => by rw [b6] at z; cases z), b4, b5, b6⟩
        · obtain ⟨o, es, ep, e, d, _⟩ := glob
          rw [z, e] at b3
          cases b3
          rw [d] at b6
          cases b6
        · rw [z, tab p hp] at b3
          cases b3
          cases b6
      · obtain ⟨o, es, ep, e, d, _⟩ := glob
        rw [z, tab p hp] at e
        cases e
        cases d
    obtain ⟨mc, l1, l2⟩ := lim
    have env0 : Env0 P w K mg (hidT t.heap H) callerA [] t H := ⟨rfl, ⟨kinH, move glob, ⟨mb, move blt, boot⟩, ⟨mc, move l1, l2⟩⟩, fun _ _ e => of_hidT e, Nat.le_of_eq (hidT_size _ _), trivial, fun b hb => (nomatch hb), hok, .of_eq gens⟩
    refine codeAny_mono ((G _ kinH (move glob) tabB).run callerA [] t H ⟨[.ref a], []⟩ [.ref a] [.ref a] _ _ room rfl env0 (bind t (.ref a)) (.cons rfl .nil) (hsp H tabs sq)) fun res s' h => ?_
    match res, h with
    | .error e, h => exact (hCX H e s' h).elim
    | .ok .next, h => exact False.elim h
    | .ok .brk, h => exact False.elim h
    | .ok .cont, h => exact False.elim h
    | .ok (.ret u), ⟨v, H', os, bare, un, hok', rel, q⟩ =>
      have hv : v = .bl true := q
      subst hv
      have hu : u = Value.bool true := rel
      subst hu
      have stay : ∀ b o, ¬ tb b → t.heap.get? b = some o → s'.heap.get? b = some o := fun b o nb e => by
        rcases kinds b with z | z | ⟨ob, xs, z⟩
        · exact un.keep b o e z (fun m => nomatch m) (fun m => nomatch m)
        · exact absurd z nb
        · have e1 := (hok b _ z).1
          rw [e] at e1
          cases e1
          exact (hok' b _ (un.frzs b _ _ z)).1
      have more : ∀ p ∈ cs, ∃ vs : Array Value, s'.heap.get? p.2 = some { cls := .none, data := .fields vs } := fun p hp => by
        obtain ⟨vs, z⟩ := un.tbls p.2 #[] (tabs p hp)
        exact ⟨_, hok' p.2 _ z⟩
      refine ⟨rfl, ⟨fun b o e => ?_, fun b o e => ?_⟩, os, bare⟩
      · by_cases hb : tb b
        · obtain ⟨p, hp, z⟩ := hb
          subst z
          obtain ⟨vs, hvs⟩ := more p hp
          rw [tab p hp] at e
          cases e
          exact .inr (.inl ⟨((codeT p hp).tab (tab p hp)).isCodeTable, rfl, #[], vs, rfl, by rw [Array.empty_append]; exact hvs⟩)
        · exact .inl (stay b o hb e)
      · by_cases hb : tb b
        · obtain ⟨p, hp, z⟩ := hb
          subst z
          obtain ⟨vs, hvs⟩ := more p hp
          exact ⟨_, hvs⟩
        · exact ⟨o, stay b o hb e⟩
  have rel := vals_ints hints
  have tabIn : ∀ p ∈ cs, tb p.2 := fun p hp => ⟨p, hp, rfl⟩
  have tabNe : ∀ p ∈ cs, p.2 ≠ a := fun p hp z => notA (z ▸ tabIn p hp)
  classical
  by_cases hk : ∃ o, K.lookup a = some o
  · obtain ⟨o, hk⟩ := hk
    have e := kin a o hk
    rw [obj] at e
    cases e
    refine key (fun b => if tb b then some (.tbl #[]) else none) (fun p hp => if_pos (tabIn p hp)) (fun b => ?_) (.inr ⟨_, us.toArray, _, hk, rfl, rfl, rfl, by rw [List.size_toArray, hints.length]; exact len, by simpa using rel⟩) (fun b u z => ?_) (fun b z => ?_) fun z => absurd (if_neg notA) z
    · by_cases hb : tb b
      · exact .inr (.inl hb)
      · exact .inl (if_neg hb)
    · by_cases hb : tb b
      · cases (if_pos hb).symm.trans z
        exact tabAt hb
      · cases (if_neg hb).symm.trans z
    · by_cases hb : tb b
      · exact .inr hb
      · exact absurd (if_neg hb) z
  · have hk' : K.lookup a = none := by
      cases q : K.lookup a with
      | none => rfl
      | some o => exact absurd ⟨o, q⟩ hk
    refine key (fun b => if b = a then some (.frz { cls := .type "list", data := .seq us.toArray } (.lst (ns.map V.int))) else if tb b then some (.tbl #[]) else none) (fun p hp => (if_neg (tabNe p hp)).trans (if_pos (tabIn p hp))) (fun b => ?_) (.inl (.inr ⟨_, if_pos rfl⟩)) (fun b u z => ?_) (fun b z => ?_) fun _ => hk'
    · by_cases hb : b = a
      · exact .inr (.inr ⟨_, _, if_pos hb⟩)
      · by_cases hb2 : tb b
        · exact .inr (.inl hb2)
        · exact .inl ((if_neg hb).trans (if_neg hb2))
    · by_cases hb : b = a
      · subst hb
        cases (if_pos rfl).symm.trans z
        exact ⟨obj, by rw [List.length_map]; exact len, us, _, rel, obj⟩
      · have z1 := (if_neg hb).symm.trans z
        by_cases hb2 : tb b
        · cases (if_pos hb2).symm.trans z1
          exact tabAt hb2
        · cases (if_neg hb2).symm.trans z1
    · by_cases hb : b = a
      · exact .inl hb
      · by_cases hb2 : tb b
        · exact .inr hb2
        · exact absurd ((if_neg hb).trans (if_neg hb2)) z
theorem walkT {l : PySem.W.OpenLaw} {n k : Nat} {q : Program} {loose : List Str} {XP : (Str → Option Value) → Heap → Prop} {YP : World → Heap → Prop} {d : DefRec} {CX : CXT} {x : Str}
    (most : l.most = some n) (line : n ≤ sizeLine) (dfl : d.params.defaults = []) (room : Room k callerA)
    (F : ∀ (w : World) (mg : Str → Option Value) (fa : Addr) (h : Heap), YP w h → h.Ns mainGlobals mg → mg d.name = some (.ref fa) →
      ∃ (K : PySem.W.Frag) (fd : FuncData) (sp : Sp) (cs : List (Addr × Addr)), K.In h ∧ (∀ p ∈ cs, h.get? p.2 = some { cls := .none, data := .fields #[] }) ∧ (∀ p ∈ cs, K.lookup p.2 = none) ∧ (∀ p ∈ cs, PySem.W.codeHdIn K p.1 p.2 = true) ∧ (∀ (s : Shared) (u : Value), BindsTo s fd ⟨[u], []⟩ [(x, u)]) ∧
        (∀ (H : Hp) (a : Addr) (ns : List Int), ns.length ≤ n → (∀ p ∈ cs, H p.2 = some (.tbl #[])) → SqL K H a (ns.map V.int) → sp [.ref a] H (fun v _ => v = .bl true) fun _ _ _ => False) ∧
        ∀ base : Heap, K.In base → base.Ns mainGlobals mg → (∀ p ∈ cs, LamX.TabB base mg p.1 p.2) → FnG l.prog w K mg base CX k fa fd [x] sp)
    (hCX : ∀ (H : Hp) (s : Shared) (e : Value) (s' : Shared), CX [] H s (fun _ _ _ => False) e s' → False) :
    PySem.W.WalkO q loose XP YP l.row.toRowW d [] (fun f vs => PySem.call f vs) :=
  Att.attach_call most dfl fun w _ t mg mb fa _ _ _ _ a us ns Gd Y _ _ _ hmg hobj hints hlen hg => by
    obtain ⟨K, fd, sp, cs, kin, tab, out, code, bind, hsp, hF⟩ := F w mg fa _ Y Gd.T.g hmg
    exact lawT kin Gd.T.g Gd.T.b Gd.T.builtins Gd.T.nolimit hg tab out code Gd.T.bmain hobj hints (Nat.le_trans hlen line) room hF bind (fun H tabs sq => hsp H a ns hlen tabs sq) fun H e s' => hCX H t e s'
end DW

set_option Elab.async false
set_option linter.all false
set_option maxRecDepth 100000
set_option maxHeartbeats 4000000
/-! DWU: a lambda handed to a def that calls it (with no parameter, or with one that has a whole number as default) -/
namespace DW
open PySem PySem.Spec PyProof.Rows L2 LamX
/-- H1 is H, but for the table at P and a new code object -/
structure Tg (P : Addr) (T : List (Addr × Str)) (H H1 : Hp) : Prop where
  kp : ∀ b o, b ≠ P → H b = some o → H1 b = some o
  tb : Tabs T H1
  st : H1 P ≠ none
abbrev lamQ (X : Cx) : Str := X.env.qual ++ "<lambda>"
abbrev lamO (X : Cx) (params : Arguments) (body : Expr) (scope : Scope) (dV doc pm : Value) (c' : Addr) (ctv : Value) : Obj := PySem.W.kdv_obj "<lambda>" (lamQ X) params (.expr body) scope (cloFrom X.env.cells scope.names []) dV doc pm c' ctv
section
variable {X : Cx} {pins : List (Addr × Obj)} {σ : L2.St} {H HZ : Hp} {s s1 : Shared}
theorem noframe (I : Inv X pins σ H s) {f : Addr} (hf : s.heap.objs.size ≤ f) : f ∉ frs X.stack := fun z => by
  rcases List.mem_cons.mp (I.stkSub _ z) with e | e
  · exact Nat.lt_irrefl _ (Nat.lt_of_lt_of_le (e ▸ I.lt) hf)
  · exact I.nofs hf e
/-- new since the def was entered, and none of the pinned ones -/
structure FreshA (X : Cx) (pins : List (Addr × Obj)) (f : Addr) : Prop where
  e0 : X.s_0.heap.get? f = none
  pn : ∀ p ∈ X.pn ++ pins, p.1 ≠ f
  lo : f ≠ X.env.locals
  fs : f ∉ X.fs
theorem freshA (I : Inv X pins σ H s) {f : Addr} (hf : s.heap.objs.size ≤ f) : FreshA X pins f where
  e0 := by
    cases z : X.s_0.heap.get? f with
    | none => rfl
    | some o => exact absurd (Nat.lt_of_lt_of_le (Heap.lt_size z) (Nat.le_trans I.sz hf)) (Nat.lt_irrefl _)
  pn := fun p hp z => Nat.lt_irrefl _ (Nat.lt_of_lt_of_le (Heap.lt_size (I.pin p hp).1) (z ▸ hf))
  lo := fun z => Nat.lt_irrefl _ (Nat.lt_of_lt_of_le (z ▸ I.lt) hf)
  fs := I.nofs hf
/-- how the code object at c' came to be there -/
def Mk (P : Addr) (q : Str) (pos : Pos) (H H1 : Hp) (c' : Addr) : Prop := ∃ ps : Array Value, H P = some (.tbl ps) ∧ TriplesOk ps.toList ∧
  ((H1 = H ∧ codeAmong pos ps.toList = some (.ref c')) ∨ (H c' = none ∧ H1 = upd (upd H P (.tbl (ps ++ #[rawInt pos.line, rawInt pos.col, .ref c']))) c' (CodeO c' q)))
/-- the function object is made -/
theorem lamTail {T : List (Addr × Str)} {c P : Addr} {params : Arguments} {body : Expr} {scope : Scope} {pos : Pos} {dV : Value} {E : Value → Shared → Prop} {Q : Value → Shared → Prop} (I : Inv X pins σ H s) (tab : TabB X.base X.mg c P) (code : X.env.code = .ref c)
    (inT : (P, lamQ X) ∈ T) (only : ∀ p ∈ T, p.1 = P → p.2 = lamQ X) (tabs : Tabs T H) (caught : ∀ y ∈ scope.names, y.2 = .free → ∃ c, X.env.cells.lookup y.1 = some c)
    (h : ∀ (f c' : Addr) (doc pm ctv : Value) (H1 : Hp) (s' : Shared), Inv X pins σ H1 s' → Tg P T H H1 → (∀ b o, b ≠ P → s.heap.get? b = some o → s'.heap.get? b = some o) → (∀ b, s.heap.objs.size ≤ b → H b = none) →
      s'.heap.get? f = some (lamO X params body scope dV doc pm c' ctv) → H1 f = none → f ∉ frs X.stack → H1 c' = some (CodeO c' (lamQ X)) → c' ≠ f → (∀ b o, s.heap.get? b = some o → H b = none → H1 b = none) → FreshA X pins f → Mk P (lamQ X) pos H H1 c' → Q (.ref f) s') :
    wpAny (model X.prog X.w) X.A (makeTail "<lambda>" (lamQ X) params (.expr body) scope X.env dV .none none pos pos.line) Q E s := by
  obtain ⟨ps, atP, tri, each⟩ := tabs _ inT
  have blt : s.heap.BuiltinsAt X.mg P := tab.bm.keeps I.bk
  have getP : s.heap.get? P = some { cls := .none, data := .fields ps } := I.hok P _ atP
  have fresh : ∀ b, s.heap.objs.size ≤ b → H b = none := fun b hb => I.hok.fresh hb
  cases found : codeAmong pos ps.toList with
  | none =>
    refine PySem.W.kdv_makeTail (mg := X.mg) (c := c) (P := P) (ps := ps) (closure_ok caught) I.ok.glob (I.mod.glob.keeps I.bk) code (tab.code.keeps I.bk) getP tri found tab.gP blt fun c' ctv doc h' tk ext ge lt rec tb' => ?_
    obtain ⟨c2, oc, vs, u, e2, hoc, hd, hv⟩ := rec
    cases e2
    have sz : s.heap.objs.size ≤ h'.objs.size := Nat.le_trans ge (Nat.le_of_lt lt)
    have newC : H c' = none := fresh c' ge
    have J := inv_table (t' := tk) (more := #[rawInt pos.line, rawInt pos.col, .ref c']) (h' := h'.push (lamO X params body scope dV doc ((X.mg "__name__").getD .none) c' ctv)) I atP
      (fun b o hb e => Heap.get?_push_of_some _ (ext b o hb e)) (Heap.get?_push_of_some _ tb') ge ⟨oc, vs, u, Heap.get?_push_of_some _ hoc, hd, hv⟩
    have app : (ps ++ #[rawInt pos.line, rawInt pos.col, .ref c']).toList = ps.toList ++ [rawInt pos.line, rawInt pos.col, .ref c'] := by simp
    have nPc : P ≠ c' := ne_of_none atP newC
    have keep1 : ∀ b o, b ≠ P → H b = some o → upd (upd H P (.tbl (ps ++ #[rawInt pos.line, rawInt pos.col, .ref c']))) c' (CodeO c' (lamQ X)) b = some o := fun b o hb e => by
      rw [upd_ne (ne_of_none e newC), upd_ne hb]
      exact e
    have notT : ∀ {b : Addr} {q : Str}, H b = some (CodeO b q) → b ≠ P := fun {b q} e z => by
      rw [z, atP] at e
      exact codeO_ne _ (Option.some.inj e).symm
    refine h h'.objs.size c' doc ((X.mg "__name__").getD .none) ctv _ _ J ⟨keep1, fun p hp => ?_, ?_⟩ (fun b o hb e => Heap.get?_push_of_some _ (ext b o hb e)) fresh (Heap.get?_push_size _ rfl) ?_ (noframe I sz) upd_same (Nat.ne_of_lt lt) (fun b o e n => ?_) (freshA I sz) ⟨ps, atP, tri, .inr ⟨newC, rfl⟩⟩
    · by_cases hb : p.1 = P
      · rw [only p hp hb, hb]
        refine ⟨_, by rw [upd_ne nPc, upd_same], by rw [app]; exact PySem.TriplesOk_snoc _ _ _ _ tri, fun p' cv hcv => ?_⟩
        rw [app] at hcv
        rcases among_app _ tri hcv with z | z
        · obtain ⟨c0, e1, e2⟩ := each p' cv z
          exact ⟨c0, e1, keep1 _ _ (notT e2) e2⟩
        · exact ⟨c', z, upd_same⟩
      · obtain ⟨ps', a1, a2, a3⟩ := tabs p hp
        refine ⟨ps', keep1 _ _ hb a1, a2, fun p' cv hcv => ?_⟩
        obtain ⟨c0, e1, e2⟩ := a3 p' cv hcv
        exact ⟨c0, e1, keep1 _ _ (notT e2) e2⟩
    · rw [upd_ne nPc, upd_same]
      exact fun z => nomatch z
    · rw [upd_ne (Nat.ne_of_gt lt), upd_ne (Nat.ne_of_gt (Nat.lt_of_lt_of_le (Heap.lt_size getP) sz))]
      exact fresh _ sz
    · rw [upd_ne (Nat.ne_of_lt (Nat.lt_of_lt_of_le (Heap.lt_size e) ge)), upd_ne (fun z => by rw [z, atP] at n; cases n)]
      exact n
  | some cv =>
    obtain ⟨c', e, hco⟩ := each pos cv found
    subst e
    refine PySem.W.kdv_makeTailHit (mg := X.mg) (c := c) (P := P) (ps := ps) (closure_ok caught) I.ok.glob (I.mod.glob.keeps I.bk) code (tab.code.keeps I.bk) getP tri found blt fun ctv doc h' tk ext sz => ?_
    have J : Inv X pins σ H { s with heap := h'.push (lamO X params body scope dV doc ((X.mg "__name__").getD .none) c' ctv), toks := tk } := I.kept fun b o e => Heap.get?_push_of_some _ (ext b o e)
    have hcs : c' < s.heap.objs.size := by
      obtain ⟨⟨oc, _, _, q, _⟩, _⟩ := I.hok c' _ hco
      exact Heap.lt_size q
    exact h h'.objs.size c' doc ((X.mg "__name__").getD .none) ctv H _ J ⟨fun _ _ _ e => e, tabs, by rw [atP]; exact fun z => nomatch z⟩ (fun b o _ e => Heap.get?_push_of_some _ (ext b o e)) fresh (Heap.get?_push_size _ rfl) (fresh _ sz) (noframe I sz) hco (Nat.ne_of_lt (Nat.lt_of_lt_of_le hcs sz)) (fun _ _ _ n => n) (freshA I sz) ⟨ps, atP, tri, .inl ⟨rfl, found⟩⟩
/-! ### the lambda's names -/
structure LamN (N : List Str) (sc scope : Scope) : Prop where
  kind : scope.kind = .function
  co : scope.isCoroutine = false
  gen : scope.isGenerator = false
  cell : ∀ y ∈ scope.names, y.2 ≠ .cell
  own : ∀ y, scope.names.lookup y = some .local → y ∉ N
  free : ∀ y ∈ scope.names, y.2 = .free → sc.names.lookup y.1 = some .cell ∨ sc.names.lookup y.1 = some .free
def lamNB (N : List Str) (sc scope : Scope) : Bool :=
  decide (scope.kind = .function) && (!scope.isCoroutine && (!scope.isGenerator && (scope.names.all (fun y => !decide (y.2 = .cell)) && (scope.names.all (fun y => !decide (y.2 = .local) || !N.contains y.1) && scope.names.all fun y => !decide (y.2 = .free) || decide (sc.names.lookup y.1 = some .cell) || decide (sc.names.lookup y.1 = some .free)))))
theorem lamN_by {N : List Str} {sc scope : Scope} (h : lamNB N sc scope = true) : LamN N sc scope := by
  unfold lamNB at h
  simp only [Bool.and_eq_true, Bool.or_eq_true, Bool.not_eq_true', decide_eq_true_eq, decide_eq_false_iff_not, List.all_eq_true] at h
  obtain ⟨h1, h2, h3, h4, h5, h6⟩ := h
  refine ⟨h1, h2, h3, h4, fun y hy hm => ?_, fun y hy e => ?_⟩
  · rcases h5 _ (PySem.mem_of_lookup hy) with z | z
    · exact z rfl
    · have : N.contains y = true := by simpa using hm
      rw [this] at z
      cases z
  · rcases h6 y hy with (z | z) | z
    · exact absurd e z
    · exact .inl z
    · exact .inr z
theorem LamN.has {scope : Scope} (L : LamN X.N X.env.scope scope) (ok : X.Ok) : ∀ y ∈ scope.names, y.2 = .free → ∃ c, X.env.cells.lookup y.1 = some c := fun y hy e => by
  rcases L.free y hy e with k | k
  · exact ok.has _ (.inl k)
  · exact ok.has _ (.inr k)
/-- the lambda's body begins -/
theorem lamStart {A : Around} {outer : List Env} {E : XK} {scope : Scope} {f c' : Addr} {h₁ : Heap} {tk : Nat} {binds : List (Str × Value)} (I : Inv X pins σ H s) (L : LamN X.N X.env.scope scope) (e0 : Env0 X.prog X.w X.K X.mg X.base A outer s1 HZ) (calm : A.handled = none)
    (un : Un (frs X.stack) [] H HZ s.heap s1.heap) (ns : h₁.Ns s1.heap.objs.size fun y => binds.reverse.lookup y) (kp : ∀ b o, s1.heap.get? b = some o → h₁.get? b = some o) :
    Inv (lamCx X A outer s1 HZ E scope f c') [] σ HZ { s1 with heap := h₁, toks := tk } := by
  have caught := L.has I.ok
  have down : ∀ {y c}, (cloFrom X.env.cells scope.names []).lookup y = some c → X.env.cells.lookup y = some c := fun {y c} e => by
    rcases cloFrom_mem (PySem.mem_of_lookup e) with z | ⟨z1, z2⟩
    · cases z
    · obtain ⟨c1, hc⟩ := caught _ z1 rfl
      rw [z2, show X.env.cells.lookup y = some c1 from hc]
      rfl
  have up : ∀ {y}, scope.names.lookup y = some .free → ∃ c, (cloFrom X.env.cells scope.names []).lookup y = some c := fun {y} hl => mem_lookup (cloFrom_has (cells := X.env.cells) (acc := []) (PySem.mem_of_lookup hl))
  have cellK : ∀ {c : Addr} {v : Option Value}, H c = none → s.heap.IsCell c v → h₁.IsCell c v := fun {c v} n ⟨o, ho, hd⟩ => by
    obtain ⟨sl, q⟩ := un.any ho n (fun z => nomatch z)
    exact ⟨_, kp _ _ q, hd⟩
  have none_ : ∀ b : Addr, b ∉ (lamCx X A outer s1 HZ E scope f c').ex := fun b z => nomatch (show b ∈ ([] : List Addr) from z)
  refine ⟨⟨e0.mod, L.kind, rfl, rfl, Nat.le_refl _, fun y z c e1 e2 => I.ok.inj y z c (down e1) (down e2), fun y hy => ?_, fun y c z _ => (Bool.false_ne_true z).elim, fun _ => calm, Around.frames_deeper e0.frames, .inr ⟨rfl, rfl⟩, fun b z => absurd z (none_ b), e0.bs, e0.bsz, fun b _ _ => none_ b, fun b z => absurd z (none_ b), e0.funs, e0.frf⟩,
    rfl, e0.bare, Un.kept kp, ⟨_, ns, fun i y v e1 e2 e3 => ?_⟩, fun y c e => ?_, e0.hok.fresh (Nat.le_refl _), fun y c e => ?_, fun q hq => (nomatch (show q ∈ ([] : List (Addr × Obj)) ++ [] from hq)), e0.hok.kept kp, I.len⟩
  · rcases (show scope.names.lookup y = some .cell ∨ scope.names.lookup y = some .free from hy) with hy | hy
    · exact absurd rfl (L.cell _ (PySem.mem_of_lookup hy))
    · exact up hy
  · rcases (show Vis scope y from e3) with k | k | k
    · exact absurd (List.mem_of_getElem? (show X.N[i]? = some y from e1)) (L.own y k)
    · exact absurd rfl (L.cell _ (PySem.mem_of_lookup k))
    · obtain ⟨m, hn, hl⟩ := I.loc
      have side := L.free _ (PySem.mem_of_lookup k) rfl
      obtain ⟨w', r, q⟩ := hl i y v e1 e2 (side.elim (fun k => .inr (.inl k)) (fun k => .inr (.inr k)))
      obtain ⟨c2, h2⟩ := up k
      refine ⟨w', r, .inr ⟨.inr k, c2, h2, ?_⟩⟩
      rcases q with ⟨k', _⟩ | ⟨_, c3, e', z⟩
      · have k' : X.env.scope.names.lookup y = some .local := k'
        rcases side with k2 | k2
        · rw [show X.env.scope.names.lookup y = _ from k2] at k'
          cases k'
        · rw [show X.env.scope.names.lookup y = _ from k2] at k'
          cases k'
      · rw [down h2] at e'
        cases e'
        exact cellK (I.freeC y _ (down h2)) z
  · obtain ⟨w', z⟩ := I.cell y c (down e)
    exact ⟨w', cellK (I.freeC y c (down e)) z⟩
  · obtain ⟨v, o, ho, hd⟩ := I.cell y c (down e)
    exact un.free c o ho (I.freeC y c (down e)) (fun z => nomatch z)
/-! ### it is called: Z is the context of the def that got it, entered at s -/
/-- the call's reading: what it may raise is wished for where it is called -/
def tAct (f c' : Addr) (q : Str) (i : Nat) (W : WX) (tl : XK → Hp → VK → Prop) : TE := fun σZ HZ Q => ∃ E : XK, σZ[i]? = some (some (.ref f)) ∧ HZ c' = some (CodeO c' q) ∧ (∀ cls d H', E cls d H' → W cls d σZ H') ∧ tl E HZ Q
theorem lamAct {CXg : CXT} {Eg : XK} {Ng : List Str} {qg : Str} {sg : Scope} {g f c' : Addr} {cdg dV doc pm ctv : Value} {params : Arguments} {body : Expr} {scope : Scope} {k i : Nat} {a : Str} {pn : List (Addr × Obj)} {xe : Value → Shared → Prop} {W : WX} {t : XK → TE} {p1 p2 : Pos} {binds : List (Str × Value)}
    (I : Inv X pins σ H s) (L : LamN X.N X.env.scope scope) (hf : s.heap.get? f = some (lamO X params body scope dV doc pm c' ctv)) (hfn : H f = none) (hfr : f ∉ frs X.stack) (locs : ∀ y ∈ binds, scope.names.lookup y.1 = some .local)
    (bind : ∀ s1 : Shared, (∀ b o, s.heap.get? b = some o → H b = none → b ∉ frs X.stack → s1.heap.get? b = some o) → BindsTo s1 (PySem.W.kdv_fn "<lambda>" (lamQ X) params (.expr body) scope (cloFrom X.env.cells scope.names []) dV doc pm (.ref c') ctv) ⟨[], []⟩ binds)
    (tk : Takes ((cxOf CXg X.prog X.w X.K X.mg X.base Ng qg sg g cdg X.A X.stack s H Eg).tr pn xe) W) (room : Room (k + 1) (X.A.deeper (envOfC qg sg s.heap.objs.size g cdg)))
    (hbody : ∀ (A : Around) (outer : List Env) (s : Shared) (H : Hp) (E : XK) (f c' : Addr), Room k (A.deeper (lamEnv X scope s.heap.objs.size f c')) → (∃ e, A = X.A.deeper e) → PE (lamCx X A outer s H E scope f c') body (t E))
    (hN : Ng[i]? = some a) (hv : Vis sg a) (hd : (a == ("__debug__" : Str)) = false := by decide) (hcd : (a == ("__classdict__" : Str)) = false := by decide) :
    PE ((cxOf CXg X.prog X.w X.K X.mg X.base Ng qg sg g cdg X.A X.stack s H Eg).tr pn xe) (.Call (.Name a p1) [] [] p2) (tAct f c' (lamQ X) i W fun E HZ Q => t E σ HZ Q) := by
  refine ⟨fun pinsZ sZ σZ HZ Q IZ ⟨E, at_, hc, hW, ht⟩ => wpAny_Call_Name_kw (thn ((pe_var (pos := p1) (i := i) hN hv hd hcd).run pinsZ sZ σZ HZ (fun v H1 => v = .ref f ∧ H1 = HZ) IZ ⟨.ref f, at_, rfl, rfl⟩) fun u s1 ⟨v, H1, J, rv, q1⟩ => ?_)⟩
  obtain ⟨ev, eH⟩ := q1
  subst ev eH
  obtain rfl : u = Value.ref f := rv
  have un : Un (frs X.stack) [] H H1 s.heap s1.heap := J.base
  have old : ∀ b o, s.heap.get? b = some o → H b = none → b ∉ frs X.stack → s1.heap.get? b = some o := fun b o e n m => un.keep b o e n m (fun z => nomatch z)
  have of1 := old f _ hf hfn hfr
  refine PySem.W.callWith_F0 ⟨_, _, _, _, of1⟩ ?_
  obtain ⟨⟨oc, vs, t', hoc, hdc, hvc⟩, _, _⟩ := J.hok c' _ hc
  have rc : codeAny (model X.prog X.w) (X.A.deeper (envOfC qg sg s.heap.objs.size g cdg)) (.call (.ref f) ⟨[], []⟩) (CR (L2.CX X.prog X.w) (envOfC qg sg s.heap.objs.size g cdg :: X.stack) X.prog X.w H1 s1 Q E) s1 := by
    refine PySem.W.kla_callFunE room.depth of1 rfl L.co L.gen rfl ⟨c', oc, vs, t', rfl, hoc, hdc, hvc⟩ (bind s1 old _ _ _ _ (wpAny_newFunctionEnv L.cell locs (fun h₁ hns hsb => ⟨J.nolimit.fresh _ hsb, ?_⟩) L.kind))
    show codeAny _ _ (.expr body (lamEnv X scope s1.heap.objs.size f c')) _ _
    have kp : ∀ b o, s1.heap.get? b = some o → h₁.get? b = some o := fun b o e => hsb.extBut b o (Nat.ne_of_lt (Heap.lt_size e)) (Heap.get?_push_of_some _ e)
    have JL : Inv (lamCx X (X.A.deeper (envOfC qg sg s.heap.objs.size g cdg)) (envOfC qg sg s.heap.objs.size g cdg :: X.stack) s1 H1 E scope f c') [] σ H1 { s1 with heap := h₁, toks := s1.toks + binds.length } := lamStart I L J.env0 room.hd un hns kp
    refine PySem.W.kla_codeExpr (wpAny_mono ((hbody _ _ s1 H1 E f c' (room.deeper _) ⟨_, rfl⟩).run [] _ _ H1 Q JL ht) (fun v s' hq => ?_) fun e s' hq => hq)
    obtain ⟨w', H', J', rv, q⟩ := hq
    exact ⟨w', H', J'.os, J'.bare, J'.base, J'.hok, rv, q⟩
  refine wpAny_call (codeAny_mono rc fun r s' hq => ?_)
  match r, hq with
  | .error e, hq => exact tk e s' (XE.of_call J (fun cls d H' h => hW cls d H' h) hq)
  | .ok (.ret u), hq => exact J.after hq
  | .ok .next, hq => exact False.elim hq
  | .ok .brk, hq => exact False.elim hq
  | .ok .cont, hq => exact False.elim hq
/-! ### the lambda's expression -/
theorem lamEv0 {params : Arguments} {body : Expr} {scope : Scope} {pos : Pos} {env : Env} {M : Model} {A : Around} {E : Value → Shared → Prop} {Q : Value → Shared → Prop} (none_ : defaultsOf params env = ([], []))
    (h : wpAny M A (makeTail "<lambda>" (env.qual ++ "<lambda>") params (.expr body) scope env .none .none none pos pos.line) Q E s) : wpAny M A (eval (.Lambda params body scope pos) env) Q E s := by
  refine PySem.W.kla_eval none_ ?_
  rw [makeFunction_eq]
  simp only [List.zip_nil_right, List.filterMap_nil, List.isEmpty_nil, if_true, pure_bind]
  exact h
/-- how a lambda is made: with no default, or with one whole number -/
inductive LamP (env : Env) (params : Arguments) (body : Expr) (scope : Scope) : Prop
  | no (d : defaultsOf params env = ([], [])) (b : ∀ (q : Str) (cl : List (Str × Addr)) (doc pm cv ctv : Value), bindArgs (PySem.W.kdv_fn "<lambda>" q params (.expr body) scope cl .none doc pm cv ctv) ⟨[], []⟩ = pure [])
  | one {n : Int} {j : Nat} {p : Pos} {y : Str} (d : params.defaults = [.Constant (.int n) j p]) (kw : params.kw_defaults = []) (l : scope.names.lookup y = some .local) (kk : Str → List (Str × Addr) → Value → Value → Value → Value → Value → Option (Array Value) → Sem (List (Str × Value)))
      (b1 : ∀ (q : Str) (cl : List (Str × Addr)) (dV doc pm cv ctv : Value), bindArgs (PySem.W.kdv_fn "<lambda>" q params (.expr body) scope cl dV doc pm cv ctv) ⟨[], []⟩ = seqItems? dV >>= kk q cl dV doc pm cv ctv) (b2 : ∀ (q : Str) (cl : List (Str × Addr)) (dV doc pm cv ctv v : Value), kk q cl dV doc pm cv ctv (some #[v]) = pure [(y, v)])
theorem lamEval {T : List (Addr × Str)} {c P : Addr} {params : Arguments} {body : Expr} {scope : Scope} {pos : Pos} {E : Value → Shared → Prop} {Q : Value → Shared → Prop} (I : Inv X pins σ H s) (lp : LamP X.env params body scope) (tab : TabB X.base X.mg c P) (code : X.env.code = .ref c)
    (inT : (P, lamQ X) ∈ T) (only : ∀ p ∈ T, p.1 = P → p.2 = lamQ X) (tabs : Tabs T H) (caught : ∀ y ∈ scope.names, y.2 = .free → ∃ c, X.env.cells.lookup y.1 = some c)
    (h : ∀ (f c' : Addr) (dV doc pm ctv : Value) (binds : List (Str × Value)) (H1 : Hp) (s' : Shared), Inv X pins σ H1 s' → Tg P T H H1 → s'.heap.get? f = some (lamO X params body scope dV doc pm c' ctv) → H1 f = none → f ∉ frs X.stack → H1 c' = some (CodeO c' (lamQ X)) → (∀ y ∈ binds, scope.names.lookup y.1 = some .local) →
      (∀ s1 : Shared, (∀ b o, s'.heap.get? b = some o → H1 b = none → b ∉ frs X.stack → s1.heap.get? b = some o) → BindsTo s1 (PySem.W.kdv_fn "<lambda>" (lamQ X) params (.expr body) scope (cloFrom X.env.cells scope.names []) dV doc pm (.ref c') ctv) ⟨[], []⟩ binds) → FreshA X pins f → ((dV = .none ∧ binds = []) ∨ ∃ (d : Addr) (y : Str) (u : Value) (n : Int), dV = .ref d ∧ binds = [(y, u)] ∧ FreshA X pins d ∧ d ≠ f ∧ s'.heap.get? d = some (PySem.W.kdv_tup [u]) ∧ H1 d = none ∧ RelV (.int n) u) → Q (.ref f) s') :
    wpAny (model X.prog X.w) X.A (eval (.Lambda params body scope pos) X.env) Q E s := by
  cases lp with
  | no d b =>
    refine lamEv0 d (lamTail I tab code inT only tabs caught fun f c' doc pm ctv H1 s' J tg kp fr get hn hfr hc ne un nf _ => ?_)
    exact h f c' .none doc pm ctv [] H1 s' J tg get hn hfr hc (fun _ z => nomatch z) (fun s1 _ => BindsTo.of_eq (b _ _ _ _ _ _)) nf (.inl ⟨rfl, rfl⟩)
  | @one n j p y d kw l kk b1 b2 =>
    refine PySem.W.kdv_lam (by rw [d]; rfl) kw ?_
    rw [d]
    refine PySem.W.kdv_all1 (thn ((pe_int (X := X) (j := j) (pos := p)).run pins s σ H (fun v H1 => v = .int n ∧ H1 = H) I ⟨rfl, rfl⟩) fun u s1 ⟨v, H1, J, rv, ev, eH⟩ => ?_)
    subst ev eH
    refine PySem.W.kdv_all0 ?_
    rw [makeFunction_eq]
    simp only [List.zip_nil_right, List.filterMap_nil, List.isEmpty_nil, if_true, pure_bind, List.isEmpty_cons, Bool.false_eq_true, if_false]
    refine wpAny_bind (wpAny_newTextTuple ?_)
    have J2 : Inv X pins σ H1 { s1 with heap := s1.heap.push (PySem.W.kdv_tup [u]) } := J.kept (t' := s1.toks) fun b o e => Heap.get?_push_of_some _ e
    have fresh : H1 s1.heap.objs.size = none := J.hok.fresh (Nat.le_refl _)
    obtain ⟨ps, atP⟩ : ∃ ps, H1 P = some (.tbl ps) := by
      obtain ⟨ps, q, _⟩ := tabs _ inT
      exact ⟨ps, q⟩
    refine lamTail J2 tab code inT only tabs caught fun f c' doc pm ctv H2 s' J3 tg kp fr get hn hfr hc ne un nf _ => ?_
    have nP : s1.heap.objs.size ≠ P := Ne.symm (ne_of_none atP fresh)
    have at_ : s'.heap.get? s1.heap.objs.size = some (PySem.W.kdv_tup [u]) := kp _ _ nP (Heap.get?_push_size _ rfl)
    refine h f c' (.ref s1.heap.objs.size) doc pm ctv [(y, u)] H2 s' J3 tg get hn hfr hc (fun z hz => ?_) (fun s2 old => ?_) ?_ ?_
    · rw [List.mem_singleton] at hz
      subst hz
      exact l
    · exact BindsTo.of_defaults rfl (old _ _ at_ (un _ _ (Heap.get?_push_size _ rfl) fresh) (noframe J (Nat.le_refl _))) rfl (b1 _ _ _ _ _ _ _) (b2 _ _ _ _ _ _ _ u)
    · exact nf
    · refine .inr ⟨_, y, u, n, rfl, rfl, freshA J (Nat.le_refl _), fun z => ?_, at_, un _ _ (Heap.get?_push_size _ rfl) fresh, rv⟩
      have e1 := at_
      rw [z, get] at e1
      cases (congrArg Obj.data (Option.some.inj e1))
end
end DW

set_option Elab.async false
set_option linter.all false
set_option maxRecDepth 100000
set_option maxHeartbeats 4000000
/-! DWV: an error caught by one of three classes, kept under a name, asked of later -/
namespace DW
open PySem PySem.Spec PyProof.Rows L2 LamX
theorem fly_push {B h : Heap} {l : List Env} {a : Addr} {Z : Obj → Prop} {o : Obj} (x : HandSPX.FlyingZ B l a Z h) : HandSPX.FlyingZ B l a Z (h.push o) := by
  obtain ⟨x1, x2, x3, oe, vs, T, oT, ts, y1, y2, y3, y4, y5, y6, y7, y8, y9⟩ := x
  exact ⟨fun b u e => Heap.get?_push_of_some _ (x1 b u e), x2, Heap.FunFrames.of_keeps (fun b u e _ => ⟨u, Heap.get?_push_of_some _ e, rfl⟩) x3, oe, vs, T, oT, ts, Heap.get?_push_of_some _ y1, y2, y3, y4, y5, y6, Heap.get?_push_of_some _ y7, y8, y9⟩
theorem up_push {h g : Heap} {o : Obj} (u : h.UpToSlots g) : h.UpToSlots (g.push o) := fun b x e n => by
  obtain ⟨sl, q⟩ := u b x e n
  exact ⟨sl, Heap.get?_push_of_some _ q⟩
theorem pe_cls {X : Cx} {x : Str} {C : Addr} {p : Pos} (hg : Gl X x) (hm : X.mg x = some (.ref C)) (hd : (x == ("__debug__" : Str)) = false := by decide) : PE X (.Name x p) (fun σ H Q => Q (.ref C) H) :=
  ⟨fun pins s σ H Q I h => ld_glob I hg hm ⟨.ref C, H, I, rfl, h⟩ hd⟩
theorem exV_ok {P : Program} {w : World} {H : Hp} {h : Heap} {a dd : Addr} {cls : Value} {oe : Obj} {vs : Array Value} (e : h.get? a = some oe) (z : Zc cls (some dd) oe) (d : oe.data = .fields vs) : ObjOk P w H h a (ExV a cls dd) :=
  ⟨⟨oe, vs, e, z, d⟩, ⟨oe, e⟩, fun _ _ ⟨o, v, q, r⟩ k => ⟨o, v, k o q, r⟩⟩
/-- a new object that was known to the object alone is tracked from now on -/
theorem track {X : Cx} {pins : List (Addr × Obj)} {σ : L2.St} {H : Hp} {s : Shared} {a dd : Addr} {cls : Value} {oe : Obj} (J : Inv X ((a, oe) :: pins) σ H s) (z : Zc cls (some dd) oe) (hd : ∃ vs, oe.data = .fields vs) (new0 : X.s_0.heap.get? a = none) (newP : ∀ p ∈ X.pn ++ pins, p.1 ≠ a) : Inv X pins σ (upd H a (ExV a cls dd)) s := by
  obtain ⟨get, none_, nL, nF, noC⟩ := J.pin (a, oe) (List.mem_append_right _ List.mem_cons_self)
  obtain ⟨vs, hd⟩ := hd
  have sub : ∀ p ∈ X.pn ++ pins, p ∈ X.pn ++ (a, oe) :: pins := fun p hp => by
    rcases List.mem_append.mp hp with q | q
    · exact List.mem_append_left _ q
    · exact List.mem_append_right _ (List.mem_cons_of_mem _ q)
  refine ⟨J.ok, J.os, J.bare, ⟨J.base.keep, J.base.slot, fun b o e n hx => ?_, J.base.there, fun b xs e => ?_, fun b o u e => ?_, fun b ps e => ?_⟩, J.loc, J.cell, ?_, fun x c e => ?_, fun p hp => ?_, J.hok.laidN (fun _ _ q => q) none_ (exV_ok get z hd), J.len⟩
  · rw [upd_ne (fun q => by rw [q, new0] at e; cases e)]
    exact J.base.free b o e n hx
  · have q := J.base.tups b xs e
    rw [upd_ne (ne_of_none q none_)]
    exact q
  · have q := J.base.frzs b o u e
    rw [upd_ne (ne_of_none q none_)]
    exact q
  · obtain ⟨m, q⟩ := J.base.tbls b ps e
    exact ⟨m, by rw [upd_ne (ne_of_none q none_)]; exact q⟩
  · rw [upd_ne (Ne.symm nL)]
    exact J.free
  · have hc : c ≠ a := fun q => by
      obtain ⟨v, o, ho, hv⟩ := J.cell x c e
      rw [q, get] at ho
      cases ho
      exact noC v hv
    rw [upd_ne hc]
    exact J.freeC x c e
  · obtain ⟨p1, p2, p3, p4, p5⟩ := J.pin p (sub p hp)
    exact ⟨p1, by rw [upd_ne (newP p hp)]; exact p2, p3, p4, p5⟩
section
variable {X : Cx} {x1 x2 x3 n : Str} {C1 C2 C3 : Addr} {i : Nat} {body suite rest : List Stmt} {b₀ : Stmt} {q1 q2 q3 q4 pos pos' : Pos} {tb : WX → TS} {ts : Addr → Value → Option Addr → TS} {tr : TS} {k1}
/-- what is wished of an error: caught, the suite, then the rest, with the error's object tracked; none is let by -/
def wKeep (K : PySem.W.Frag) (cs : List Addr) (i : Nat) (ts : Addr → Value → Option Addr → TS) (tr : TS) (D : Ends) : WX := fun cls d σ H =>
  PySem.W.exmAny K cls (cs.map Value.ref) = some true ∧ ∃ dd, d = some dd ∧ ∀ a, H a = none → ts a cls d { nx := fun σ' H' => tr D (σ'.set i none) (upd H' a (ExV a cls dd)), rt := fun _ _ => False, bk := fun _ _ => False, ct := fun _ _ => False } (σ.set i (some (.ref a))) H
theorem pss_try_keep (hs : X.stack = X.env :: X.outer) (hf : X.env.frame = some X.env.locals) (hN : X.N.Nodup) (hi : X.N[i]? = some n) (hln : X.env.kindOf n = some .local) (hg1 : Gl X x1) (hm1 : X.mg x1 = some (.ref C1)) (hg2 : Gl X x2) (hm2 : X.mg x2 = some (.ref C2)) (hg3 : Gl X x3) (hm3 : X.mg x3 = some (.ref C3))
    (hb : ∀ (W : WX) (pn : List (Addr × Obj)) (xe : Value → Shared → Prop), Takes (X.tr pn xe) W → PassesOwn (model X.prog X.w) X.A X.env xe → PSs (X.tr pn xe) body (tb W))
    (hsu : ∀ (a : Addr) (oe : Obj) (cls : Value) (d : Option Addr) (pn : List (Addr × Obj)), Zc cls d oe → (∃ vs, oe.data = .fields vs) → PSs (X.suite a ((a, oe) :: pn)) (b₀ :: suite) (ts a cls d))
    (hr : PSs X rest tr) (hex : X.ex = [])
    (hd1 : (x1 == ("__debug__" : Str)) = false := by decide) (hd2 : (x2 == ("__debug__" : Str)) = false := by decide) (hd3' : (x3 == ("__debug__" : Str)) = false := by decide) :
    PSs X (.Try body [.ExceptHandler (some (.Tuple [.Name x1 q1, .Name x2 q2, .Name x3 q3] k1 q4)) (some n) (b₀ :: suite) pos'] [] [] pos :: rest) (fun D σ H => tb (wKeep X.K [C1, C2, C3] i ts tr D) { D with nx := tr D } σ H) := by
  refine ⟨fun pins s σ H D I h => wpAny_execs_cons (wpAny_Try_except ?_)⟩
  have ok := I.ok
  have frames : X.A.frames = some (X.env :: X.outer) := by rw [ok.frames, hs]
  have local_ : Loc X.env.scope n := .inl hln
  -- the rest, from a state in which the error is known
  have onward : ∀ {a dd : Addr} {oe : Obj} {cls : Value} {σ6 : L2.St} {H6 : Hp} {s6 : Shared}, Zc cls (some dd) oe → (∃ vs, oe.data = .fields vs) → X.s_0.heap.get? a = none → (∀ p ∈ X.pn ++ pins, p.1 ≠ a) → Inv (X.suite a ((a, oe) :: (X.pn ++ pins))) [] σ6 H6 s6 → tr D (σ6.set i none) (upd H6 a (ExV a cls dd)) →
      wpAny (model X.prog X.w) X.A (do bindName X.env n .none; unbindBehindTheSuite X.env n pos') (fun _ s7 => wpAny (model X.prog X.w) X.A (execs rest X.env) (SP X pins D) X.xe s7) X.xe s6 := fun {a dd oe cls σ6 H6 s6} hz hd new0 newP S6 q => by
    have J6 : Inv X ((a, oe) :: pins) σ6 H6 s6 := ⟨ok, S6.os, S6.bare, S6.base, S6.loc, S6.cell, S6.free, S6.freeC, fun p hp => S6.pin p (by
      rw [List.append_nil]
      rcases List.mem_append.mp hp with z | z
      · exact List.mem_cons_of_mem _ (List.mem_append_left _ z)
      · rcases List.mem_cons.mp z with z | z
        · exact z ▸ List.mem_cons_self
        · exact List.mem_cons_of_mem _ (List.mem_append_right _ z)), S6.hok, S6.len⟩
    exact gone_ok J6 hN hi hln fun s7 J7 => hr.run pins s7 _ _ D (track J7 hz hd new0 newP) q
  refine wpAny_mono ((hb (wKeep X.K [C1, C2, C3] i ts tr D) (X.pn ++ pins) (fun e s₁ => wpAny (model X.prog X.w) X.A (noteFrame e X.env) (fun _ s₂ => wpAny (model X.prog X.w) X.A (setFlight e none) (fun _ s₃ => wpAny (model X.prog X.w) X.A (handleBy e X.env [.ExceptHandler (some (.Tuple [.Name x1 q1, .Name x2 q2, .Name x3 q3] k1 q4)) (some n) (b₀ :: suite) pos']) (fun fl s1 => match fl with
      | .next => wpAny (model X.prog X.w) X.A (execs rest X.env) (SP X pins D) X.xe s1
      | fl => SP X pins D fl s1) X.xe s₃) X.xe s₂) X.xe s₁) (fun u s' xx => ?_) PassesOwn.looking).run [] s σ H { D with nx := tr D } (I.toTry _) h) (fun fl s1 z => ?_) (fun _ _ z => z)
  · obtain ⟨a, B, sI, pins', σ', H', cls, d, rfl, J', nb, up, sky, na, os, ag, hit, dd, rfl, hyes⟩ := xx
    have J : Inv X pins σ' H' sI := J'.ofTry ok
    have sky' : Sky B (X.env :: X.outer) a (Zc cls (some dd)) X.env.locals s'.heap := hs ▸ sky
    refine Sky.land Zc.steady frames hf sky' fun h3 fl3 up3 => ?_
    have J3 : Inv X pins σ' H' { s' with heap := h3 } := J.landed nb fl3.1 (up.trans up3) os ag
    obtain ⟨oe3, vs3, he3, hz3, hd3⟩ := fl3.there
    have away : a ∉ frs (X.env :: X.outer) := fun hm => by
      obtain ⟨_, o', e', hnf⟩ := fl3.2.2.1.mem hm
      rw [he3] at e'
      cases e'
      exact hnf _ hd3
    have nL : a ≠ X.env.locals := fun z => away (List.mem_filterMap.mpr ⟨X.env, List.mem_cons_self, by rw [hf, z]⟩)
    have nF : a ∉ X.fs := fun hm => by
      obtain ⟨e, he, q⟩ := List.mem_filterMap.mp hm
      exact away (List.mem_filterMap.mpr ⟨e, List.mem_cons_of_mem _ he, q⟩)
    have newI : sI.heap.get? a = none := by
      cases q : sI.heap.get? a with
      | none => rfl
      | some o =>
        have z := nb a o q (by rw [hs]; exact away)
        rw [fl3.2.1] at z
        cases z
    have new0 : X.s_0.heap.get? a = none := by
      cases q : X.s_0.heap.get? a with
      | none => rfl
      | some o =>
        obtain ⟨o', z⟩ := J.base.there a o q (by rw [hex]; exact fun z => nomatch z)
        rw [newI] at z
        cases z
    have newP : ∀ p ∈ X.pn ++ pins, p.1 ≠ a := fun p hp z => by
      have q := (J.pin p hp).1
      rw [z, newI] at q
      cases q
    have S3 := J3.suite he3 hd3 na nL nF
    refine wpAny_handleBy_cons (codeAny_handlers_test ?_) (fun q => nomatch q)
    refine wpAny_Tuple (wpAny_items_cons (ld_glob (X := X.suite a ((a, oe3) :: (X.pn ++ pins))) S3 hg1 hm1 (wpAny_items_cons (ld_glob (X := X.suite a ((a, oe3) :: (X.pn ++ pins))) S3 hg2 hm2 (wpAny_items_cons (ld_glob (X := X.suite a ((a, oe3) :: (X.pn ++ pins))) S3 hg3 hm3 (wpAny_items_nil ⟨by size_fits, ?_⟩) hd3')) hd2)) hd1))
    have kp : ∀ q o, h3.get? q = some o → (h3.push { cls := .type "tuple", data := .seq [Value.ref C1, .ref C2, .ref C3].toArray }).get? q = some o := fun _ _ z => Heap.get?_push_of_some _ z
    have LT : PySem.W.Looks (model X.prog X.w) h3 (typeOf (.ref a)) cls := fun A Q E s k q => wpAny_typeOf_ref (k _ _ he3) (by rw [hz3.1]; exact q)
    refine (PySem.W.exm_tup3 (M := model X.prog X.w) (J3.kIn.keeps kp) (LT.keeps kp) (Heap.get?_push_size h3 rfl) hit).here ?_
    refine codeAny_handlers_suite_as ?_
    refine HandSPX.lands_againZ (fly_push fl3) fun h4 fl4 up4 => ?_
    have J4 : Inv X pins σ' H' { s' with heap := h4 } := J.landed nb fl4.1 ((up_push (up.trans up3)).trans up4) os ag
    obtain ⟨oe4, vs4, he4, hz4, hd4⟩ := fl4.there
    have S4 := J4.suite he4 hd4 na nL nF
    refine store_ok (X := X.suite a ((a, oe4) :: (X.pn ++ pins))) (v := .ref a) S4 hN hi local_ rfl (fun s5 S5 => ?_) (.inr hln)
    refine wpAny_mono ((hsu a oe4 cls (some dd) (X.pn ++ pins) hz4 ⟨_, hd4⟩).run [] s5 _ H' _ S5 (hyes a na)) (fun fl s6 z => ?_) (fun _ _ z => False.elim z)
    match fl, z with
    | .next, ⟨σ6, H6, S6, q6⟩ => exact onward hz4 ⟨_, hd4⟩ new0 newP S6 q6
    | .brk, ⟨_, _, _, q6⟩ => exact False.elim q6
    | .cont, ⟨_, _, _, q6⟩ => exact False.elim q6
    | .ret u, ⟨_, _, _, _, _, q6⟩ => exact False.elim q6
  · match fl, z with
    | .next, ⟨σ', H', J', y⟩ => exact wpAny_execs_nil (hr.run pins s1 σ' H' D (J'.ofTry ok) y)
    | .brk, ⟨σ', H', J', y⟩ => exact ⟨σ', H', J'.ofTry ok, y⟩
    | .cont, ⟨σ', H', J', y⟩ => exact ⟨σ', H', J'.ofTry ok, y⟩
    | .ret u, ⟨v, σ', H', J', r, y⟩ => exact ⟨v, σ', H', J'.ofTry ok, r, y⟩
end
end DW

set_option Elab.async false
set_option linter.all false
set_option maxRecDepth 100000
set_option maxHeartbeats 4000000
/-! DWW: errors as data: isinstance of one, its field -/
namespace DW
open PySem PySem.Spec PyProof.Rows L2 LamX
/-- what isinstance asks of an error's class -/
structure XcC (K : PySem.W.Frag) (D : Addr) : Prop where
  cl : (PySem.W.clsIn K D).isSome = true
  ga : PySem.W.findIn K (.ref D) "__getattribute__" = some (some (.builtin "BaseException.__getattribute__"))
  gt : PySem.W.findIn K (.ref D) "__getattr__" = some none
  sb : PySem.W.subIn K (.ref D) (.type "BaseException") = some true
  cc : PySem.W.findIn K (.ref D) "__class__" = some (some (.builtin "object.__class__"))
  gg : PySem.W.specialIn K (.builtin "object.__class__") "__get__" = some (some (.builtin "getset_descriptor.__get__"))
  tk : PySem.W.takesIn K (.builtin "object.__class__") = some true
  ob : PySem.W.mroIn K D (.type "object") = some true
def xcB (K : PySem.W.Frag) (D : Addr) : Bool := (PySem.W.clsIn K D).isSome && (decide (PySem.W.findIn K (.ref D) "__getattribute__" = some (some (.builtin "BaseException.__getattribute__"))) && (decide (PySem.W.findIn K (.ref D) "__getattr__" = some none) && (decide (PySem.W.subIn K (.ref D) (.type "BaseException") = some true) && (decide (PySem.W.findIn K (.ref D) "__class__" = some (some (.builtin "object.__class__"))) && (decide (PySem.W.specialIn K (.builtin "object.__class__") "__get__" = some (some (.builtin "getset_descriptor.__get__"))) && (decide (PySem.W.takesIn K (.builtin "object.__class__") = some true) && decide (PySem.W.mroIn K D (.type "object") = some true)))))))
theorem xcB_ok {K : PySem.W.Frag} {D : Addr} (h : xcB K D = true) : XcC K D := by
  unfold xcB at h
  simp only [Bool.and_eq_true, decide_eq_true_eq] at h
  obtain ⟨h1, h2, h3, h4, h5, h6, h7, h8⟩ := h
  exact ⟨h1, h2, h3, h4, h5, h6, h7, h8⟩
/-- which classes of errors are of the class at E -/
def KtOk (K : PySem.W.Frag) (mt : Str → Option Bool) (E : Addr) : Prop := ∀ c b, mt c = some b → XcC K (He.ga K c) ∧ PySem.W.kitOne K (.ref (He.ga K c)) (.ref E) = some b
def isX (mt : Str → Option Bool) : Dt → Option Dt
  | .xo c _ _ => (mt c).map .bl
  | _ => none
/-- the field f of errors of some classes -/
def FdOk (K : PySem.W.Frag) (f : Str) (cs : List Str) : Prop := f ≠ "" ∧ ∀ c ∈ cs, XfC K (He.ga K c) ∧ PySem.W.findIn K (.ref (He.ga K c)) f = some none
def fldX (f : Str) (cs : List Str) : Dt → Option Dt
  | .xo c g v => if c ∈ cs ∧ g = f then some v else none
  | _ => none
section
variable {X : Cx} {W : WX} {e : Expr} {f1 : Rho → R Dt} {pos p p2 : Pos}
/-- an error of the class at D -/
def IsXc (H : Hp) (a D : Addr) : Prop := (∃ (dd : Addr) (fs : List (Str × V)), H a = some (ExV a (.ref D) dd) ∧ H dd = some (.xd fs)) ∨ ∃ t, H a = some (ExB a (.ref D) t)
def rIsX (K : PySem.W.Frag) (E : Addr) : List V → Hp → VK → Prop := fun xs H Q => ∃ (a D : Addr) (b : Bool), xs = [.ref a, .ref E] ∧ IsXc H a D ∧ XcC K D ∧ PySem.W.kitOne K (.ref D) (.ref E) = some b ∧ Q (.bl b) H
theorem inst_of {pins : List (Addr × Obj)} {σ : L2.St} {H : Hp} {s : Shared} {a D dd : Addr} {fs : List (Str × V)} (I : Inv X pins σ H s) (ha : H a = some (ExV a (.ref D) dd)) (hd : H dd = some (.xd fs)) : ∃ oe od, PySem.W.InstAt s.heap a oe D (some od) ∧ ∃ mA : Str → Option Value, (∀ n, RelO (fs.lookup n) (mA n)) ∧ ∀ n, PySem.W.lookIn n od = some (mA n) := by
  obtain ⟨⟨oe, vs, get, z, data⟩, _⟩ := I.hok a _ ha
  obtain ⟨mA, ns, hr⟩ := I.hok dd _ hd
  obtain ⟨od, ho, hl⟩ := lookIn_ns ns
  exact ⟨oe, od, ⟨get, z.1, by unfold PySem.W.notCls; rw [data] <;> rfl, by rw [z.2]; exact ho⟩, mA, hr, hl⟩
theorem inst_ofX {pins : List (Addr × Obj)} {σ : L2.St} {H : Hp} {s : Shared} {a D : Addr} (I : Inv X pins σ H s) (h : IsXc H a D) : ∃ oe od, PySem.W.InstAt s.heap a oe D od := by
  rcases h with ⟨dd, fs, ha, hd⟩ | ⟨t, ha⟩
  · obtain ⟨oe, od, J, _⟩ := inst_of I ha hd
    exact ⟨oe, _, J⟩
  · obtain ⟨⟨oe, vs, get, z, data, _⟩, _⟩ := I.hok a _ ha
    exact ⟨oe, none, ⟨get, z.1, by unfold PySem.W.notCls; rw [data] <;> rfl, by rw [z.2]; trivial⟩⟩
theorem call_isX {E : Addr} : CallR X (.builtin "isinstance") (rIsX X.K E) := by
  intro pins s σ H xs us Q I r h
  obtain ⟨a, D, b, rfl, ha, C, e, q⟩ := h
  cases r with
  | cons r1 r2 =>
    cases r2 with
    | cons r2 r3 =>
      cases r3
      cases r1
      cases r2
      obtain ⟨oe, od, J⟩ := inst_ofX I ha
      exact PySem.W.kia_one (PySem.W.kitx_exc C.cl C.ga C.gt C.sb C.cc C.gg C.tk C.ob) I.kIn J e (fun z => nomatch z) fun tk => ⟨.bl b, H, I.kept (t' := tk) fun _ _ z => z, rfl, q⟩
def tXv (K : PySem.W.Frag) (f : Str) (te : TE) : TE := fun σ H Q => te σ H fun x H1 => ∃ (a D dd : Addr) (fs : List (Str × V)) (v : V), x = .ref a ∧ H1 a = some (ExV a (.ref D) dd) ∧ H1 dd = some (.xd fs) ∧ XfC K D ∧ PySem.W.findIn K (.ref D) f = some none ∧ fs.lookup f = some v ∧ Q v H1
theorem pe_xv {te : TE} {f : Str} (he : PE X e te) (hb : attributeBase e f X.env (eval e X.env) = eval e X.env := by rfl) : PE X (.Attribute e f pos) (tXv X.K f te) := by
  refine ⟨fun pins s σ H Q I h => attr_of hb (thn (he.run pins s σ H _ I h) fun u s1 ⟨x, H1, J, rx, a, D, dd, fs, v, ex, ha, hd, T, no, l, q⟩ => ?_)⟩
  subst ex
  obtain rfl : u = Value.ref a := rx
  obtain ⟨oe, od, ins, mA, hr, hl⟩ := inst_of J ha hd
  obtain ⟨u, hu, ru⟩ := RelO.some_of (v := v) (o := mA f) (by rw [← l]; exact hr f)
  exact HandSPX.exc_get J.kIn ins T.ga T.gg T.exC (PySem.W.findObj_own T.hdC no rfl (by rw [hl, hu])) (handed_of ru) ⟨v, H1, J.tok _, ru, q⟩
theorem und_isX {K : PySem.W.Frag} {E : Addr} {mt : Str → Option Bool} (T : KtOk K mt E) : UnD K (fun x H Q => rIsX K E [x, .ref E] H Q) (isX mt) := by
  intro x d z H0 H s hx hg Q k
  unfold isX at hg
  split at hg
  · rename_i c f v
    obtain ⟨b, e, rfl⟩ := Option.map_eq_some_iff.mp hg
    obtain ⟨t1, t2⟩ := T c b e
    cases hx with
    | xo h0 h1 h2 h3 => exact ⟨_, _, b, rfl, .inl ⟨_, _, s.hit h1, s.hit h2⟩, t1, t2, sc s (.bl b) k⟩
    | xb h1 h2 => exact ⟨_, _, b, rfl, .inr ⟨_, s.hit h1⟩, t1, t2, sc s (.bl b) k⟩
  · cases hg
theorem de_isX {cn : Str} {E : Addr} {mt : Str → Option Bool} (T : KtOk X.K mt E) (hg : Gl X "isinstance") (hm : X.mg "isinstance" = none) (hgT : Gl X cn) (hmT : X.mg cn = some (.ref E)) (ha : DK X W e f1) (hd : (cn == ("__debug__" : Str)) = false := by decide)
    (he : starEach (e :: [.Name cn p2]) X.env = (false, eval e X.env) :: starEach [.Name cn p2] X.env := by rfl) (hpl : (backTo pos (starEach [.Name cn p2] X.env)).any (·.1) = false := by rfl) (he2 : starEach (.Name cn p2 :: []) X.env = (false, eval (.Name cn p2) X.env) :: starEach [] X.env := by rfl) :
    DE X W (.Call (.Name "isinstance" p) [e, .Name cn p2] [] pos) (un (isX mt) f1) := fun F =>
  PE.wk (pe_callB (call_isX (E := E)) hg hm (by decide +kernel) (pa_cons (ha F) (pa_cons (pe_cls hgT hmT hd) pa_nil he2) he) (he := he) (hpl := hpl)) fun σ H Q h => tUn_un (r := fun x H Q => rIsX X.K E [x, .ref E] H Q) (und_isX T) h
theorem und_fldX {K : PySem.W.Frag} {f : Str} {cs : List Str} (T : FdOk K f cs) : UnD K (fun x H Q => ∃ (a D dd : Addr) (fs : List (Str × V)) (v : V), x = .ref a ∧ H a = some (ExV a (.ref D) dd) ∧ H dd = some (.xd fs) ∧ XfC K D ∧ PySem.W.findIn K (.ref D) f = some none ∧ fs.lookup f = some v ∧ Q v H) (fldX f cs) := by
  intro x d z H0 H s hx hg Q k
  unfold fldX at hg
  split at hg
  · rename_i c g v
    split at hg
    · rename_i hc
      cases hg
      cases hx with
      | xo h0 h1 h2 h3 =>
        obtain ⟨t1, t2⟩ := T.2 c hc.1
        exact ⟨_, _, _, _, _, rfl, s.hit h1, s.hit h2, t1, t2, by rw [hc.2]; simp [List.lookup], sc s h3 k⟩
      | xb h1 h2 => exact absurd hc.2.symm T.1
    · cases hg
  · cases hg
theorem de_fldX {f : Str} {cs : List Str} (T : FdOk X.K f cs) (he : DK X W e f1) (hb : attributeBase e f X.env (eval e X.env) = eval e X.env := by rfl) : DE X W (.Attribute e f pos) (un (fldX f cs) f1) := fun F =>
  PE.wk (pe_xv (he F) hb) fun σ H Q h => tUn_un (und_fldX T) h
end
end DW

set_option Elab.async false
set_option linter.all false
set_option maxRecDepth 100000
set_option maxHeartbeats 4000000
/-! DWO: outcome(lambda: e): what a call returns, or how it is refused -/
namespace DW
open PySem PySem.Spec PyProof.Rows L2 LamX
/-- the def that calls what it got: TT, what it makes of the lambda's reading -/
def OutG (X : Cx) (Ng : List Str) (x : Str) (sg : Scope) (g : Addr) (cdg : Value) (bg : List Stmt) (a q : Str) (k : Nat) (TT : (XK → Hp → VK → Prop) → Hp → VK → Prop) : Prop :=
  ∀ (f c' : Addr) (s : Shared) (H : Hp) (Q : VK) (tl : XK → Hp → VK → Prop), Room k (X.A.deeper (envOfC x sg s.heap.objs.size g cdg)) → Quiet (X.A.deeper (envOfC x sg s.heap.objs.size g cdg)) →
    (∀ (W : WX) (pn : List (Addr × Obj)) (xe : Value → Shared → Prop) (p1 p2 : Pos), Takes ((cxOf CX0 X.prog X.w X.K X.mg X.base Ng x sg g cdg X.A X.stack s H E0).tr pn xe) W → PE ((cxOf CX0 X.prog X.w X.K X.mg X.base Ng x sg g cdg X.A X.stack s H E0).tr pn xe) (.Call (.Name a p1) [] [] p2) (tAct f c' q 0 W tl)) →
    H c' = some (CodeO c' q) → TT tl H Q →
    ∃ t, PSs (cxOf CX0 X.prog X.w X.K X.mg X.base Ng x sg g cdg X.A X.stack s H E0) bg t ∧ t { nx := fun _ H' => Q .non H', rt := Q } (L2.start Ng [.ref f]) H
def tLamQ (P : Addr) (T : List (Addr × Str)) (TT : (XK → Hp → VK → Prop) → Hp → VK → Prop) (t : XK → TE) : TE := fun σ H Q => Tabs T H ∧ ∀ H1, Tg P T H H1 → TT (fun E H' Q' => t E σ H' Q') H1 Q
section
variable {X : Cx}
theorem pe_lamQ {T : List (Addr × Str)} {TT : (XK → Hp → VK → Prop) → Hp → VK → Prop} {x a : Str} {st : Stmt} {c P : Addr} {k : Nat} {Ng : List Str} {params : Arguments} {body : Expr} {scope : Scope} {t : XK → TE} {p lpos pos : Pos} (D : IsDef X.K X.mg x st) (hg : Gl X x) (Sg : FnScope Ng [a] (defScope st)) (hNg : Ng[0]? = some a) (hva : Vis (defScope st) a)
    (hbi : ∀ (kV doc pm : Value) (an : Option Addr) (cdv ct : Value) (us : List Value), us.length = [a].length → bindArgs (PySem.W.fnOf x x (defArgs st) (defBody st) (defScope st) .none kV doc pm an cdv ct) ⟨us, []⟩ = pure ([a].zip us))
    (hG : ∀ (g : Addr) (cdg : Value), OutG X Ng x (defScope st) g cdg (defBody st) a (lamQ X) (k + 1) TT)
    (tab : TabB X.base X.mg c P) (code : X.env.code = .ref c) (inT : (P, lamQ X) ∈ T) (only : ∀ p ∈ T, p.1 = P → p.2 = lamQ X) (room : Room (k + 2) X.A) (quiet : Quiet X.A) (L : LamN X.N X.env.scope scope) (lp : LamP X.env params body scope)
    (hbody : ∀ (A : Around) (outer : List Env) (s : Shared) (H : Hp) (E : XK) (f c' : Addr), Room k (A.deeper (lamEnv X scope s.heap.objs.size f c')) → Quiet (A.deeper (lamEnv X scope s.heap.objs.size f c')) → PE (lamCx X A outer s H E scope f c') body (t E))
    (hdb : (x == ("__debug__" : Str)) = false := by decide) (hd : (a == ("__debug__" : Str)) = false := by decide) (hcd : (a == ("__classdict__" : Str)) = false := by decide)
    (hst : starEach [.Lambda params body scope lpos] X.env = (false, eval (.Lambda params body scope lpos) X.env) :: starEach [] X.env := by rfl) (hpl : (backTo pos (starEach [] X.env)).any (·.1) = false := by rfl) :
    PE X (.Call (.Name x p) [.Lambda params body scope lpos] [] pos) (tLamQ P T TT t) := by
  obtain ⟨g, fd, F, hm⟩ := D
  have kp := F.kp
  have bnd := F.bindsN hbi
  obtain ⟨oc, od, dV, kV, doc, pm, an, cdv, ct, osl, rfl, lk, hcg, -, -⟩ := F.ex
  refine ⟨fun pins s σ H Q I ⟨tabs, h⟩ => wpAny_Call_Name_kw (ld_glob I hg hm (PySem.W.callWith_K (h₀ := X.base) I.ok.mod.kin kp ?_ hst hpl) hdb)⟩
  show wpAny _ _ (spliced ((false, eval (.Lambda params body scope lpos) X.env) :: backTo pos (starEach [] X.env))) _ _ s
  refine Calls.spliced_cons (lamEval I lp tab code inT only tabs (L.has I.ok) fun f c' dV' doc' pm' ctv binds H1 s' J tg get hn hfr hc locs bind _ _ => Calls.spliced_nil ⟨J.kIn, ?_⟩)
  have rc : codeAny (model X.prog X.w) X.A (.call (.ref g) ⟨[.ref f], []⟩) (CR CX0 X.stack X.prog X.w H1 s' Q E0) s' := by
    refine run_ofS (N := Ng) (ps := [a]) (us := [.ref f]) (vs := [.ref f]) lk hcg Sg room J.env0 (bnd s' [.ref f] J.kIn rfl) (.cons rfl .nil) rfl fun room' => ?_
    refine hG g cdv f c' s' H1 Q (fun E H' Q' => t E σ H' Q') room' (quiet_deeper quiet _) (fun W pn xe p1 p2 tk => ?_) hc (h H1 tg)
    refine lamAct (i := 0) J L get hn hfr locs bind tk room' (fun A outer s H E f c' hr ⟨e, hA⟩ => hbody A outer s H E f c' hr ?_) hNg hva hd hcd
    subst hA
    exact quiet_deeper (quiet_deeper quiet _) _
  refine wpAny_call (codeAny_mono rc fun r s2 hq => ?_)
  match r, hq with
  | .error e, hq => exact (show False from hq).elim
  | .ok (.ret u), hq => exact J.after hq
  | .ok .next, hq => exact False.elim hq
  | .ok .brk, hq => exact False.elim hq
  | .ok .cont, hq => exact False.elim hq
end
/-! ### outcome -/
def TTo (g : Gx) (cs : List Addr) (mw : Fn) : (XK → Hp → VK → Prop) → Hp → VK → Prop := fun tl H Q => ∀ p0, H p0 = none → ∀ Q' : VK, (∀ v H', (∀ p, H' p = none → Q (.ref p) (upd H' p (.lst [v]))) → Q' v H') →
  tl (fun cls da H' => PySem.W.exmAny g.K cls (cs.map Value.ref) = some true ∧ ∃ dd, da = some dd ∧ ∀ a, H' a = none → spF g mw [.ref a] (upd H' a (ExV a cls dd)) Q E0) (upd H p0 (.tup [.non, .non])) Q'
/-- what the statements of outcome come to -/
def tRest (g : Gx) (mw : Fn) : TS := tRet (tIf (tTest (tOp (fun x y H Q => y = .non ∧ Q (.bl (decide (x = .non))) H) (tVar 2) (tC .non))) (tLst (tCons (tVar 1) tNil)) (tCall (spF g mw) [] E0 (tCons (tVar 2) tNil)))
theorem out_read {g : Gx} {cs : List Addr} {mw : Fn} {f c' : Addr} {q : Str} {tl : XK → Hp → VK → Prop} {H : Hp} {Q : VK} {Ng : List Str} (hN : Ng.length = 4) (hc : H c' = some (CodeO c' q)) (h : TTo g cs mw tl H Q) :
    tSeq (tAsg (tTup (tCons (tC .non) (tCons (tC .non) tNil))) (gTup g.K 2 (gCons (gName 1) (gCons (gName 2) gNil))))
      (fun D σ H => (fun W : WX => tAsg (tAct f c' q 0 W tl) (gName 1)) (wKeep g.K cs 3 (fun _ _ _ => tAsg (tVar 3) (gName 2)) (tRest g mw) D) { D with nx := tRest g mw D } σ H)
      { nx := fun _ H' => Q .non H', rt := Q } (L2.start Ng [.ref f]) H := by
  have st : L2.start Ng [.ref f] = [some (.ref f), none, none, none] := by
    unfold L2.start
    rw [hN]
    rfl
  rw [st]
  refine ⟨by decide, fun p0 hp0 => ⟨p0, [.non, .non], rfl, .inl (.inl upd_same), rfl, .non, [.non], rfl, .non, [], rfl, rfl, ?_⟩⟩
  refine ⟨(fun cls da H' => PySem.W.exmAny g.K cls (cs.map Value.ref) = some true ∧ ∃ dd, da = some dd ∧ ∀ a, H' a = none → spF g mw [.ref a] (upd H' a (ExV a cls dd)) Q E0), rfl, ?_, fun cls d H' he => ?_, ?_⟩
  · rw [upd_ne (ne_of_none hc hp0)]
    exact hc
  · obtain ⟨h1, dd, rfl, h2⟩ := he
    refine ⟨h1, dd, rfl, fun a ha => ⟨.ref a, rfl, ?_⟩⟩
    refine ⟨.ref a, rfl, rfl, decide (V.ref a = V.non), rfl, ?_⟩
    show if decide (V.ref a = V.non) = true then _ else _
    rw [if_neg (by rw [decide_eq_false (fun z => nomatch z)]; exact fun z => nomatch z)]
    exact ⟨.ref a, rfl, h2 a ha⟩
  · refine h p0 hp0 _ fun v H' hv => ?_
    refine ⟨.non, rfl, rfl, decide (V.non = V.non), rfl, ?_⟩
    show if decide (V.non = V.non) = true then _ else _
    rw [if_pos (decide_eq_true rfl)]
    exact ⟨v, rfl, (by show 1 ≤ sizeLine; decide), hv⟩
/-! ### data -/
/-- what a lambda may see: nothing that the def still changes -/
def hid (ρ : Rho) : Rho := ρ.map fun o => match o with
  | some (.fr d) => some (.fr d)
  | _ => none
theorem hid_get {ρ : Rho} {i : Nat} {s : Sl} (h : (hid ρ)[i]? = some (some s)) : ρ[i]? = some (some s) ∧ ∃ d, s = .fr d := by
  unfold hid at h
  rw [List.getElem?_map] at h
  obtain ⟨o, h1, h2⟩ := Option.map_eq_some_iff.mp h
  match o, h2 with
  | some (.fr d), h2 =>
    cases h2
    exact ⟨h1, d, rfl⟩
def outF (mt : Str → Bool) (mw : Fn) (fb : Rho → R Dt) : Rho → R Dt := fun ρ => match fb (hid ρ) with
  | .ok d _ => .ok (.lst [d]) ρ
  | .ex e _ => if mt e.cls = true then match mw [.xo e.cls e.fld e.val] with
    | .ok (.fr d) => .ok d ρ
    | _ => .bad
    else .bad
  | .bad => .bad
/-- the classes that are caught -/
def CtOk (g : Gx) (mt : Str → Bool) (cs : List Addr) : Prop := ∀ c, mt c = true → g.mg c = some (.ref (He.ga g.K c)) ∧ PySem.W.exmAny g.K (.ref (He.ga g.K c)) (cs.map Value.ref) = some true
section
variable {K : PySem.W.Frag} {F : Fm} {H0 H H0' H' H1 : Hp} {σ : L2.St} {ρ ρ' : Rho} {P : Addr}
theorem En.hid (E : En K F H0 H σ ρ) : En K ⟨H0, H, none, false⟩ H0 H σ (hid ρ) where
  gr := Gw.refl _ _ _
  tb := E.tb
  ex := E.ex
  len := by rw [E.len, DW.hid, List.length_map]
  sl := fun i s h => by
    obtain ⟨h1, d, rfl⟩ := hid_get h
    exact E.sl i _ h1
  sep := fun i j s t a _ h _ hs => by
    obtain ⟨_, d, rfl⟩ := hid_get h
    cases hs
  io := fun a h => nomatch h
  io1 := fun i kvs h => by
    obtain ⟨_, d, z⟩ := hid_get h
    cases z
  st1 := fun i S h => by
    obtain ⟨_, d, z⟩ := hid_get h
    cases z
/-- a table has grown -/
theorem En.tg (E : En K F H0 H σ ρ) {q : Str} (inT : (P, q) ∈ tT K) (only : ∀ p ∈ tT K, p.1 = P → p.2 = q) (nf : fnB q = false) (tg : Tg P (tT K) H H1) : Gw ⟨H0, H, none, false⟩ H0 H1 ∧ TbOk K H0 H1 ∧ Same H0 H1 := by
  obtain ⟨hP, ps, hat, _⟩ := E.tb _ inT
  have away : ∀ b o, H b = some o → NT o → H1 b = some o := fun b o hb n => tg.kp b o (fun z => by
    rw [z, hat] at hb
    exact n ps (Option.some.inj hb).symm) hb
  have st : ∀ a, H a ≠ none → H1 a ≠ none := fun a h => by
    by_cases z : a = P
    · rw [z]
      exact tg.st
    · cases e : H a with
      | none => exact absurd e h
      | some o =>
        rw [tg.kp a o z e]
        exact fun z => nomatch z
  refine ⟨⟨Same.refl _, fun a o h n _ => away a o h n, fun _ _ h => h, st, fun _ _ h => h, fun _ _ h => .inr ⟨rfl, h⟩⟩, fun p hp => ⟨⟨(E.tb p hp).1.1, ?_⟩, tg.tb p hp⟩, fun a o h => ?_⟩
  · by_cases z : p.1 = P
    · exact fun hf => by
        rw [only p hp z, nf] at hf
        cases hf
    · obtain ⟨⟨_, hF⟩, ps', e, _⟩ := E.tb p hp
      exact tbf_away hF e (tg.kp _ _ z e) (Same.refl _)
  · obtain ⟨e1, e2⟩ := E.ex a o h
    exact ⟨fun n => away a o (e1 n) n, st a e2⟩
/-- an error is laid down -/
theorem gw_xo {c dd : Addr} {a : Addr} {cls : Value} {f : Str} {v : V} {F : Fm} (g : Gw F H0' H') (t : TbOk K H0' H') (e : Same H0' H') (hn : F.H dd = none) (hd : H' dd = some (.xd [(f, v)])) (ha : H' a = none) (ng : NG H0' dd) :
    Gw F (upd (upd H0' dd (.xd [(f, v)])) a (ExV a cls dd)) (upd H' a (ExV a cls dd)) ∧ TbOk K (upd (upd H0' dd (.xd [(f, v)])) a (ExV a cls dd)) (upd H' a (ExV a cls dd)) ∧ Same (upd (upd H0' dd (.xd [(f, v)])) a (ExV a cls dd)) (upd H' a (ExV a cls dd)) ∧ Same H0' (upd (upd H0' dd (.xd [(f, v)])) a (ExV a cls dd)) ∧
      (∀ b ps, upd (upd H0' dd (.xd [(f, v)])) a (ExV a cls dd) b = some (.tbl ps) ↔ H0' b = some (.tbl ps)) := by
  have na : a ≠ dd := fun z => by rw [z, hd] at ha; cases ha
  have na0 : H0' a = none := e.no ha
  have s1 : Same (upd H0' dd (.xd [(f, v)])) H' := fun b o h => by
    by_cases z : b = dd
    · subst z
      rw [upd_same] at h
      cases h
      exact ⟨fun _ => hd, by rw [hd]; exact fun z => nomatch z⟩
    · rw [upd_ne z] at h
      exact e b o h
  have s0 : Same H0' (upd H0' dd (.xd [(f, v)])) := fun b o h => by
    by_cases z : b = dd
    · subst z
      have nt : NT o := fun ps z => ng ps (by rw [h, z])
      have := (e _ _ h).1 nt
      rw [hd] at this
      rw [upd_same]
      exact ⟨fun _ => this, fun z => nomatch z⟩
    · rw [upd_ne z, h]
      exact ⟨fun _ => rfl, fun z => nomatch z⟩
  have nx : NT (ExV a cls dd) := fun ps z => nomatch z
  have s2 : Same H0' (upd (upd H0' dd (.xd [(f, v)])) a (ExV a cls dd)) := s0.trans (gr_new ha s1 nx).b0
  have gg : ∀ b ps, upd (upd H0' dd (.xd [(f, v)])) a (ExV a cls dd) b = some (.tbl ps) ↔ H0' b = some (.tbl ps) := fun b ps => by
    by_cases z1 : b = a
    · subst z1
      rw [upd_same, na0]
      exact ⟨(fun z => nomatch z), (fun z => nomatch z)⟩
    · rw [upd_ne z1]
      by_cases z2 : b = dd
      · subst z2
        rw [upd_same]
        exact ⟨(fun z => nomatch z), fun z => absurd z (ng ps)⟩
      · rw [upd_ne z2]
  have ne : ∀ b, F.H b ≠ none → b ≠ dd ∧ b ≠ a := fun b h => ⟨fun z => h (z ▸ hn), fun z => g.st b h (z ▸ ha)⟩
  refine ⟨⟨g.b0.trans s2, fun b o h n i => ?_, fun b h h0 => ?_, fun b h => ?_, fun b ps h => (gg b ps).mpr (g.gk b ps h), fun b ps h => g.gs b ps ((gg b ps).mp h)⟩, fun p hp => ?_, same_new ha s1, s2, gg⟩
  · have h' : H' b = some o := g.keep b o h n i
    rw [upd_ne (ne_of_none h' ha)]
    exact h'
  · obtain ⟨n1, n2⟩ := ne b h
    rw [upd_ne n2, upd_ne n1]
    exact g.off b h h0
  · obtain ⟨n1, n2⟩ := ne b h
    rw [upd_ne n2]
    exact g.st b h
  · obtain ⟨⟨t0, tF⟩, ps, t1, t2, t3⟩ := t p hp
    have n1 : p.1 ≠ dd := fun z => by rw [z, hd] at t1; cases t1
    have n2 : p.1 ≠ a := ne_of_none t1 ha
    refine ⟨⟨by rw [upd_ne n2, upd_ne n1]; exact t0, tbf_away tF t1 (by rw [upd_ne n2]; exact t1) s2⟩, ps, by rw [upd_ne n2]; exact t1, t2, fun pos cv hc => ?_⟩
    obtain ⟨c1, e1, e2⟩ := t3 pos cv hc
    exact ⟨c1, e1, by rw [upd_ne (ne_of_none e2 ha)]; exact e2⟩
end
theorem out_of {g : Gx} {F : Fm} {W : WX} {σ : L2.St} {H : Hp} {Q : VK} {mt : Str → Bool} {mw : Fn} {fb : Rho → R Dt} {P : Addr} {q : Str} {cs : List Addr} (C : CtOk g mt cs) (inT : (P, q) ∈ tT g.K) (only : ∀ p ∈ tT g.K, p.1 = P → p.2 = q) (nf : fnB q = false) (h : tD g F W (outF mt mw fb) σ H Q) :
    tLamQ P (tT g.K) (TTo g cs mw) (fun E σ H Q => ∃ F', tD g F' (wE E) fb σ H Q) σ H Q := by
  obtain ⟨H0, ρ, E, qq⟩ := h
  refine ⟨fun p hp => (E.tb p hp).2, fun H1 tg p0 hp0 Q' hQ' => ?_⟩
  obtain ⟨g1, t1, s1⟩ := E.tg inT only nf tg
  have E1 := E.growW g1 t1 s1
  have E2 : En g.K F H0 (upd H1 p0 (.tup [.non, .non])) σ ρ := E1.grow (gr_newO hp0) (same_newO hp0 s1)
  have m2 : Mv σ ρ ρ H0 H H0 (upd H1 p0 (.tup [.non, .non])) := Mw.trans g1.mv (gr_newO hp0).mv
  refine ⟨⟨H0, upd H1 p0 (.tup [.non, .non]), none, false⟩, H0, hid ρ, E2.hid, ?_⟩
  unfold outF at qq
  cases e : fb (hid ρ) with
  | bad => rw [e] at qq; exact qq.elim
  | ok d ρ1 =>
    rw [e] at qq
    intro v H0' H' E3 m3 hv
    refine hQ' v H' fun p hp => ?_
    obtain ⟨E4, m4⟩ := E2.postW m2 E3.gr E3.tb E3.ex
    have gp : Gr ⟨H0', H', none, false⟩ (upd H0' p (.lst [v])) (upd H' p (.lst [v])) := gr_new hp E3.ex
    obtain ⟨E5, m5⟩ := E4.postW m4 gp.w (gp.tb E4.tb) (same_new hp E4.ex)
    exact qq (.ref p) _ _ E5 m5 (.lst upd_same (.cons (hv.mono gp.b0) .nil))
  | ex x ρ1 =>
    rw [e] at qq
    dsimp only at qq
    by_cases hm : mt x.cls = true
    rotate_left
    · rw [if_neg hm] at qq
      exact qq.elim
    rw [if_pos hm] at qq
    obtain ⟨C1, C2⟩ := C _ hm
    intro c da H0' H' xr E3
    obtain ⟨nz, dd, v, x1, x2, x3, x4, x5⟩ := xr
    rw [C1] at x1
    cases x1
    refine ⟨C2, dd, x2, fun a ha => ?_⟩
    have ng : NG H0' dd := fun ps z => by
      rcases E3.gr.gs dd ps z with ⟨q, _⟩ | ⟨_, q⟩
      · cases q
      · exact (E2.ex dd _ q).2 x3
    obtain ⟨gw, tb, sm, s0, _⟩ := gw_xo (c := dd) (cls := .ref (He.ga g.K x.cls)) E3.gr E3.tb E3.ex x3 x4 ha ng
    have nda : dd ≠ a := ne_of_none x4 ha
    refine ⟨_, [.xo x.cls x.fld x.val], sm, tb, .cons (.xo nz upd_same (by rw [upd_ne nda, upd_same]) (x5.mono s0)) .nil, ?_⟩
    obtain ⟨E4, m4⟩ := E2.postW m2 gw tb sm
    cases e2 : mw [.xo x.cls x.fld x.val] with
    | ok s =>
      rw [e2] at qq
      cases s with
      | fr d =>
        intro u C0 C gr tt s2 hv
        obtain ⟨E5, m5⟩ := E4.postW m4 gr tt s2
        exact qq u C0 C E5 m5 hv
      | _ => exact qq.elim
    | ex x => rw [e2] at qq; exact qq.elim
    | bad => rw [e2] at qq; exact qq.elim
section
variable {X : Cx} {W : WX}
/-- outcome(lambda ..: body) -/
theorem de_out {mt : Str → Bool} {mw : Fn} {cs : List Addr} {x a : Str} {st : Stmt} {c P : Addr} {k : Nat} {Ng : List Str} {params : Arguments} {body : Expr} {scope : Scope} {fb : Rho → R Dt} {p lpos pos : Pos} (C : CtOk (gx X) mt cs) (D : IsDef X.K X.mg x st) (hg : Gl X x) (Sg : FnScope Ng [a] (defScope st)) (hNg : Ng[0]? = some a) (hva : Vis (defScope st) a)
    (hbi : ∀ (kV doc pm : Value) (an : Option Addr) (cdv ct : Value) (us : List Value), us.length = [a].length → bindArgs (PySem.W.fnOf x x (defArgs st) (defBody st) (defScope st) .none kV doc pm an cdv ct) ⟨us, []⟩ = pure ([a].zip us))
    (hG : ∀ (g : Addr) (cdg : Value), OutG X Ng x (defScope st) g cdg (defBody st) a (lamQ X) (k + 1) (TTo (gx X) cs mw))
    (tab : TabB X.base X.mg c P) (code : X.env.code = .ref c) (inT : (P, lamQ X) ∈ tT X.K) (only : ∀ p ∈ tT X.K, p.1 = P → p.2 = lamQ X) (room : Room (k + 2) X.A) (quiet : Quiet X.A) (L : LamN X.N X.env.scope scope) (lp : LamP X.env params body scope)
    (hbody : ∀ (A : Around) (outer : List Env) (s : Shared) (H : Hp) (E : XK) (f c' : Addr), Room k (A.deeper (lamEnv X scope s.heap.objs.size f c')) → Quiet (A.deeper (lamEnv X scope s.heap.objs.size f c')) → DE (lamCx X A outer s H E scope f c') (wE E) body fb)
    (nf : fnB (lamQ X) = false := by rfl) (hdb : (x == ("__debug__" : Str)) = false := by decide) (hd : (a == ("__debug__" : Str)) = false := by decide) (hcd : (a == ("__classdict__" : Str)) = false := by decide)
    (hst : starEach [.Lambda params body scope lpos] X.env = (false, eval (.Lambda params body scope lpos) X.env) :: starEach [] X.env := by rfl) (hpl : (backTo pos (starEach [] X.env)).any (·.1) = false := by rfl) :
    DE X W (.Call (.Name x p) [.Lambda params body scope lpos] [] pos) (outF mt mw fb) := fun F =>
  PE.wk (pe_lamQ (t := fun E σ H Q => ∃ F', tD (gx X) F' (wE E) fb σ H Q) D hg Sg hNg hva hbi hG tab code inT only room quiet L lp
    (fun A outer s H E f c' hr hq => ⟨fun pins s1 σ H1 Q I ⟨F', h⟩ => ((hbody A outer s H E f c' hr hq) F').run pins s1 σ H1 Q I h⟩) hdb hd hcd hst hpl) fun σ H Q h => out_of C inT only nf h
end
/-! ### the code of a def that makes lambdas -/
theorem code_of {K : PySem.W.Frag} {mg : Str → Option Value} {x : Str} {f : Addr} {cdv : Value} (h : mg x = some (.ref f) ∧ CdOk K f cdv) (hg : mg x = some (.ref (He.fAd K (x, none)))) : cdv = .ref (He.cT K (x, none)).1 := by
  obtain ⟨hm, oc, od, fd, osl, lk, e, c, e2⟩ := h
  rw [hg] at hm
  cases hm
  rw [e2]
  exact congrArg Value.ref (He.codeOf_eq lk (e.trans e2)).symm
theorem only_of {K : PySem.W.Frag} {P : Addr} {q : Str} (hn : ((tT K).map (·.1)).Nodup) (inT : (P, q) ∈ tT K) : ∀ p ∈ tT K, p.1 = P → p.2 = q := fun p hp e => by
  have key : ∀ (l : List (Addr × Str)), (l.map (·.1)).Nodup → (P, q) ∈ l → p ∈ l → p.2 = q := fun l => by
    induction l with
    | nil => exact fun _ h => nomatch h
    | cons a l ih =>
      intro hn h1 h2
      rw [List.map_cons, List.nodup_cons] at hn
      rcases List.mem_cons.mp h1 with z | z <;> rcases List.mem_cons.mp h2 with y | y
      · rw [y, ← z]
      · exact absurd (List.mem_map.mpr ⟨p, y, by rw [e, ← z]⟩) hn.1
      · exact absurd (List.mem_map.mpr ⟨(P, q), z, by rw [← y, e]⟩) hn.1
      · exact ih hn.2 z y
  exact key _ hn inT hp
/-! ### class facts, one by one -/
def ctL (l : List Str) (s : Str) : Bool := l.contains s
theorem ct_nil {g : Gx} {cs : List Addr} : CtOk g (ctL []) cs := fun c h => nomatch h
theorem ct_cons {g : Gx} {cs : List Addr} {l : List Str} {c : Str} (h1 : g.mg c = some (.ref (He.ga g.K c))) (h2 : PySem.W.exmAny g.K (.ref (He.ga g.K c)) (cs.map Value.ref) = some true) (h : CtOk g (ctL l) cs) : CtOk g (ctL (c :: l)) cs := fun y hy => by
  unfold ctL at hy
  rw [List.contains_cons, Bool.or_eq_true] at hy
  rcases hy with z | z
  · have e : y = c := by simpa using z
    subst e
    exact ⟨h1, h2⟩
  · exact h y z
theorem kt_nil {K : PySem.W.Frag} {E : Addr} : KtOk K (mtL []) E := fun c b h => by
  unfold mtL at h
  cases h
theorem kt_cons {K : PySem.W.Frag} {E : Addr} {l : List (Str × Bool)} {c : Str} {b : Bool} (h1 : xcB K (He.ga K c) = true) (h2 : PySem.W.kitOne K (.ref (He.ga K c)) (.ref E) = some b) (h : KtOk K (mtL l) E) : KtOk K (mtL ((c, b) :: l)) E := fun y b' hy => by
  unfold mtL at hy
  rw [List.lookup_cons] at hy
  split at hy
  · rename_i e
    have e2 : y = c := by simpa using e
    subst e2
    cases hy
    exact ⟨xcB_ok h1, h2⟩
  · exact h y b' hy
theorem fd_nil {K : PySem.W.Frag} {f : Str} (h : f ≠ "" := by decide) : FdOk K f [] := ⟨h, fun c h => nomatch h⟩
theorem fd_cons {K : PySem.W.Frag} {f c : Str} {l : List Str} (h1 : XfC K (He.ga K c)) (h2 : PySem.W.findIn K (.ref (He.ga K c)) f = some none) (h : FdOk K f l) : FdOk K f (c :: l) := ⟨h.1, fun y hy => by
  rcases List.mem_cons.mp hy with z | z
  · subst z
    exact ⟨h1, h2⟩
  · exact h.2 y z⟩
/-- what the head asks beside: the errors' classes xs, the classes cn that are asked for, those that are caught -/
def exB (xs cn ct : List Str) (kit : List (Str × Str × Bool)) (K : PySem.W.Frag) : Bool :=
  (K.lookup sysModules).isSome && (decide ((tT K).map (·.1)).Nodup && (xs.all (fun c => xcB K (He.ga K c)) && (cn.all (fun c => He.eqO (PySem.W.nsIn K mainGlobals c) (some (some (.ref (He.ga K c))))) && (kit.all (fun p => decide (PySem.W.kitOne K (.ref (He.ga K p.1)) (.ref (He.ga K p.2.1)) = some p.2.2)) && xs.all (fun c => decide (PySem.W.exmAny K (.ref (He.ga K c)) ((ct.map (He.ga K)).map Value.ref) = some true))))))
structure ExBS (xs cn ct : List Str) (kit : List (Str × Str × Bool)) (K : PySem.W.Frag) : Prop where
  sys : (K.lookup sysModules).isSome = true
  nd : ((tT K).map (·.1)).Nodup
  xc : ∀ c ∈ xs, xcB K (He.ga K c) = true
  cn : ∀ c ∈ cn, PySem.W.nsIn K mainGlobals c = some (some (.ref (He.ga K c)))
  kit : ∀ p ∈ kit, PySem.W.kitOne K (.ref (He.ga K p.1)) (.ref (He.ga K p.2.1)) = some p.2.2
  ct : ∀ c ∈ xs, PySem.W.exmAny K (.ref (He.ga K c)) ((ct.map (He.ga K)).map Value.ref) = some true
theorem exB_ok {xs cn ct : List Str} {kit : List (Str × Str × Bool)} {K : PySem.W.Frag} (h : exB xs cn ct kit K = true) : ExBS xs cn ct kit K := by
  unfold exB at h
  simp only [Bool.and_eq_true, List.all_eq_true, decide_eq_true_eq] at h
  obtain ⟨h0, h1, h2, h3, h4, h5⟩ := h
  exact ⟨h0, h1, h2, fun c hc => He.eqO_ok (h3 c hc), h4, h5⟩
end DW

set_option Elab.async false
set_option linter.all false
set_option maxRecDepth 100000
set_option maxHeartbeats 4000000
/-! OB8: try: .. except (A, B, C): over the store; outcome(lambda: e) over the store; keyword-only defaults -/
namespace DW
open PySem PySem.Spec PyProof.Rows L2 LamX
/-! ### try: .. except (A, B, C): -/
/-- body; the classes that are caught; the suite -/
def tryT (fb : Rho → SR) (mt : Str → Bool) (su : Rho → SR) : Rho → SR := fun ρ => match fb ρ with
  | .ex e ρ1 => if mt e.cls = true then (match su ρ1 with
    | .rt s ρ2 => .rt s ρ2
    | _ => .bad) else .bad
  | r => r
section
variable {X : Cx} {x1 x2 x3 : Str} {C1 C2 C3 : Addr} {body suite : List Stmt} {b₀ : Stmt} {q1 q2 q3 q4 pos pos' : Pos} {tb : WX → TS} {ts : TS} {k1}
def wTup (K : PySem.W.Frag) (cs : List Addr) (ts : TS) (D : Ends) : WX := fun cls d σ H => PySem.W.exmAny K cls (cs.map Value.ref) = some true ∧ ts D σ H
theorem ps_try_tup (hs : X.stack = X.env :: X.outer) (hf : X.env.frame = some X.env.locals) (hg1 : Gl X x1) (hm1 : X.mg x1 = some (.ref C1)) (hg2 : Gl X x2) (hm2 : X.mg x2 = some (.ref C2)) (hg3 : Gl X x3) (hm3 : X.mg x3 = some (.ref C3))
    (hb : ∀ (W : WX) (pn : List (Addr × Obj)) (xe : Value → Shared → Prop), Takes (X.tr pn xe) W → PassesOwn (model X.prog X.w) X.A X.env xe → PSs (X.tr pn xe) body (tb W))
    (hsu : ∀ (a : Addr) (oe : Obj) (pn : List (Addr × Obj)), PSs (X.suite a ((a, oe) :: pn)) (b₀ :: suite) ts)
    (hd1 : (x1 == ("__debug__" : Str)) = false := by decide) (hd2 : (x2 == ("__debug__" : Str)) = false := by decide) (hd3' : (x3 == ("__debug__" : Str)) = false := by decide) :
    PS X (.Try body [.ExceptHandler (some (.Tuple [.Name x1 q1, .Name x2 q2, .Name x3 q3] k1 q4)) none (b₀ :: suite) pos'] [] [] pos) (fun D σ H => tb (wTup X.K [C1, C2, C3] ts D) D σ H) := by
  refine ⟨fun pins s σ H D I h => ?_⟩
  have ok := I.ok
  have hfr : X.A.frames = some (X.env :: X.outer) := by rw [ok.frames, hs]
  refine wpAny_Try_except ?_
  refine wpAny_mono ((hb (wTup X.K [C1, C2, C3] ts D) (X.pn ++ pins) (fun e s₁ => wpAny (model X.prog X.w) X.A (noteFrame e X.env) (fun _ s₂ => wpAny (model X.prog X.w) X.A (setFlight e none) (fun _ s₃ =>
    wpAny (model X.prog X.w) X.A (handleBy e X.env [.ExceptHandler (some (.Tuple [.Name x1 q1, .Name x2 q2, .Name x3 q3] k1 q4)) none (b₀ :: suite) pos']) (SP X pins D) X.xe s₃) X.xe s₂) X.xe s₁) (fun u s' xx => ?_) PassesOwn.looking).run [] s σ H D (I.toTry _) h) (fun f s1 hsp => ?_) (fun e s1 he => he)
  · obtain ⟨a, B, sI, pins', σ', H', cls, d, rfl, J', nb, up, sky, na, os, ag, hit, hyes⟩ := xx
    have J : Inv X pins σ' H' sI := J'.ofTry ok
    have sky' : Sky B (X.env :: X.outer) a (Zc cls d) X.env.locals s'.heap := by rw [← hs]; exact sky
    show wpAny (model X.prog X.w) X.A (noteFrame (.ref a) X.env) _ _ _
    refine Sky.land Zc.steady hfr hf sky' fun h3 fl3 up3 => ?_
    have J3 : Inv X pins σ' H' { s' with heap := h3 } := J.landed nb fl3.1 (up.trans up3) os ag
    obtain ⟨oe3, vs3, he3, hz3, hd3⟩ := fl3.there
    have nfr : a ∉ frs (X.env :: X.outer) := fun hm => by
      obtain ⟨_, o', e', hnf⟩ := fl3.2.2.1.mem hm
      rw [he3] at e'; cases e'
      exact hnf _ hd3
    have nL : a ≠ X.env.locals := fun z => nfr (List.mem_filterMap.mpr ⟨X.env, List.mem_cons_self, by rw [hf, z]⟩)
    have nF : a ∉ X.fs := fun hm => by
      obtain ⟨e, he, q⟩ := List.mem_filterMap.mp hm
      exact nfr (List.mem_filterMap.mpr ⟨e, List.mem_cons_of_mem _ he, q⟩)
    have S3 := J3.suite he3 hd3 na nL nF
    refine wpAny_handleBy_cons (codeAny_handlers_test ?_) (by intro q; cases q)
    refine wpAny_Tuple (wpAny_items_cons (ld_glob (X := X.suite a ((a, oe3) :: (X.pn ++ pins))) S3 hg1 hm1 (wpAny_items_cons (ld_glob (X := X.suite a ((a, oe3) :: (X.pn ++ pins))) S3 hg2 hm2 (wpAny_items_cons (ld_glob (X := X.suite a ((a, oe3) :: (X.pn ++ pins))) S3 hg3 hm3 (wpAny_items_nil ⟨by size_fits, ?_⟩) hd3')) hd2)) hd1))
    have kp : ∀ q o, h3.get? q = some o → (h3.push { cls := .type "tuple", data := .seq [Value.ref C1, .ref C2, .ref C3].toArray }).get? q = some o := fun _ _ z => Heap.get?_push_of_some _ z
    have LT : PySem.W.Looks (model X.prog X.w) h3 (typeOf (.ref a)) cls := fun A Q E s k q => wpAny_typeOf_ref (k _ _ he3) (by rw [hz3.1]; exact q)
    refine (PySem.W.exm_tup3 (M := model X.prog X.w) (J3.kIn.keeps kp) (LT.keeps kp) (Heap.get?_push_size h3 rfl) hit).here ?_
    refine codeAny_handlers_suite ?_
    refine HandSPX.lands_againZ (fly_push fl3) fun h4 fl4 up4 => ?_
    have J4 : Inv X pins σ' H' { s' with heap := h4 } := J.landed nb fl4.1 ((up_push (up.trans up3)).trans up4) os ag
    obtain ⟨oe4, vs4, he4, hz4, hd4⟩ := fl4.there
    have S4 := J4.suite he4 hd4 na nL nF
    refine wpAny_mono ((hsu a oe4 (X.pn ++ pins)).run [] _ _ H' _ S4 hyes) (fun f s6 hsp => ?_) (fun _ _ z => False.elim z)
    cases f with
    | next =>
      obtain ⟨σ6, H6, S6, q6⟩ := hsp
      exact ⟨_, _, S6.unsuite ok, q6⟩
    | brk =>
      obtain ⟨σ6, H6, S6, q6⟩ := hsp
      exact ⟨_, _, S6.unsuite ok, q6⟩
    | cont =>
      obtain ⟨σ6, H6, S6, q6⟩ := hsp
      exact ⟨_, _, S6.unsuite ok, q6⟩
    | ret u =>
      obtain ⟨v6, σ6, H6, S6, r6, q6⟩ := hsp
      exact ⟨_, _, _, S6.unsuite ok, r6, q6⟩
  · cases f with
    | next =>
      obtain ⟨σ', H', J', q⟩ := hsp
      exact wpAny_execs_nil ⟨σ', H', J'.ofTry ok, q⟩
    | brk =>
      obtain ⟨σ', H', J', q⟩ := hsp
      exact ⟨σ', H', J'.ofTry ok, q⟩
    | cont =>
      obtain ⟨σ', H', J', q⟩ := hsp
      exact ⟨σ', H', J'.ofTry ok, q⟩
    | ret u =>
      obtain ⟨v, σ', H', J', r, q⟩ := hsp
      exact ⟨v, σ', H', J'.ofTry ok, r, q⟩
end
section
variable {X : Cx} {W : WX} {x1 x2 x3 : Str} {C1 C2 C3 : Addr} {body suite : List Stmt} {b₀ : Stmt} {q1 q2 q3 q4 pos pos' : Pos} {fb fs : Rho → SR} {mt : Str → Bool} {k1}
theorem ds_tryT (C : CtOk (gx X) mt [C1, C2, C3]) (hs : X.stack = X.env :: X.outer) (hf : X.env.frame = some X.env.locals) (hg1 : Gl X x1) (hm1 : X.mg x1 = some (.ref C1)) (hg2 : Gl X x2) (hm2 : X.mg x2 = some (.ref C2)) (hg3 : Gl X x3) (hm3 : X.mg x3 = some (.ref C3))
    (hb : ∀ (W' : WX) (pn : List (Addr × Obj)) (xe : Value → Shared → Prop), Takes (X.tr pn xe) W' → PassesOwn (model X.prog X.w) X.A X.env xe → DSs (X.tr pn xe) W' body fb)
    (hsu : ∀ (a : Addr) (oe : Obj) (pn : List (Addr × Obj)), DSs (X.suite a ((a, oe) :: pn)) W (b₀ :: suite) fs)
    (hd1 : (x1 == ("__debug__" : Str)) = false := by decide) (hd2 : (x2 == ("__debug__" : Str)) = false := by decide) (hd3 : (x3 == ("__debug__" : Str)) = false := by decide) :
    DS X W (.Try body [.ExceptHandler (some (.Tuple [.Name x1 q1, .Name x2 q2, .Name x3 q3] k1 q4)) none (b₀ :: suite) pos'] [] [] pos) (tryT fb mt fs) := fun F =>
  PS.wk (ps_try_tup (tb := fun W' => tS (gx X) F W' fb) (ts := tS (gx X) F W fs) hs hf hg1 hm1 hg2 hm2 hg3 hm3 (fun W' pn xe tk' po => hb W' pn xe tk' po F) (fun a oe pn => hsu a oe pn F) hd1 hd2 hd3) fun D σ H h => by
    obtain ⟨H0, ρ, E, q⟩ := h
    refine ⟨H0, ρ, E, ?_⟩
    unfold tryT at q
    cases e1 : fb ρ with
    | nx ρ1 => rw [e1] at q; exact q
    | rt s ρ1 => rw [e1] at q; exact q
    | bk ρ1 => rw [e1] at q; exact q
    | ct ρ1 => rw [e1] at q; exact q
    | bad => rw [e1] at q; exact q
    | ex e ρ1 =>
      rw [e1] at q
      dsimp only at q
      intro σ' cv da H0' H' xr E'
      by_cases hm : mt e.cls = true
      rotate_left
      · rw [if_neg hm] at q
        exact q.elim
      rw [if_pos hm] at q
      obtain ⟨nz, dd, v, g1, g2, g0, g3, g4⟩ := xr
      obtain ⟨c1, c2⟩ := C _ hm
      rw [c1] at g1
      cases g1
      refine ⟨c2, H0', ρ1, E', ?_⟩
      cases e3 : fs ρ1 with
      | rt s ρ2 => rw [e3] at q; exact q
      | nx _ => rw [e3] at q; exact q.elim
      | bk _ => rw [e3] at q; exact q.elim
      | ct _ => rw [e3] at q; exact q.elim
      | ex _ _ => rw [e3] at q; exact q.elim
      | bad => rw [e3] at q; exact q.elim
end
/-! ### a method with one keyword-only parameter that has a default, called without it -/
structure MethSD (P : Program) (w : World) (K : PySem.W.Frag) (mg : Str → Option Value) (base : Heap) (cls m : Str) (ps : List Str) (v : V) (d : Dt) (fn : FnS) (k : Nat) : Prop where
  at_ : Meth K (He.ga K cls) m (He.ma K (He.ga K cls) m)
  fn : ∃ fd ds, Binds K fd ps ds ∧ Vals [v] ds ∧ FnG P w K mg base (L2.CX P w) k (He.ma K (He.ga K cls) m) fd ps (spS ⟨K, mg⟩ fn)
  da : ∀ H0 : Hp, Da K H0 v d
section
variable {P : Program} {w : World} {K : PySem.W.Frag} {mg : Str → Option Value} {base : Heap}
theorem funSD_of {x qual kx : Str} {v : V} {st : Stmt} {N ps : List Str} {n k : Nat} {y : Str} {f : Addr} {body : Rho → SR} (D : ∃ fd, FunD K x qual (defArgs st) (defBody st) (defScope st) [] [(kx, v)] f fd) (S : FnScope N ps (defScope st)) (hN : N.length = n + 1) (hn : ps.length ≤ n) (hy : N[n]? = some y) (hv : ¬ Vis (defScope st) y) (h2 : ps.length = 2)
    (hbi : ∀ (D : Addr) (doc pm : Value) (an : Option Addr) (cdv ct : Value) (us ks : List Value), us.length = 1 → ks.length = 1 → KwChain D ([kx].zip ks) (bindArgs (PySem.W.fnOf x qual (defArgs st) (defBody st) (defScope st) .none (.ref D) doc pm an cdv ct) ⟨us, []⟩) (ps.zip (us ++ ks)))
    (hb : ∀ (f : Addr) (cdv : Value) (A : Around) (outer : List Env) (s : Shared) (H : Hp) (E : XK), Room k (A.deeper (envOfC qual (defScope st) s.heap.objs.size f cdv)) → Quiet (A.deeper (envOfC qual (defScope st) s.heap.objs.size f cdv)) →
      Takes (cxOf (L2.CX P w) P w K mg base N qual (defScope st) f cdv A outer s H E) (wE E) → PassesOwn (model P w) (cxOf (L2.CX P w) P w K mg base N qual (defScope st) f cdv A outer s H E).A (cxOf (L2.CX P w) P w K mg base N qual (defScope st) f cdv A outer s H E).env (cxOf (L2.CX P w) P w K mg base N qual (defScope st) f cdv A outer s H E).xe →
      DSs (cxOf (L2.CX P w) P w K mg base N qual (defScope st) f cdv A outer s H E) (wE E) (defBody st) body) :
    ∃ fd ds, Binds K fd ps ds ∧ Vals [v] ds ∧ FnG P w K mg base (L2.CX P w) (k + 1) f fd ps (spS ⟨K, mg⟩ (runS ps.length n body)) := by
  obtain ⟨fd, F⟩ := D
  obtain ⟨ds, rv, bi⟩ := FunD.binds0 (ps := ps) F 1 (fun z => nomatch z) (by rw [h2]; rfl) (fun D doc pm an cdv ct us ks l1 l2 => hbi D doc pm an cdv ct us ks l1 l2)
  exact ⟨fd, ds, bi, rv, fnDS F S hN hn hy hv fun cdv A outer s H E hr hq hc => hb f cdv A outer s H E hr hq⟩
end
section
variable {X : Cx} {W : WX} {CX : CXT} {o : Expr} {pos apos : Pos} {k j : Nat} {ps : List Str} {m cls : Str} {fn : FnS} {fe : Rho → R Sv} {C fad : Addr} {fd : FuncData} {sp : Sp} {ta : TE} {EE : L2.St → XK} {v : V} {d : Dt}
theorem runGSD {pins : List (Addr × Obj)} {σ : L2.St} {H : Hp} {s : Shared} {Q : VK} {us ds : List Value} {vs dvs : List V} {f : Addr} {E : L2.St → XK} (G : FnG X.prog X.w X.K X.mg X.base CX k f fd ps sp) (room : Room k X.A) (quiet : Quiet X.A) (bind : Binds X.K fd ps ds) (rd : Vals dvs ds) (hx : PassesAt CX X σ (E σ))
    (J : Inv X pins σ H s) (rel : Vals vs us) (h : sp (vs ++ dvs) H Q (E σ)) : wpAny (model X.prog X.w) X.A (call (.ref f) us) (EP X pins σ Q) X.xe s := by
  have hl : (us ++ ds).length = ps.length := by
    have := G.len _ _ _ _ h
    rw [List.length_append, rel.length, rd.length] at this
    rw [List.length_append]
    exact this
  refine wpAny_call (codeAny_mono (G.run X.A X.stack s H ⟨us, []⟩ (us ++ ds) (vs ++ dvs) Q (E σ) room quiet J.env0 (bind s us J.kIn hl) (rel.append rd) h) fun res s' hq => ?_)
  match res, hq with
  | .error err, hq => exact hx pins H s err s' J hq
  | .ok (.ret u), hq => exact J.after hq
  | .ok .next, hq => exact False.elim hq
  | .ok .brk, hq => exact False.elim hq
  | .ok .cont, hq => exact False.elim hq
theorem pe_methGSD0 {pl : Sem Bool} {ds : List Value} {dvs : List V} (he : PE X o ta) (c : Cls X.K C) (hm : Meth X.K C m fad) (G : FnG X.prog X.w X.K X.mg X.base CX k fad fd ps sp) (hr : Room k X.A) (hq : Quiet X.A) (hb : Binds X.K fd ps ds) (rd : Vals dvs ds) (hx : ∀ σ, PassesAt CX X σ (EE σ))
    (ht : eval (.Call (.Attribute o m apos) [] [] pos) X.env = (do
      let ov ← eval o X.env
      standAt apos.atName
      let (f, first) ← holding [ov] (getMethod ov m pl)
      callWith pos f first (backTo pos (starEach [] X.env)) (backToKw pos (keywordEach [] X.env)))) :
    PE X (.Call (.Attribute o m apos) [] [] pos) (fun σ H Q => ta σ H fun x H1 => ∃ a dx fs, x = .ref a ∧ H1 a = some (.ins C dx fs) ∧ fs.lookup m = none ∧ sp ([x] ++ dvs) H1 Q (EE σ)) := by
  refine ⟨fun pins s σ H Q I h => ?_⟩
  refine PySem.W.methodCall_KW (pl := pl) (thn (he.run pins s σ H _ I h) fun u s1 ⟨x, H1, I1, rx, a, dx, fs, ex, ea, l, q⟩ => ?_) ht
  subst ex
  obtain rfl : u = Value.ref a := rx
  refine getmeth_ok I1 ea c hm l ?_
  exact PySem.W.callWith_K0 (first := [.ref a]) I1.kIn hm.kp (runGSD (us := [.ref a]) (vs := [.ref a]) G hr hq hb rd (hx σ) I1 (.cons rfl .nil) q)
theorem dv_methD0 {pl : Sem Bool} (c : Cls X.K (He.ga X.K cls)) (h : MethSD X.prog X.w X.K X.mg X.base cls m ps v d fn j) (tk : Takes X W) (hr : Room k X.A) (hq : Quiet X.A) (hjk : j ≤ k) (he : DV X W o fe)
    (ht : eval (.Call (.Attribute o m apos) [] [] pos) X.env = (do
      let ov ← eval o X.env
      standAt apos.atName
      let (f, first) ← holding [ov] (getMethod ov m pl)
      callWith pos f first (backTo pos (starEach [] X.env)) (backToKw pos (keywordEach [] X.env))) := by rfl) :
    DV X W (.Call (.Attribute o m apos) [] [] pos) (methV cls m fn fe (consV (dV (cst d)) nilV)) := by
  obtain ⟨fd, ds, hbi, rd, G⟩ := h.fn
  exact fun F => PE.wk (pe_methGSD0 (he F) c h.at_ G (hr.mono hjk) hq hbi rd (fun σ => passAt tk σ) ht) fun σ H Q hh => by
    obtain ⟨H0, ρ, E, q⟩ := tMethS_of hh
    refine ⟨H0, ρ, E, ?_⟩
    cases e1 : fe ρ with
    | ok x ρ1 =>
      rw [e1] at q
      intro u H0' H' E' m1 hx
      obtain ⟨a, dx, fs, h1, h2, h3, h4⟩ := q u H0' H' E' m1 hx
      obtain ⟨B0, ρ2, E2, q2⟩ := h4
      exact ⟨a, dx, fs, h1, h2, h3, q2 [v] B0 H' E2 Mv.refl (.cons (h.da B0) .nil)⟩
    | ex x ρ1 => rw [e1] at q; exact q
    | bad => rw [e1] at q; exact q
end
/-! ### outcome(lambda: e) over the store -/
/-- what a lambda may see: nothing that the def still changes, but the store -/
def hidS (ρ : Rho) : Rho := ρ.map fun o => match o with
  | some (.fr d) => some (.fr d)
  | some (.rf k) => some (.rf k)
  | some (.sto S) => some (.sto S)
  | _ => none
theorem hidS_get {ρ : Rho} {i : Nat} {s : Sl} (h : (hidS ρ)[i]? = some (some s)) : ρ[i]? = some (some s) ∧ ((∃ d, s = .fr d) ∨ (∃ k, s = .rf k) ∨ ∃ S, s = .sto S) := by
  unfold hidS at h
  rw [List.getElem?_map] at h
  obtain ⟨o, h1, h2⟩ := Option.map_eq_some_iff.mp h
  match o, h2 with
  | some (.fr d), h2 =>
    cases h2
    exact ⟨h1, .inl ⟨d, rfl⟩⟩
  | some (.rf k), h2 =>
    cases h2
    exact ⟨h1, .inr (.inl ⟨k, rfl⟩)⟩
  | some (.sto S), h2 =>
    cases h2
    exact ⟨h1, .inr (.inr ⟨S, rfl⟩)⟩
def outSF (mt : Str → Bool) (mw : Fn) (fb : Rho → R Dt) : Rho → R Dt := fun ρ => match stoOf ρ with
  | none => .bad
  | some _ => match fb (hidS ρ) with
    | .ok d ρ1 => (match stoOf ρ1 with
      | some S' => .ok (.lst [d]) (putS S' ρ)
      | none => .bad)
    | .ex e ρ1 => (match stoOf ρ1 with
      | some S' => if mt e.cls = true then match mw [.xo e.cls e.fld e.val] with
        | .ok (.fr d) => .ok d (putS S' ρ)
        | _ => .bad
        else .bad
      | none => .bad)
    | .bad => .bad
section
variable {K : PySem.W.Frag} {F : Fm} {H0 H H0' H' H1 : Hp} {σ : L2.St} {ρ ρ' : Rho} {P : Addr}
theorem En.hidS (E : En K F H0 H σ ρ) : En K (FmS H0 H none) H0 H σ (hidS ρ) where
  gr := Gw.reflS H0 H none
  tb := E.tb
  ex := E.ex
  len := by rw [E.len, DW.hidS, List.length_map]
  sl := fun i s h => by
    obtain ⟨h1, h2⟩ := hidS_get h
    obtain ⟨v, h3, h4⟩ := E.sl i _ h1
    refine ⟨v, h3, ?_⟩
    rcases h2 with ⟨d, rfl⟩ | ⟨k, rfl⟩ | ⟨S, rfl⟩ <;> exact h4
  sep := fun i j s t a _ h _ hs => by
    obtain ⟨_, h2⟩ := hidS_get h
    rcases h2 with ⟨d, rfl⟩ | ⟨k, rfl⟩ | ⟨S, rfl⟩ <;> cases hs
  io := fun a h => nomatch h
  io1 := fun i kvs h => by
    obtain ⟨_, h2⟩ := hidS_get h
    rcases h2 with ⟨d, z⟩ | ⟨k, z⟩ | ⟨S, z⟩ <;> cases z
  st1 := fun i T h => by
    obtain ⟨h1, _⟩ := hidS_get h
    refine ⟨?_, rfl⟩
    rw [DW.hidS, List.length_map]
    exact (E.st1 i T h1).1
end
theorem out_ofS {g : Gx} {F : Fm} {W : WX} {σ : L2.St} {H : Hp} {Q : VK} {mt : Str → Bool} {mw : Fn} {fb : Rho → R Dt} {P : Addr} {q : Str} {cs : List Addr} (C : CtOk g mt cs) (inT : (P, q) ∈ tT g.K) (only : ∀ p ∈ tT g.K, p.1 = P → p.2 = q) (nf : fnB q = false) (h : tD g F W (outSF mt mw fb) σ H Q) :
    tLamQ P (tT g.K) (TTo g cs mw) (fun E σ H Q => ∃ F', tD g F' (wE E) fb σ H Q) σ H Q := by
  obtain ⟨H0, ρ, E, qq⟩ := h
  refine ⟨fun p hp => (E.tb p hp).2, fun H1 tg p0 hp0 Q' hQ' => ?_⟩
  obtain ⟨g1, t1, s1⟩ := E.tg inT only nf tg
  have E1 := E.growW g1 t1 s1
  have E2 : En g.K F H0 (upd H1 p0 (.tup [.non, .non])) σ ρ := E1.grow (gr_newO hp0) (same_newO hp0 s1)
  have m2 : Mv σ ρ ρ H0 H H0 (upd H1 p0 (.tup [.non, .non])) := Mw.trans g1.mv (gr_newO hp0).w.mv
  refine ⟨FmS H0 (upd H1 p0 (.tup [.non, .non])) none, H0, hidS ρ, E2.hidS, ?_⟩
  unfold outSF at qq
  cases hS : stoOf ρ with
  | none => rw [hS] at qq; exact qq.elim
  | some S =>
  rw [hS] at qq
  dsimp only at qq
  cases e : fb (hidS ρ) with
  | bad => rw [e] at qq; exact qq.elim
  | ok d ρ1 =>
    rw [e] at qq
    dsimp only at qq
    cases hS1 : stoOf ρ1 with
    | none => rw [hS1] at qq; exact qq.elim
    | some S' =>
    rw [hS1] at qq
    intro v H0' H' E3 m3 hv
    refine hQ' v H' fun p hp => ?_
    obtain ⟨_, R⟩ := stoOf_at E3 hS1
    obtain ⟨E4, m4⟩ := E2.postS hS E3.gr E3.tb E3.ex R
    have nt : NT (.lst [v]) := fun ps z => nomatch z
    have gp : Gr ⟨H0', H', none, false⟩ (upd H0' p (.lst [v])) (upd H' p (.lst [v])) := gr_new hp E3.ex nt
    obtain ⟨E5, m5⟩ := E4.postW (m2.trans m4) gp.w (gp.tb E4.tb) (same_new hp E4.ex)
    exact qq (.ref p) _ _ E5 m5 (.lst upd_same (.cons (hv.mono gp.b0) .nil))
  | ex x ρ1 =>
    rw [e] at qq
    dsimp only at qq
    cases hS1 : stoOf ρ1 with
    | none => rw [hS1] at qq; exact qq.elim
    | some S' =>
    rw [hS1] at qq
    dsimp only at qq
    by_cases hm : mt x.cls = true
    rotate_left
    · rw [if_neg hm] at qq
      exact qq.elim
    rw [if_pos hm] at qq
    obtain ⟨C1, C2⟩ := C _ hm
    intro c da H0' H' xr E3
    obtain ⟨nz, dd, v, x1, x2, x3, x4, x5⟩ := xr
    rw [C1] at x1
    cases x1
    refine ⟨C2, dd, x2, fun a ha => ?_⟩
    obtain ⟨_, R⟩ := stoOf_at E3 hS1
    have ng : NG H0' dd := fun ps z => by
      obtain ⟨k, hk, hl⟩ := R.all dd ps z
      obtain ⟨b, b1, b2⟩ := R.at_ k _ (List.getElem?_eq_getElem hl)
      have : dd = b := R.un dd b k (by rw [z, hk]; rfl) b1
      subst this
      revert b2
      cases S'[k] with
      | lst xs =>
        rintro ⟨us, q1, _⟩
        rw [x4] at q1
        cases q1
      | ins c fs =>
        intro b2
        obtain ⟨y1, y2, q1, _⟩ := b2
        rw [x4] at q1
        cases q1
    obtain ⟨gw, tb, sm, s0, gg⟩ := gw_xo (c := dd) (cls := .ref (He.ga g.K x.cls)) E3.gr E3.tb E3.ex x3 x4 ha ng
    have nda : dd ≠ a := ne_of_none x4 ha
    have R2 := R.mono (H' := upd H' a (ExV a (.ref (He.ga g.K x.cls)) dd)) s0 gg fun b j u hb hu _ => by
      rw [upd_ne (ne_of_none hu ha)]
      exact hu
    refine ⟨_, [.xo x.cls x.fld x.val], sm, tb, .cons (.xo nz upd_same (by rw [upd_ne nda, upd_same]) (x5.mono s0)) .nil, ?_⟩
    obtain ⟨E4, m4⟩ := E2.postS hS gw tb sm R2
    cases e2 : mw [.xo x.cls x.fld x.val] with
    | ok s =>
      rw [e2] at qq
      cases s with
      | fr d =>
        intro u C0 C gr tt s2 hv
        obtain ⟨E5, m5⟩ := E4.postW (m2.trans m4) gr tt s2
        exact qq u C0 C E5 m5 hv
      | _ => exact qq.elim
    | ex x => rw [e2] at qq; exact qq.elim
    | bad => rw [e2] at qq; exact qq.elim
section
variable {X : Cx} {W : WX}
/-- outcome(lambda ..: body), the body over the store -/
theorem de_outS {mt : Str → Bool} {mw : Fn} {cs : List Addr} {x a : Str} {st : Stmt} {c P : Addr} {k : Nat} {Ng : List Str} {params : Arguments} {body : Expr} {scope : Scope} {fb : Rho → R Dt} {p lpos pos : Pos} (C : CtOk (gx X) mt cs) (D : IsDef X.K X.mg x st) (hg : Gl X x) (Sg : FnScope Ng [a] (defScope st)) (hNg : Ng[0]? = some a) (hva : Vis (defScope st) a)
    (hbi : ∀ (kV doc pm : Value) (an : Option Addr) (cdv ct : Value) (us : List Value), us.length = [a].length → bindArgs (PySem.W.fnOf x x (defArgs st) (defBody st) (defScope st) .none kV doc pm an cdv ct) ⟨us, []⟩ = pure ([a].zip us))
    (hG : ∀ (g : Addr) (cdg : Value), OutG X Ng x (defScope st) g cdg (defBody st) a (lamQ X) (k + 1) (TTo (gx X) cs mw))
    (tab : TabB X.base X.mg c P) (code : X.env.code = .ref c) (inT : (P, lamQ X) ∈ tT X.K) (only : ∀ p ∈ tT X.K, p.1 = P → p.2 = lamQ X) (room : Room (k + 2) X.A) (quiet : Quiet X.A) (L : LamN X.N X.env.scope scope) (lp : LamP X.env params body scope)
    (hbody : ∀ (A : Around) (outer : List Env) (s : Shared) (H : Hp) (E : XK) (f c' : Addr), Room k (A.deeper (lamEnv X scope s.heap.objs.size f c')) → Quiet (A.deeper (lamEnv X scope s.heap.objs.size f c')) → DE (lamCx X A outer s H E scope f c') (wE E) body fb)
    (nf : fnB (lamQ X) = false := by rfl) (hdb : (x == ("__debug__" : Str)) = false := by decide) (hd : (a == ("__debug__" : Str)) = false := by decide) (hcd : (a == ("__classdict__" : Str)) = false := by decide)
    (hst : starEach [.Lambda params body scope lpos] X.env = (false, eval (.Lambda params body scope lpos) X.env) :: starEach [] X.env := by rfl) (hpl : (backTo pos (starEach [] X.env)).any (·.1) = false := by rfl) :
    DE X W (.Call (.Name x p) [.Lambda params body scope lpos] [] pos) (outSF mt mw fb) := fun F =>
  PE.wk (pe_lamQ (t := fun E σ H Q => ∃ F', tD (gx X) F' (wE E) fb σ H Q) D hg Sg hNg hva hbi hG tab code inT only room quiet L lp
    (fun A outer s H E f c' hr hq => ⟨fun pins s1 σ H1 Q I ⟨F', h⟩ => ((hbody A outer s H E f c' hr hq) F').run pins s1 σ H1 Q I h⟩) hdb hd hcd hst hpl) fun σ H Q h => out_ofS C inT only nf h
end
end DW

set_option Elab.async false
set_option linter.all false
set_option maxRecDepth 100000
set_option maxHeartbeats 4000000
/-! OB9: o == p by an own __eq__, isinstance of an instance -/
namespace DW
open PySem PySem.Spec PyProof.Rows L2
def eqOV (cls : Str) (fn : FnS) (fa fb : Rho → R Sv) : Rho → R Dt := fun ρ => (fa ρ).bind fun x ρ1 => (fb ρ1).bind fun y ρ2 => match insAt cls x ρ2 with
  | some _ => (match insAt cls y ρ2 with
    | some _ => (match runAt fn [x, y] ρ2 with
      | .ok (.d (.bl b)) ρ3 => .ok (.bl b) ρ3
      | _ => .bad)
    | none => .bad)
  | none => .bad
def rEqO (C : Addr) (sp : Sp) : R2 := fun x y H Q => ∃ a dx fs b dy gs, x = .ref a ∧ y = .ref b ∧ H a = some (.ins C dx fs) ∧ H b = some (.ins C dy gs) ∧ sp [.ref a, .ref b] H (fun v H' => ∃ b, v = .bl b ∧ Q (.bl b) H') fun _ _ _ => False
section
variable {X : Cx} {W : WX} {a b e : Expr} {es : List Expr} {pos p p2 : Pos} {k j : Nat} {ps : List Str} {cls cn : Str} {fn : FnS} {fe fa fb : Rho → R Sv} {C fad : Addr} {fd : FuncData} {sp : Sp}
theorem opr_eqO (hm : Meth X.K C "__eq__" fad) (G : FnG X.prog X.w X.K X.mg X.base (L2.CX X.prog X.w) k fad fd ps sp) (hr : Room (k + 1) X.A) (hq : Quiet X.A) (hb : Binds X.K fd ps []) : OpR X (compareOp .Eq) (rEqO C sp) := by
  intro pins s σ H x y v u Q I rx ry ⟨a, dx, fs, b, dy, gs, ex, ey, ea, eb, q⟩
  subst ex ey
  obtain rfl : v = Value.ref a := rx
  obtain rfl : u = Value.ref b := ry
  obtain ⟨ox, od, J, _⟩ := inst_at I ea
  obtain ⟨ox', od', J', _⟩ := inst_at I eb
  obtain ⟨m, hF⟩ := I.fr
  show wpAny (model X.prog X.w) X.A (richCompare .Eq (.ref a) (.ref b)) (EP X pins σ Q) X.xe s
  refine PySem.W.cmp_K (op := .Eq) (tb := .ref C) hr.units0 hF I.ok.mod.kin J J'.type (by simp [PySem.W.notFirst]) hm.at_ hm.fn ?_
  refine wpAny_mono (runG1 (us := [.ref a, .ref b]) (vs := [.ref a, .ref b]) (.inl rfl) G hr hq hb I (.cons rfl (.cons rfl .nil)) q) (fun w s' h => ?_) fun _ _ z => z
  obtain ⟨w', H', I', rv, b, rfl, hq'⟩ := h
  cases rv
  exact ⟨.bl b, H', I', rfl, hq'⟩
theorem tEqO_of {F : Fm} {σ : L2.St} {H : Hp} {Q : VK} (h : tD (gx X) F W (eqOV cls fn fa fb) σ H Q) : tOp (rEqO (He.ga X.K cls) (spS (gx X) fn)) (tV (gx X) F W fa) (tV (gx X) F W fb) σ H Q := by
  obtain ⟨H0, ρ, E, q⟩ := h
  refine ⟨H0, ρ, E, ?_⟩
  unfold eqOV at q
  cases e1 : fa ρ with
  | ok x ρ1 =>
    rw [e1] at q
    dsimp only [R.bind] at q
    intro v H1 B1 E1 m1 hx
    refine ⟨H1, ρ1, E1, ?_⟩
    cases e2 : fb ρ1 with
    | ok y ρ2 =>
      rw [e2] at q
      dsimp only [R.bind] at q
      intro u H2 B2 E2 m2 hy
      have hx2 := hx.mono m2.b0 m2.gk
      cases e3 : insAt cls x ρ2 with
      | none => rw [e3] at q; exact q.elim
      | some fs =>
        rw [e3] at q
        dsimp only at q
        cases e4 : insAt cls y ρ2 with
        | none => rw [e4] at q; exact q.elim
        | some gs =>
          rw [e4] at q
          dsimp only at q
          obtain ⟨_, _, a, dx, vs, _, _, _, rfl, _, ha, hf⟩ := insAt_at E2 hx2 e3
          obtain ⟨_, _, b, dy, ws, _, _, _, rfl, _, hb, hf'⟩ := insAt_at E2 hy e4
          refine ⟨a, dx, vs, b, dy, ws, rfl, rfl, ha, hb, sp_at (W := WF) E2 (.cons hx2 (.cons hy .nil)) ?_⟩
          cases e5 : runAt fn [x, y] ρ2 with
          | ok z ρ3 =>
            rw [e5] at q
            cases z with
            | r _ => exact q.elim
            | d z =>
              cases z with
              | bl c =>
                intro w C0 C E3 m3 hz
                cases hz
                exact ⟨c, rfl, q _ C0 C E3 (m1.trans (m2.trans m3)) (.bl _)⟩
              | _ => exact q.elim
          | ex y ρ3 => rw [e5] at q; exact q.elim
          | bad => rw [e5] at q; exact q.elim
    | ex x ρ2 => rw [e2] at q; exact q
    | bad => rw [e2] at q; exact q
  | ex x ρ1 => rw [e1] at q; exact q
  | bad => rw [e1] at q; exact q
theorem de_eqO (h : MethS X.prog X.w X.K X.mg X.base cls "__eq__" ps fn j) (hr : Room k X.A) (hq : Quiet X.A) (hjk : j + 1 ≤ k) (ha : DV X W a fa) (hb : DV X W b fb) (hm : behindInMarks .Eq b = false := by rfl) : DE X W (.Compare a [.Eq] [b] pos) (eqOV cls fn fa fb) := by
  obtain ⟨fd', hk, hbi, G⟩ := h.fn
  exact fun F => PE.wk (pe_cmpR (opr_eqO h.at_ G (hr.mono hjk) hq hbi) (ha F) (hb F) hm) fun _ _ _ h => tEqO_of h
theorem dt_eqO (h : MethS X.prog X.w X.K X.mg X.base cls "__eq__" ps fn j) (hr : Room k X.A) (hq : Quiet X.A) (hjk : j + 1 ≤ k) (ha : DV X W a fa) (hb : DV X W b fb) (hm : behindInMarks .Eq b = false := by rfl) : DT X W (.Compare a [.Eq] [b] pos) (tstF (eqOV cls fn fa fb)) := by
  obtain ⟨fd', hk, hbi, G⟩ := h.fn
  exact fun F => PT.wk (pt_cmpR (opr_eqO h.at_ G (hr.mono hjk) hq hbi) (ha F) (hb F) hm) fun _ _ _ h => tEqO_of (tTest_of h)
/-! ### isinstance(o, C), o an instance of C -/
def isOV (cls : Str) (fe : Rho → R Sv) : Rho → R Dt := fun ρ => (fe ρ).bind fun x ρ1 => match insAt cls x ρ1 with
  | some _ => .ok (.bl true) ρ1
  | none => .bad
def insCB (K : PySem.W.Frag) (C : Addr) : Bool := He.eqO (PySem.W.findIn K (.ref C) "__class__") (some (some (.builtin "object.__class__"))) && (He.eqO (PySem.W.specialIn K (.builtin "object.__class__") "__get__") (some (some (.builtin "getset_descriptor.__get__"))) &&
  (decide (PySem.W.takesIn K (.builtin "object.__class__") = some true) && (decide (PySem.W.mroIn K C (.type "object") = some true) && decide (PySem.W.kitOne K (.ref C) (.ref C) = some true))))
theorem insCB_ok {K : PySem.W.Frag} (c : Cls K C) (h : insCB K C = true) : C8.InsC K C := by
  obtain ⟨h1, h⟩ := He.ba h
  obtain ⟨h2, h⟩ := He.ba h
  obtain ⟨h3, h⟩ := He.ba h
  obtain ⟨h4, h5⟩ := He.ba h
  exact ⟨c, He.eqO_ok h1, He.eqO_ok h2, of_decide_eq_true h3, of_decide_eq_true h4, of_decide_eq_true h5⟩
theorem de_isO (c : C8.InsC X.K (He.ga X.K cls)) (hg : Gl X "isinstance") (hm : X.mg "isinstance" = none) (hgT : Gl X cls) (hmT : X.mg cls = some (.ref (He.ga X.K cls))) (ha : DV X W e fe) (hd : (cls == ("__debug__" : Str)) = false := by decide)
    (he : starEach (e :: [.Name cls p2]) X.env = (false, eval e X.env) :: starEach [.Name cls p2] X.env := by rfl) (hpl : (backTo pos (starEach [.Name cls p2] X.env)).any (·.1) = false := by rfl) (he2 : starEach (.Name cls p2 :: []) X.env = (false, eval (.Name cls p2) X.env) :: starEach [] X.env := by rfl) :
    DE X W (.Call (.Name "isinstance" p) [e, .Name cls p2] [] pos) (isOV cls fe) := fun F =>
  PE.wk (pe_callB (C8.call_isC c) hg hm (by decide +kernel) (pa_cons (ha F) (pa_cons (pe_cls hgT hmT hd) pa_nil he2) he) (he := he) (hpl := hpl)) fun σ H Q ⟨H0, ρ, E, q⟩ => by
    refine ⟨H0, ρ, E, ?_⟩
    unfold isOV at q
    cases e1 : fe ρ with
    | ok x ρ1 =>
      rw [e1] at q
      dsimp only [R.bind] at q
      intro v H1 B1 E1 m1 hx
      cases e3 : insAt cls x ρ1 with
      | none => rw [e3] at q; exact q.elim
      | some fs =>
        rw [e3] at q
        dsimp only at q
        obtain ⟨_, _, a, dx, vs, _, _, _, rfl, _, ha, hf⟩ := insAt_at E1 hx e3
        exact ⟨a, dx, vs, rfl, ha, q _ H1 B1 E1 m1 (.bl _)⟩
    | ex x ρ1 => rw [e1] at q; exact q
    | bad => rw [e1] at q; exact q
end
end DW

set_option Elab.async false
set_option linter.all false
set_option maxRecDepth 100000
set_option maxHeartbeats 4000000
/-! DWR: *e in displays and arguments; sorted(list(d.items())) -/
namespace DW
open PySem PySem.Spec PyProof.Rows L2
/-! ### *e -/
def seqD : Dt → Option (List Dt)
  | .lst xs => some xs
  | .tup xs => some xs
  | _ => none
def starA (f : Rho → R Dt) (fa : Rho → R (List Dt)) : Rho → R (List Dt) := fun ρ => (f ρ).bind fun d ρ1 => match seqD d with
  | some xs => (fa ρ1).bind fun ds ρ2 => .ok (xs ++ ds) ρ2
  | none => .bad
section
variable {X : Cx} {W : WX} {a : Expr} {es : List Expr} {f1 : Rho → R Dt} {fa : Rho → R (List Dt)} {p : Pos}
theorem seqD_da {K : PySem.W.Frag} {H0 H : Hp} {v : V} {d : Dt} {xs : List Dt} (s : Same H0 H) (h : Da K H0 v d) (e : seqD d = some xs) : ∃ q vs, v = .ref q ∧ (SqT K H q vs ∨ SqL K H q vs) ∧ DaAll K H0 vs xs := by
  unfold seqD at e
  split at e
  · cases e
    cases h with
    | lst h1 h2 => exact ⟨_, _, rfl, .inr (seqL_mono s (SqL.of h1)), h2⟩
  · cases e
    cases h with
    | tup h1 h2 => exact ⟨_, _, rfl, .inl (seqT_mono s h1), h2⟩
  · cases e
theorem tStar_of {g : Gx} {F : Fm} {σ : L2.St} {H : Hp} {Q : List V → Hp → Prop} (h : tDA g F W (starA f1 fa) σ H Q) : StX.tStar g.K (tD g F W f1) (tDA g F W fa) σ H Q := by
  obtain ⟨H0, ρ, E, q⟩ := h
  refine ⟨H0, ρ, E, ?_⟩
  unfold starA at q
  cases e : f1 ρ with
  | ok d ρ1 =>
    rw [e] at q
    dsimp only [R.bind] at q
    intro v H0' H' E' m hd
    cases e1 : seqD d with
    | none =>
      rw [e1] at q
      exact q.elim
    | some xs =>
      rw [e1] at q
      obtain ⟨l, vs, rfl, h1, h2⟩ := seqD_da E'.ex hd e1
      refine ⟨l, vs, rfl, h1, H0', ρ1, E', ?_⟩
      cases e2 : fa ρ1 with
      | ok ds ρ2 =>
        rw [e2] at q
        exact fun ws H0'' H'' E'' m' hs => q (vs ++ ws) H0'' H'' E'' (m.trans m') ((h2.mono m'.b0).append hs)
      | ex x ρ2 =>
        rw [e2] at q
        exact q
      | bad =>
        rw [e2] at q
        exact q
  | ex x ρ1 =>
    rw [e] at q
    exact q
  | bad =>
    rw [e] at q
    exact q
theorem da_star (ha : DE X W a f1) (hr : DA X W es fa) (hs : starEach (.Starred a p :: es) X.env = (true, eval a X.env) :: starEach es X.env := by rfl) : DA X W (.Starred a p :: es) (starA f1 fa) := fun F => PA.wk (StX.pa_star (ha F) (hr F) hs) fun _ _ _ h => tStar_of h
end
/-! ### sorted(list(d.items())) -/
/-- what a tuple of two numbers holds, else nought -/
def prV (H : Hp) (v : V) : Int × Int := match v with
  | .ref t => (match H t with
    | some (.tup [.int a, .int b]) => (a, b)
    | _ => (0, 0))
  | _ => (0, 0)
def rSortedP : List V → Hp → VK → Prop := fun vs H Q => ∃ (a : Addr) (ys : List V), vs = [V.ref a] ∧ H a = some (.lst ys) ∧ (∀ y ∈ ys, ∃ t, y = V.ref t ∧ H t = some (.tup [.int (prV H y).1, .int (prV H y).2])) ∧
  ∀ (zs : List V) (l : Addr), zs.Perm ys → (zs.map (prV H)).Pairwise leP → H l = none → Q (.ref l) (upd H l (.lst zs))
section
variable {X : Cx} {e : Expr} {te : TE} {p p2 apos cpos pos pos2 : Pos}
theorem cr_sortedP : CallR X (.builtin "sorted") rSortedP := by
  intro pins s σ H vs us Q I r h
  obtain ⟨a, ys, rfl, ha, hx, q⟩ := h
  obtain ⟨its, rv, hl, hz⟩ := I.list (SqL.of ha)
  rw [Vals.ref1 r]
  obtain ⟨e1, e2⟩ := refs_back rv fun x m => by
    obtain ⟨t, e, _⟩ := hx x m
    exact ⟨t, e⟩
  have hp : ∀ v ∈ its, Srt.IsPair s.heap v (prV H (backV v)).1 (prV H (backV v)).2 := fun v hv => by
    obtain ⟨t, rfl⟩ := e2 v hv
    have hm : V.ref t ∈ ys := by rw [e1]; exact List.mem_map.mpr ⟨_, hv, rfl⟩
    obtain ⟨t', e, ht⟩ := hx _ hm
    cases e
    obtain ⟨_, its2, r2, o, ho, hc, n, hd⟩ := I.hok _ _ ht
    obtain ⟨u1, u2, rfl, ri, rj⟩ := vals2 r2
    obtain ⟨t1, rfl⟩ := ri
    obtain ⟨t2, rfl⟩ := rj
    exact ⟨t, o, t1, t2, n, rfl, ho, hc, hd⟩
  refine SrtO.sorted_ord (SrtO.swo_lex fun u => prV H (backV u)) hl.isList (by rw [← rv.length]; exact hz) (fun h2 h₁ a' q1 q2 => SrtO.pairs_sortableO (by omega) (fun v hv => ?_) fun o e => ?_) fun out h1 h2 => ?_
  · obtain ⟨t, o, t1, t2, n, rfl, ho, hc, hd⟩ := hp v hv
    exact ⟨t, o, t1, t2, n, rfl, (q2 _ _ ho).2, hc, hd⟩
  · have e' : some o = some (seqObj "list" its.toArray 0) := e.symm.trans q1
    cases e'
    intro c
    exact absurd (Value.type.inj c) (by decide)
  · have h3 : ∀ u ∈ out, ∃ a, u = Value.ref a := fun u hu => e2 u (h2.perm.mem_iff.mp hu)
    obtain ⟨ep, he'⟩ := PyProof.Rows.sortedAll_at s.heap its out.toArray
    have hperm : (out.map backV).Perm ys := by
      rw [e1]
      exact h2.perm.map backV
    have hlen : (out.map backV).length ≤ sizeLine := by
      rw [hperm.length_eq]
      exact hz
    refine ⟨.ref _, upd H (s.heap.objs.size + 1) (.lst (out.map backV)), I.laid (t' := s.toks) (fun _ _ => PyProof.Rows.sortedAll_old) (Nat.le_succ _) ⟨hlen, out, ep, vals_back h3, he'⟩, rfl, q _ _ hperm ?_ (I.hok.fresh (Nat.le_succ _))⟩
    rw [List.map_map, List.pairwise_map]
    exact h1.imp fun z => lexB_leP z
def rSortLI : V → Hp → VK → Prop := fun x H Q => LiI.rItemsL x H fun y H1 => rSortedP [y] H1 Q
theorem pe_sortLI (hc : X.calm = true) (he : PE X e te) (hgS : Gl X "sorted") (hmS : X.mg "sorted" = none) (hg : Gl X "list") (hm : X.mg "list" = none) (hb : attributeBase e "items" X.env (eval e X.env) = eval e X.env := by rfl) (hl : (apos.endLine == cpos.line) = true := by rfl)
    (hs : starEach [.Call (.Attribute e "items" apos) [] [] cpos] X.env = (false, eval (.Call (.Attribute e "items" apos) [] [] cpos) X.env) :: starEach [] X.env := by rfl)
    (hs2 : starEach (.Call (.Name "list" p) [.Call (.Attribute e "items" apos) [] [] cpos] [] pos :: []) X.env = (false, eval (.Call (.Name "list" p) [.Call (.Attribute e "items" apos) [] [] cpos] [] pos) X.env) :: starEach [] X.env := by rfl) (hpl : (backTo pos2 (starEach [] X.env)).any (·.1) = false := by rfl) :
    PE X (.Call (.Name "sorted" p2) [.Call (.Name "list" p) [.Call (.Attribute e "items" apos) [] [] cpos] [] pos] [] pos2) (fun σ H Q => te σ H fun x H1 => rSortLI x H1 Q) :=
  PE.wk (pe_callB cr_sortedP hgS hmS boot_sorted (pa_cons (LiI.pe_listItems hc he hg hm (by decide +kernel) hb hl hs) pa_nil hs2) (he := hs2) (hpl := hpl)) fun σ H Q h => h
end
theorem und_sortLI (K : PySem.W.Frag) : UnD K rSortLI srtItD := by
  intro x d z H0 H s hx hg Q k
  unfold srtItD at hg
  split at hg
  · rename_i kvs
    obtain ⟨ps, h, rfl⟩ := Option.map_eq_some_iff.mp hg
    obtain ⟨a, ks, rfl, h1, h2⟩ := hx
    rw [pairsI_kv h h2] at h1
    refine ⟨a, _, rfl, h1, fun H1 p ts kp hp ht hpt hl hpr => ?_⟩
    -- the tuples
    have hpr' : Paired (fun (t : Addr) (q : Int × Int) => H1 t = some (.tup [.int q.1, .int q.2])) ts ps := by
      have key : ∀ (us : List Addr) (rs : List (Int × Int)), Paired (fun (t : Addr) (q : Key × V) => H1 t = some (.tup [kV q.1, q.2])) us (rs.map fun p => (Sum.inl p.1, V.int p.2)) → Paired (fun (t : Addr) (q : Int × Int) => H1 t = some (.tup [.int q.1, .int q.2])) us rs := by
        intro us rs
        induction rs generalizing us with
        | nil =>
          intro hh
          cases hh
          exact .nil
        | cons r rs ih =>
          intro hh
          cases hh with
          | cons a b => exact .cons a (ih _ b)
      exact key ts ps hpr
    have hk : ∀ t q, H1 t = some (.tup [.int q.1, .int q.2]) → prV H1 (.ref t) = q := fun t q hh => by
      unfold prV
      dsimp only
      rw [hh]
    have hmap : (ts.map V.ref).map (prV H1) = ps := by
      have key : ∀ (us : List Addr) (rs : List (Int × Int)), Paired (fun (t : Addr) (q : Int × Int) => H1 t = some (.tup [.int q.1, .int q.2])) us rs → (us.map V.ref).map (prV H1) = rs := by
        intro us rs hh
        induction hh with
        | nil => rfl
        | cons a _ ih => rw [List.map_cons, List.map_cons, ih, hk _ _ a]
      exact key ts ps hpr'
    have hat : ∀ y ∈ ts.map V.ref, ∃ t, t ∈ ts ∧ y = V.ref t ∧ H1 t = some (.tup [.int (prV H1 y).1, .int (prV H1 y).2]) := fun y hy => by
      obtain ⟨t, h5, rfl⟩ := List.mem_map.mp hy
      obtain ⟨j, q, _, _, h6⟩ := LiI.paired_ix hpr' h5
      exact ⟨t, h5, rfl, by rw [hk t q h6]; exact h6⟩
    refine ⟨p, ts.map V.ref, rfl, hl, fun y hy => ?_, fun zs l hz hs hln => ?_⟩
    · obtain ⟨t, _, e1, e2⟩ := hat y hy
      exact ⟨t, e1, e2⟩
    have hperm : (zs.map (prV H1)).Perm ps := by
      have := hz.map (prV H1)
      rwa [hmap] at this
    rw [← sortP_one hperm hs] at k
    have kp' : ∀ b o, H b = some o → upd H1 l (.lst zs) b = some o := fun b o hb => by
      have h9 := kp b o hb
      rw [upd_ne (ne_of_none h9 hln)]
      exact h9
    have hlH : H l = none := by
      cases e : H l with
      | none => rfl
      | some o => rw [kp l o e] at hln; cases hln
    obtain ⟨g1, g2⟩ := gr_many (H0 := H0) (H := H) (H' := upd H1 l (.lst zs)) (l :: ts) s kp' (fun b hb => by
      rcases List.mem_cons.mp hb with rfl | hb
      · exact hlH
      · exact ht b hb) (fun b hb o ho => by
      rcases List.mem_cons.mp hb with rfl | hb
      · rw [upd_same] at ho; cases ho; exact nt_lst _
      · obtain ⟨q, hq⟩ := paired_mem hpr' b hb
        rw [upd_ne (ne_of_none hq hln), hq] at ho; cases ho; exact fun _ z => nomatch z)
    refine k (.ref l) _ _ g1 g2 (.lst (xs := zs) (by rw [if_pos (List.mem_cons_self ..)]; exact upd_same) ?_)
    have key : ∀ (ws : List V), (∀ w ∈ ws, w ∈ ts.map V.ref) → DaAll K (fun b => if b ∈ l :: ts then upd H1 l (.lst zs) b else H0 b) ws ((ws.map (prV H1)).map prD2) := by
      intro ws
      induction ws with
      | nil => exact fun _ => .nil
      | cons w ws ih =>
        intro hw
        obtain ⟨t, h5, rfl, h6⟩ := hat w (hw w (List.mem_cons_self ..))
        refine .cons (.tup (xs := [.int (prV H1 (.ref t)).1, .int (prV H1 (.ref t)).2]) (.inl (.inl ?_)) (.cons (.int _) (.cons (.int _) .nil))) (ih fun u h6 => hw u (List.mem_cons_of_mem _ h6))
        show (if t ∈ l :: ts then upd H1 l (.lst zs) t else H0 t) = _
        rw [if_pos (List.mem_cons_of_mem _ h5), upd_ne (ne_of_none h6 hln)]
        exact h6
    exact key zs fun w hw => hz.mem_iff.mp hw
  · cases hg
section
variable {X : Cx} {W : WX} {o : Expr} {f1 : Rho → R Dt} {p p2 apos cpos pos pos2 : Pos}
theorem de_sortLI (hc : X.calm = true) (hgS : Gl X "sorted") (hmS : X.mg "sorted" = none) (hg : Gl X "list") (hm : X.mg "list" = none) (ho : DK X W o f1) (hb : attributeBase o "items" X.env (eval o X.env) = eval o X.env := by rfl) (hl : (apos.endLine == cpos.line) = true := by rfl)
    (hs : starEach [.Call (.Attribute o "items" apos) [] [] cpos] X.env = (false, eval (.Call (.Attribute o "items" apos) [] [] cpos) X.env) :: starEach [] X.env := by rfl)
    (hs2 : starEach (.Call (.Name "list" p) [.Call (.Attribute o "items" apos) [] [] cpos] [] pos :: []) X.env = (false, eval (.Call (.Name "list" p) [.Call (.Attribute o "items" apos) [] [] cpos] [] pos) X.env) :: starEach [] X.env := by rfl) (hpl : (backTo pos2 (starEach [] X.env)).any (·.1) = false := by rfl) :
    DE X W (.Call (.Name "sorted" p2) [.Call (.Name "list" p) [.Call (.Attribute o "items" apos) [] [] cpos] [] pos] [] pos2) (un srtItD f1) := fun F => PE.wk (pe_sortLI hc (ho F) hgS hmS hg hm hb hl hs hs2 hpl) fun _ _ _ h => tUn_un (und_sortLI _) h
end
end DW

set_option Elab.async false
set_option linter.all false
set_option maxRecDepth 100000
set_option maxHeartbeats 4000000
/-! DWTX: texts: str(n), int(text), join, split, f-strings -/
namespace DW
open PySem PySem.Spec PyProof.Rows L2
/-- the text of a whole number -/
def numS (i : Int) : Str := Str.ofString (toString i)
def strD : Dt → Option Dt
  | .int i => if i.natAbs.log2 < 1920 then some (.str (numS i)) else none
  | .str x => some (.str x)
  | _ => none
def intT : Dt → Option Dt
  | .int i => some (.int i)
  | .bl b => some (.int (if b then 1 else 0))
  | .str a => if a.length ≤ 640 then (PySem.intText? a).map .int else none
  | _ => none
/-- texts all -/
def strsOf : List Dt → Option (List Str)
  | [] => some []
  | .str x :: ds => (strsOf ds).map (x :: ·)
  | _ :: _ => none
def joinS (sep : Str) (ds : List Dt) : Option Dt := match strsOf ds with
  | some ys => if (ys.map (·.length)).sum + ys.length * sep.length ≤ 1000000 then some (.str (Txt.join sep ys)) else none
  | none => none
def joinD (sep : Str) : Dt → Option Dt
  | .lst ds => joinS sep ds
  | .tup ds => joinS sep ds
  | _ => none
def splitD (sep : Str) : Dt → Option Dt
  | .str a => if a.length ≤ 1000000 then some (.lst ((Txt.split a sep).map .str)) else none
  | _ => none
section
variable {X : Cx} {W : WX} {a b c e : Expr} {es : List Expr} {pos p apos : Pos} {f1 f2 f3 : Rho → R Dt}
def rStrA : List V → Hp → VK → Prop := fun xs H Q => (∃ i, xs = [V.int i] ∧ i.natAbs.log2 < 1920 ∧ Q (.str (numS i)) H) ∨ ∃ x, xs = [V.str x] ∧ Q (.str x) H
theorem callr_strA : CallR X (.type "str") rStrA := by
  intro pins s σ H xs us Q I r h
  rcases h with h | h
  · exact call_str_int pins s σ H xs us Q I r h
  · exact SkE.call_str_str pins s σ H xs us Q I r h
theorem und_str (K : PySem.W.Frag) : UnD K (fun x H Q => rStrA [x] H Q) strD := by
  intro x d z H0 H s hx hg Q k
  unfold strD at hg
  split at hg
  · split at hg
    · rename_i hl
      cases hg
      cases hx
      exact .inl ⟨_, rfl, hl, sc s (.str _) k⟩
    · cases hg
  · cases hg
    cases hx
    exact .inr ⟨_, rfl, sc s (.str _) k⟩
  · cases hg
theorem de_tostr (hg : Gl X "str") (hm : X.mg "str" = none) (ha : DK X W e f1) (he : starEach (e :: []) X.env = (false, eval e X.env) :: starEach [] X.env := by rfl) : DE X W (.Call (.Name "str" p) [e] [] pos) (un strD f1) :=
  de_t1 callr_strA (und_str _) hg hm (by decide +kernel) ha (he := he)
def rIntA : List V → Hp → VK → Prop := fun xs H Q => ((∃ i, xs = [V.int i] ∧ Q (.int i) H) ∨ ∃ k, xs = [V.bl k] ∧ Q (.int (if k then 1 else 0)) H) ∨ ∃ a n, xs = [V.str a] ∧ PySem.intText? a = some n ∧ a.length ≤ 640 ∧ Q (.int n) H
theorem callr_intA : CallR X (.type "int") rIntA := by
  intro pins s σ H xs us Q I r h
  rcases h with h | h
  · exact call_int1 pins s σ H xs us Q I r h
  · exact call_int_str pins s σ H xs us Q I r h
theorem und_intT (K : PySem.W.Frag) : UnD K (fun x H Q => rIntA [x] H Q) intT := by
  intro x d z H0 H s hx hg Q k
  unfold intT at hg
  split at hg
  · cases hg
    cases hx
    exact .inl (.inl ⟨_, rfl, sc s (.int _) k⟩)
  · cases hg
    cases hx
    exact .inl (.inr ⟨_, rfl, sc s (.int _) k⟩)
  · rename_i a
    split at hg
    · rename_i hl
      obtain ⟨n, hn, rfl⟩ := Option.map_eq_some_iff.mp hg
      cases hx
      exact .inr ⟨a, n, rfl, hn, hl, sc s (.int _) k⟩
    · cases hg
  · cases hg
theorem de_intT (hg : Gl X "int") (hm : X.mg "int" = none) (ha : DK X W e f1) (he : starEach (e :: []) X.env = (false, eval e X.env) :: starEach [] X.env := by rfl) : DE X W (.Call (.Name "int" p) [e] [] pos) (un intT f1) :=
  de_t1 callr_intA (und_intT _) hg hm (by decide +kernel) ha (he := he)
/-! ### join -/
theorem strs_da {K : PySem.W.Frag} {H : Hp} : ∀ {vs : List V} {ds : List Dt} {ys : List Str}, DaAll K H vs ds → strsOf ds = some ys → vs = ys.map V.str
  | _, [], _, h, e => by
    cases h
    cases e
    rfl
  | _, d :: ds, _, h, e => by
    cases h with
    | cons h1 h2 =>
      cases d with
      | str x =>
        obtain ⟨zs, e1, rfl⟩ := Option.map_eq_some_iff.mp e
        cases h1
        rw [strs_da h2 e1]
        rfl
      | _ => cases e
def rJoin (K : PySem.W.Frag) (sep : Str) : V → Hp → VK → Prop := fun y H Q => ∃ p, ∃ ys : List Str, y = .ref p ∧ (SqL K H p (ys.map V.str) ∨ SqT K H p (ys.map V.str)) ∧ (ys.map (·.length)).sum + ys.length * sep.length ≤ 16777216 ∧ Q (.str (Txt.join sep ys)) H
theorem und_join (K : PySem.W.Frag) (sep : Str) : UnD K (rJoin K sep) (joinD sep) := by
  intro x d z H0 H s hx hg Q k
  have key : ∀ ds, joinS sep ds = some z → ∀ vs, DaAll K H0 vs ds → ∃ ys : List Str, vs = ys.map V.str ∧ (ys.map (·.length)).sum + ys.length * sep.length ≤ 16777216 ∧ Q (.str (Txt.join sep ys)) H := fun ds hj vs hd => by
    unfold joinS at hj
    split at hj
    · rename_i ys e1
      split at hj
      · rename_i hl
        cases hj
        exact ⟨ys, strs_da hd e1, by omega, sc s (.str _) k⟩
      · cases hj
    · cases hj
  unfold joinD at hg
  split at hg
  · rename_i ds
    obtain ⟨a, vs, rfl, h1, h2⟩ := hx
    obtain ⟨ys, rfl, hl, q⟩ := key ds hg vs h2
    exact ⟨a, ys, rfl, .inl (SqL.of h1), hl, q⟩
  · rename_i ds
    cases hx with
    | tup h1 h2 =>
      obtain ⟨ys, rfl, hl, q⟩ := key ds hg _ h2
      exact ⟨_, ys, rfl, .inr (seqT_mono s h1), hl, q⟩
  · cases hg
theorem de_join {sep : Str} {j : Nat} {p2 : Pos} (ha : DK X W e f1) (hs : starEach [e] X.env = [(false, eval e X.env)] := by rfl) (hbase : attributeBase (.Constant (.str sep) j p2) "join" X.env (eval (.Constant (.str sep) j p2) X.env) = eval (.Constant (.str sep) j p2) X.env := by rfl) (hline : (apos.endLine == pos.line) = true := by rfl) :
    DE X W (.Call (.Attribute (.Constant (.str sep) j p2) "join" apos) [e] [] pos) (un (joinD sep) f1) := fun F =>
  PE.wk (pe_join pe_str (ha F) hs hbase hline) fun σ H Q h => ⟨⟨sep, rfl⟩, by
    have h2 := tUn_un (und_join X.K sep) h
    obtain ⟨H0, ρ, E, q⟩ := h2
    refine ⟨H0, ρ, E, ?_⟩
    cases e1 : f1 ρ with
    | ok d ρ1 =>
      rw [e1] at q
      exact fun x H1 B1 E1 m1 d1 => by
        obtain ⟨p, ys, r1, r2, r3, r4⟩ := q x H1 B1 E1 m1 d1
        exact ⟨sep, p, ys, rfl, by rw [r1], r2, r3, r4⟩
    | ex x ρ1 =>
      rw [e1] at q
      exact q
    | bad => rw [e1] at q; exact q⟩
/-! ### split -/
theorem daStrs {K : PySem.W.Frag} {H : Hp} : ∀ (ys : List Str), DaAll K H (ys.map V.str) (ys.map Dt.str)
  | [] => .nil
  | y :: ys => .cons (.str y) (daStrs ys)
def rSplit (sep : Str) : V → Hp → VK → Prop := fun x H Q => ∃ a, x = .str a ∧ a.length + 2 ≤ sizeLine ∧ rNewStrs (Txt.split a sep) H Q
theorem und_split (K : PySem.W.Frag) (sep : Str) : UnD K (rSplit sep) (splitD sep) := by
  intro x d z H0 H s hx hg Q k
  unfold splitD at hg
  split at hg
  · rename_i a
    split at hg
    · rename_i hl
      cases hg
      cases hx
      refine ⟨a, rfl, Nat.le_trans (by omega : a.length + 2 ≤ 1000002) (by decide), fun p hp => ?_⟩
      exact k _ _ _ (gr_new hp s) (same_new hp s) (.lst upd_same (daStrs _))
    · cases hg
  · cases hg
theorem de_split {sep : Str} {j : Nat} {p2 : Pos} (hsep : (sep.length == 0) = false) (ha : DE X W e f1) (hs : starEach [.Constant (.str sep) j p2] X.env = [(false, eval (.Constant (.str sep) j p2) X.env)] := by rfl) (hbase : attributeBase e "split" X.env (eval e X.env) = eval e X.env := by rfl) (hline : (apos.endLine == pos.line) = true := by rfl) :
    DE X W (.Call (.Attribute e "split" apos) [.Constant (.str sep) j p2] [] pos) (un (splitD sep) f1) := fun F =>
  PE.wk (pe_split (ha F) pe_str hs hbase hline) fun σ H Q h => by
    obtain ⟨H0, ρ, E, q⟩ := h
    refine ⟨H0, ρ, E, ?_⟩
    unfold un at q
    cases e1 : f1 ρ with
    | ok d ρ1 =>
      rw [e1] at q
      dsimp only [R.bind] at q
      intro x C0 C E1 m1 d1
      cases e2 : splitD sep d with
      | none => rw [e2] at q; exact q.elim
      | some z =>
        rw [e2] at q
        have r := und_split X.K sep x d z C0 C E1.ex (Da.pk E1.ex d1) e2 Q fun v I0 I gr s4 d4 => by
          obtain ⟨E4, m4⟩ := E1.post m1 gr s4
          exact q v I0 I E4 m4 d4
        obtain ⟨a, r1, r2, r3⟩ := r
        exact ⟨⟨a, r1⟩, ⟨a, sep, r1, rfl, hsep, r2, r3⟩⟩
    | ex x ρ1 => rw [e1] at q; exact q
    | bad => rw [e1] at q; exact q
/-! ### f-strings -/
def joinedF : List (Rho → R Dt) → Str → Rho → R Dt
  | [], acc => fun ρ => .ok (.str acc) ρ
  | f :: fs, acc => fun ρ => (f ρ).bind fun d ρ1 => match strD d with
    | some (.str y) => if y.length ≤ 1000000 ∧ (acc ++ y).length ≤ 1000000 then joinedF fs (acc ++ y) ρ1 else .bad
    | _ => .bad
inductive DJ (X : Cx) (W : WX) : List Expr → List (Rho → R Dt) → Prop where
  | nil : DJ X W [] []
  | cons {e : Expr} {f : Rho → R Dt} {es : List Expr} {fs : List (Rho → R Dt)} {pos : Pos} (h : DE X W e f) (r : DJ X W es fs) : DJ X W (.FormattedValue e (-1) none pos :: es) (f :: fs)
theorem dj_pj {F : Fm} {es : List Expr} {fs : List (Rho → R Dt)} (h : DJ X W es fs) : PJ X es (fs.map fun f => tFmt (tD (gx X) F W f)) := by
  induction h with
  | nil => exact .nil
  | cons h r ih => exact .cons (pe_fmt (h F)) ih
theorem joined_of {F : Fm} {σ : L2.St} : ∀ {fs : List (Rho → R Dt)} {acc : Str} {H : Hp} {Q : VK}, tD (gx X) F W (joinedF fs acc) σ H Q → tJs (fs.map fun f => tFmt (tD (gx X) F W f)) acc σ H (fun out H1 => Q (.str out) H1)
  | [], acc, H, Q, ⟨H0, ρ, E, q⟩ => q (.str acc) H0 H E Mv.refl (.str acc)
  | f :: fs, acc, H, Q, ⟨H0, ρ, E, q⟩ => by
    unfold joinedF at q
    refine ⟨H0, ρ, E, ?_⟩
    cases e1 : f ρ with
    | ex x ρ1 => rw [e1] at q; exact q
    | bad => rw [e1] at q; exact q
    | ok d ρ1 =>
      rw [e1] at q
      dsimp only [R.bind] at q
      intro v C0 C E1 m1 d1
      have fin : ∀ y : Str, strD d = some (.str y) → y.length ≤ sizeLine ∧ (acc ++ y).length ≤ sizeLine ∧ tJs (fs.map fun f => tFmt (tD (gx X) F W f)) (acc ++ y) σ C (fun out H1 => Q (.str out) H1) := fun y e2 => by
        rw [e2] at q
        dsimp only at q
        by_cases hl : y.length ≤ 1000000 ∧ (acc ++ y).length ≤ 1000000
        · rw [if_pos hl] at q
          refine ⟨sizeM hl.1, sizeM hl.2, joined_of ⟨C0, ρ1, E1, ?_⟩⟩
          cases e3 : joinedF fs (acc ++ y) ρ1 with
          | ok z ρ2 =>
            rw [e3] at q
            intro v2 D0 D' E2 m2 d2
            exact q v2 D0 D' E2 (m1.trans m2) d2
          | ex x ρ2 => rw [e3] at q; exact q
          | bad => rw [e3] at q; exact q
        · rw [if_neg hl] at q
          exact q.elim
      cases d with
      | int i =>
        cases d1
        by_cases hl : i.natAbs.log2 < 1920
        · obtain ⟨h1, h2, h3⟩ := fin (numS i) (by show (if i.natAbs.log2 < 1920 then some (Dt.str (numS i)) else none) = _; rw [if_pos hl])
          exact .inr ⟨i, rfl, hl, numS i, rfl, h2, h3⟩
        · have e9 : strD (.int i) = none := by show (if i.natAbs.log2 < 1920 then some (Dt.str (numS i)) else none) = _; rw [if_neg hl]
          rw [e9] at q
          exact q.elim
      | str y =>
        cases d1
        obtain ⟨h1, h2, h3⟩ := fin y rfl
        exact .inl ⟨y, rfl, h1, y, rfl, h2, h3⟩
      | _ => exact q.elim
theorem de_joined {v1 v2 : Expr} {rest : List Expr} {fs : List (Rho → R Dt)} (h : DJ X W (v1 :: v2 :: rest) fs) : DE X W (.JoinedStr (v1 :: v2 :: rest) pos) (joinedF fs Str.empty) := fun F =>
  PE.wk (pe_joined (dj_pj (F := F) h)) fun σ H Q h => joined_of h
/-! ### a text times a number -/
def mulT : Dt → Dt → Option Dt
  | .str x, .int n => if (0 ≤ n ∧ n ≤ 1000) ∧ x.length ≤ 1000 then some (.str (Txt.mul x n)) else none
  | _, _ => none
def rMulT : R2 := fun x y H Q => ∃ a n, x = .str a ∧ y = .int n ∧ MulOk a n ∧ Q (.str (Txt.mul a n)) H
theorem opr_mulT : OpR X (binaryOp .Mult) rMulT := by
  intro pins s σ H x y v u Q I rx ry h
  obtain ⟨a, n, rfl, rfl, ok, q⟩ := h
  obtain ⟨t, rfl⟩ := rx
  obtain ⟨t', rfl⟩ := ry
  exact PySem.SB.mul ok fun t2 k => ⟨.str _, H, I.tok k, ⟨t2, rfl⟩, q⟩
theorem mulOk_T {a : Str} {n : Int} (h : (0 ≤ n ∧ n ≤ 1000) ∧ a.length ≤ 1000) : MulOk a n := by
  obtain ⟨⟨h1, h2⟩, h3⟩ := h
  have hm : a.length * n.toNat ≤ 1000000 := Nat.le_trans (Nat.mul_le_mul h3 (show n.toNat ≤ 1000 by omega)) (by omega)
  refine ⟨?_, fun h4 _ => ?_, fun h4 _ => ?_⟩
  · rw [decide_eq_false (by omega), decide_eq_false (by omega)]
    rfl
  · have hle : (a.length : Int) * n ≤ 2 ^ 63 - 1 := by
      have e : ((a.length * n.toNat : Nat) : Int) = (a.length : Int) * n := by
        rw [Int.natCast_mul, Int.toNat_of_nonneg h1]
      omega
    have := (Int.le_ediv_iff_mul_le (show 0 < n by omega)).mpr hle
    omega
  · unfold Builtin.Str.tooLong
    exact decide_eq_false (by have : (1000000 : Nat) ≤ sizeLine := by decide
                              omega)
theorem opd_mulT (K : PySem.W.Frag) : OpD K rMulT mulT := by
  intro x y d e z H0 H s hx hy hg Q k
  unfold mulT at hg
  split at hg
  · split at hg
    · rename_i hl
      cases hg
      cases hx
      cases hy
      exact ⟨_, _, rfl, rfl, mulOk_T hl, sc s (.str _) k⟩
    · cases hg
  · cases hg
end
end DW

set_option Elab.async false
set_option linter.all false
set_option maxRecDepth 100000
set_option maxHeartbeats 4000000
/-! G: the defs of law_k21_desks_by_hand (printed by geno.py) -/
namespace LAW
open PySem PySem.Spec PyProof.Rows L2 DW
def top (i : Nat) : Stmt := PySem.Challenge.pw_wheelnines_k21_desks_by_hand.main.body.getD i (.Pass ⟨0, 0, 0, 0⟩)
section
variable {P : Program} {w : World} {K : PySem.W.Frag} {mg : Str → Option Value} {base : Heap}
/-! ### is_number_text -/
abbrev st_is_number_text : Stmt := top 55
def b_is_number_text : Rho → SR := seqS (ifS (orT (notT (tstF (chainD leD leD (cst (.int (1 : Nat))) (un lenD (pkF 0)) (cst (.int (40 : Nat)))))) (notT (truF (un allD (frzR (lcO (itF (var 0)) (tgN 1) (yesT) (bin inD (var 1) (cst (.str "0123456789"))) [1])))))) (retS (cst (.bl false))) (skipS)) (retS (orV (bin eqD (var 0) (cst (.str "0"))) (bin neD (bin ixD (var 0) (cst (.int (0 : Nat)))) (cst (.str "0")))))
def m_is_number_text : Fn := runF 1 2 b_is_number_text
theorem sc_is_number_text : FnScope ["text", "sign"] ["text"] (defScope st_is_number_text) := ⟨rfl, rfl, rfl, by decide +kernel, rfl, by decide +kernel, by decide +kernel⟩
theorem p_is_number_text (D : IsDef K mg "is_number_text" st_is_number_text) (n_all : mg "all" = none) (n_len : mg "len" = none) (g_FIGURES : ∃ t, mg "FIGURES" = some (.str "0123456789" t)) (g_MOST_FIGURES : ∃ t, mg "MOST_FIGURES" = some (.int 40 t)) : Has P w K mg base "is_number_text" ["text"] m_is_number_text 1 := by
  obtain ⟨_, g_FIGURES⟩ := g_FIGURES
  obtain ⟨_, g_MOST_FIGURES⟩ := g_MOST_FIGURES
  have nd := sc_is_number_text.nd
  refine has0 (N := ["text", "sign"]) (ps := ["text"]) (k := 0) (body := b_is_number_text) D sc_is_number_text (by decide) (fun _ _ _ _ _ _ us hl => match us, hl with | [_], _ => rfl) ?_
  intro f cdv A outer s H E hr hq hc
  exact ds_cons (ds_if (dt_w (dw_or (dt_not (dt_chain (op_le) (opd_cmp _ _) (op_le) (opd_cmp _ _) (de_int) (de_len rfl n_len (dk_var 0)) (de_gi rfl g_MOST_FIGURES))) (dw_or1 (dt_not (dt_tru (dk_of (de_all rfl rfl n_all (dk_of (de_do (do_lc rfl nd (own := [("sign", 1)]) (di_all (de_var 0)) (blkOk_by (by kernel_rfl)) (fun _ _ _ _ _ => dg_name 1 nd) (fun _ _ _ _ _ => dts_nil) (fun _ _ _ _ _ => de_cmp (opr_in (u1 hr)) (opd_in _) (by rfl) (de_var 1) (dk_of (de_gs rfl g_FIGURES))) (by decide))))))))))) (ds_one (ds_ret (de_bl))) (ds_nil)) (ds_one (ds_ret (de_or (de_cmp (opr_eq (u64 hr)) (opd_eq _) (nomark _) (de_var 0) (dk_of (de_str))) (de_one (de_cmp (opr_ne (u64 hr)) (opd_ne _) (nomark _) (de_ix (u1 hr) (de_var 0) (dk_of (de_int)) (fun _ _ => rfl)) (dk_of (de_str)))))))
/-! ### number_in -/
abbrev st_number_in : Stmt := top 70
def b_number_in : Rho → SR := seqS (ifS (notT (truF (callF m_is_number_text (consA (var 0) (nilA))))) (raiseS "BadText" "place" (cst (.int (0 : Nat)))) (skipS)) (retS (un intT (pkF 0)))
def m_number_in : Fn := runF 1 1 b_number_in
theorem sc_number_in : FnScope ["word"] ["word"] (defScope st_number_in) := ⟨rfl, rfl, rfl, by decide +kernel, rfl, by decide +kernel, by decide +kernel⟩
theorem p_number_in (D : IsDef K mg "number_in" st_number_in) (h_is_number_text : Has P w K mg base "is_number_text" ["text"] m_is_number_text 1) (x_BadText : DWX.OwnX P K mg "BadText" "place" "ValueError" "ValueError.__new__" "ValueError.__init__" DWX.veB (He.ga K "BadText") (DWX.initAt K "BadText")) (n_int : mg "int" = none) : HasX P w K mg base "number_in" ["word"] m_number_in 2 := by
  have nd := sc_number_in.nd
  refine hasX (N := ["word"]) (ps := ["word"]) (k := 1) (body := b_number_in) D sc_number_in (by decide) (fun _ _ _ _ _ _ us hl => match us, hl with | [_], _ => rfl) ?_
  intro f cdv A outer s H E hr hq tk po
  exact ds_cons (ds_if (dt_not (dt_tru (dk_of (de_h h_is_number_text hr hq (by decide) rfl (da_cons (de_var 0) (da_nil)))))) (ds_one (ds_raise x_BadText hr rfl tk rfl (de_int))) (ds_nil)) (ds_one (ds_ret (de_intT rfl n_int (dk_var 0))))
/-! ### common_divisor -/
abbrev st_common_divisor : Stmt := top 19
def b_common_divisor : Rho → SR := seqS (whS (tstF (bin gtD (var 1) (cst (.int (0 : Nat))))) (parP [0, 1] [frO (var 1), frO (bin modD (var 0) (pkF 1))]) 1000000) (retS (var 0))
def m_common_divisor : Fn := runF 2 2 b_common_divisor
theorem sc_common_divisor : FnScope ["one", "other"] ["one", "other"] (defScope st_common_divisor) := ⟨rfl, rfl, rfl, by decide +kernel, rfl, by decide +kernel, by decide +kernel⟩
theorem p_common_divisor (D : IsDef K mg "common_divisor" st_common_divisor)  : Has P w K mg base "common_divisor" ["one", "other"] m_common_divisor 1 := by
  have nd := sc_common_divisor.nd
  refine has0 (N := ["one", "other"]) (ps := ["one", "other"]) (k := 0) (body := b_common_divisor) D sc_common_divisor (by decide) (fun _ _ _ _ _ _ us hl => match us, hl with | [_, _], _ => rfl) ?_
  intro f cdv A outer s H E hr hq hc
  exact ds_cons (ds_while 1000000 PassesOwn.never (dt_cmp (op_gt) (opd_cmp _ _) (nomark _) (de_var 1) (dk_of (de_int))) (ds_one (ds_par2 (i := 0) (j := 1) rfl nd (by decide) (dps_cons (do_fr (de_var 1)) (dps_cons (do_fr (de_mod (de_var 0) (dk_var 1))) (dps_nil))) (by rfl)))) (ds_one (ds_ret (de_var 0)))
/-! ### pure_part_of -/
abbrev st_pure_part_of : Stmt := top 23
def b_pure_part_of : Rho → SR := seqS (setS 2 (var 1)) (seqS (setS 3 (callF m_common_divisor (consA (var 2) (consA (var 0) (nilA))))) (seqS (whS (tstF (bin gtD (var 3) (cst (.int (1 : Nat))))) (seqS (setS 2 (bin fdivD (var 2) (pkF 3))) (setS 3 (callF m_common_divisor (consA (var 2) (consA (var 0) (nilA)))))) 1000000) (retS (var 2))))
def m_pure_part_of : Fn := runF 2 4 b_pure_part_of
theorem sc_pure_part_of : FnScope ["base", "denominator", "left", "divisor"] ["base", "denominator"] (defScope st_pure_part_of) := ⟨rfl, rfl, rfl, by decide +kernel, rfl, by decide +kernel, by decide +kernel⟩
theorem p_pure_part_of (D : IsDef K mg "pure_part_of" st_pure_part_of) (h_common_divisor : Has P w K mg base "common_divisor" ["one", "other"] m_common_divisor 1) : Has P w K mg base "pure_part_of" ["base", "denominator"] m_pure_part_of 2 := by
  have nd := sc_pure_part_of.nd
  refine has0 (N := ["base", "denominator", "left", "divisor"]) (ps := ["base", "denominator"]) (k := 1) (body := b_pure_part_of) D sc_pure_part_of (by decide) (fun _ _ _ _ _ _ us hl => match us, hl with | [_, _], _ => rfl) ?_
  intro f cdv A outer s H E hr hq hc
  exact ds_cons (ds_set 2 nd (de_var 1)) (ds_cons (ds_set 3 nd (de_h h_common_divisor hr hq (by decide) rfl (da_cons (de_var 2) (da_cons (de_var 0) (da_nil))))) (ds_cons (ds_while 1000000 PassesOwn.never (dt_cmp (op_gt) (opd_cmp _ _) (nomark _) (de_var 3) (dk_of (de_int))) (ds_cons (ds_set 2 nd (de_fdiv (de_var 2) (dk_var 3))) (ds_one (ds_set 3 nd (de_h h_common_divisor hr hq (by decide) rfl (da_cons (de_var 2) (da_cons (de_var 0) (da_nil)))))))) (ds_one (ds_ret (de_var 2)))))
/-! ### period_of -/
abbrev st_period_of : Stmt := top 25
def b_period_of : Rho → SR := seqS (parP [3, 4] [frO (callF m_pure_part_of (consA (var 0) (consA (var 1) (nilA)))), frO (cst (.int (1 : Nat)))]) (seqS (setS 2 (bin modD (var 0) (pkF 3))) (seqS (whS (tstF (bin neD (var 2) (bin modD (cst (.int (1 : Nat))) (pkF 3)))) (seqS (setS 2 (bin modD (bin mulD (var 2) (pkF 0)) (pkF 3))) (setS 4 (bin addD (var 4) (cst (.int (1 : Nat)))))) 1000000) (retS (var 4))))
def m_period_of : Fn := runF 2 5 b_period_of
theorem sc_period_of : FnScope ["base", "denominator", "rest", "pure", "size"] ["base", "denominator"] (defScope st_period_of) := ⟨rfl, rfl, rfl, by decide +kernel, rfl, by decide +kernel, by decide +kernel⟩
theorem p_period_of (D : IsDef K mg "period_of" st_period_of) (h_pure_part_of : Has P w K mg base "pure_part_of" ["base", "denominator"] m_pure_part_of 2) : Has P w K mg base "period_of" ["base", "denominator"] m_period_of 3 := by
  have nd := sc_period_of.nd
  refine has0 (N := ["base", "denominator", "rest", "pure", "size"]) (ps := ["base", "denominator"]) (k := 2) (body := b_period_of) D sc_period_of (by decide) (fun _ _ _ _ _ _ us hl => match us, hl with | [_, _], _ => rfl) ?_
  intro f cdv A outer s H E hr hq hc
  exact ds_cons (ds_par2 (i := 3) (j := 4) rfl nd (by decide) (dps_cons (do_fr (de_h h_pure_part_of hr hq (by decide) rfl (da_cons (de_var 0) (da_cons (de_var 1) (da_nil))))) (dps_cons (do_fr (de_int)) (dps_nil))) (by rfl)) (ds_cons (ds_set 2 nd (de_mod (de_var 0) (dk_var 3))) (ds_cons (ds_while 1000000 PassesOwn.never (dt_cmp (opr_ne (u64 hr)) (opd_ne _) (nomark _) (de_var 2) (dk_of (de_mod (de_int) (dk_var 3)))) (ds_cons (ds_set 2 nd (de_mod (de_mul (de_var 2) (dk_var 0)) (dk_var 3))) (ds_one (ds_set 4 nd (de_add (de_var 4) (dk_of (de_int))))))) (ds_one (ds_ret (de_var 4)))))
/-! ### power_rest -/
abbrev st_power_rest : Stmt := top 28
def b_power_rest : Rho → SR := seqS (parP [3, 4, 5] [frO (bin modD (cst (.int (1 : Nat))) (pkF 2)), frO (bin modD (var 0) (pkF 2)), frO (var 1)]) (seqS (whS (tstF (bin gtD (var 5) (cst (.int (0 : Nat))))) (seqS (ifS (tstF (bin eqD (bin modD (var 5) (cst (.int (2 : Nat)))) (cst (.int (1 : Nat))))) (setS 3 (bin modD (bin mulD (var 3) (pkF 4)) (pkF 2))) (skipS)) (seqS (setS 4 (bin modD (bin mulD (var 4) (pkF 4)) (pkF 2))) (setS 5 (bin fdivD (var 5) (cst (.int (2 : Nat))))))) 1000000) (retS (var 3)))
def m_power_rest : Fn := runF 3 6 b_power_rest
theorem sc_power_rest : FnScope ["base", "exponent", "divisor", "found", "square", "left"] ["base", "exponent", "divisor"] (defScope st_power_rest) := ⟨rfl, rfl, rfl, by decide +kernel, rfl, by decide +kernel, by decide +kernel⟩
theorem p_power_rest (D : IsDef K mg "power_rest" st_power_rest)  : Has P w K mg base "power_rest" ["base", "exponent", "divisor"] m_power_rest 1 := by
  have nd := sc_power_rest.nd
  refine has0 (N := ["base", "exponent", "divisor", "found", "square", "left"]) (ps := ["base", "exponent", "divisor"]) (k := 0) (body := b_power_rest) D sc_power_rest (by decide) (fun _ _ _ _ _ _ us hl => match us, hl with | [_, _, _], _ => rfl) ?_
  intro f cdv A outer s H E hr hq hc
  exact ds_cons (ds_par3 (i := 3) (j := 4) (l := 5) rfl nd (by decide) (by decide) (by decide) (dps_cons (do_fr (de_mod (de_int) (dk_var 2))) (dps_cons (do_fr (de_mod (de_var 0) (dk_var 2))) (dps_cons (do_fr (de_var 1)) (dps_nil)))) (by rfl)) (ds_cons (ds_while 1000000 PassesOwn.never (dt_cmp (op_gt) (opd_cmp _ _) (nomark _) (de_var 5) (dk_of (de_int))) (ds_cons (ds_if (dt_cmp (opr_eq (u64 hr)) (opd_eq _) (nomark _) (de_mod (de_var 5) (dk_of (de_int))) (dk_of (de_int))) (ds_one (ds_set 3 nd (de_mod (de_mul (de_var 3) (dk_var 4)) (dk_var 2)))) (ds_nil)) (ds_cons (ds_set 4 nd (de_mod (de_mul (de_var 4) (dk_var 4)) (dk_var 2))) (ds_one (ds_set 5 nd (de_fdiv (de_var 5) (dk_of (de_int)))))))) (ds_one (ds_ret (de_var 3))))
/-! ### steps_of -/
abbrev st_steps_of : Stmt := top 43
def b_steps_of : Rho → SR := seqS (setS 3 (callF m_power_rest (consA (var 0) (consA (bin fdivD (callF m_period_of (consA (var 0) (consA (var 1) (nilA)))) (pkF 2)) (consA (var 1) (nilA)))))) (seqS (setOS 4 (lstO (consA (bin modD (cst (.int (1 : Nat))) (pkF 1)) (nilA)))) (seqS (whS (tstF (bin ltD (un lenD (pkF 4)) (pkF 2))) (appS 4 (bin modD (bin mulD (binP ixD 4 (un negD (cst (.int (1 : Nat))))) (pkF 3)) (pkF 1))) 1000000) (retS (var 4))))
def m_steps_of : Fn := runF 3 5 b_steps_of
theorem sc_steps_of : FnScope ["base", "denominator", "cut", "step", "found"] ["base", "denominator", "cut"] (defScope st_steps_of) := ⟨rfl, rfl, rfl, by decide +kernel, rfl, by decide +kernel, by decide +kernel⟩
theorem p_steps_of (D : IsDef K mg "steps_of" st_steps_of) (h_period_of : Has P w K mg base "period_of" ["base", "denominator"] m_period_of 3) (h_power_rest : Has P w K mg base "power_rest" ["base", "exponent", "divisor"] m_power_rest 1) (n_len : mg "len" = none) : Has P w K mg base "steps_of" ["base", "denominator", "cut"] m_steps_of 4 := by
  have nd := sc_steps_of.nd
  refine has0 (N := ["base", "denominator", "cut", "step", "found"]) (ps := ["base", "denominator", "cut"]) (k := 3) (body := b_steps_of) D sc_steps_of (by decide) (fun _ _ _ _ _ _ us hl => match us, hl with | [_, _, _], _ => rfl) ?_
  intro f cdv A outer s H E hr hq hc
  exact ds_cons (ds_set 3 nd (de_h h_power_rest hr hq (by decide) rfl (da_cons (de_var 0) (da_cons (de_fdiv (de_h h_period_of hr hq (by decide) rfl (da_cons (de_var 0) (da_cons (de_var 1) (da_nil)))) (dk_var 2)) (da_cons (de_var 1) (da_nil)))))) (ds_cons (ds_setO 4 nd (do_lst (da_cons (de_mod (de_int) (dk_var 1)) (da_nil)))) (ds_cons (ds_while 1000000 PassesOwn.never (dt_cmp (op_lt) (opd_cmp _ _) (nomark _) (de_len rfl n_len (dk_var 4)) (dk_var 2)) (ds_one (ds_app 4 (pv 4) (de_mod (de_mul (de_ixP (u1 hr) (pv 4) (dk_of (de_neg (de_int))) (fun _ _ => rfl)) (dk_var 3)) (dk_var 1))))) (ds_one (ds_ret (de_var 4)))))
/-! ### is_balanced_by -/
abbrev st_is_balanced_by : Stmt := top 44
def b_is_balanced_by : Rho → SR := retS (bin eqD (bin modD (un sumD (callF m_steps_of (consA (var 0) (consA (var 1) (consA (var 2) (nilA)))))) (pkF 1)) (cst (.int (0 : Nat))))
def m_is_balanced_by : Fn := runF 3 3 b_is_balanced_by
theorem sc_is_balanced_by : FnScope ["base", "denominator", "cut"] ["base", "denominator", "cut"] (defScope st_is_balanced_by) := ⟨rfl, rfl, rfl, by decide +kernel, rfl, by decide +kernel, by decide +kernel⟩
theorem p_is_balanced_by (D : IsDef K mg "is_balanced_by" st_is_balanced_by) (h_steps_of : Has P w K mg base "steps_of" ["base", "denominator", "cut"] m_steps_of 4) (n_sum : mg "sum" = none) : Has P w K mg base "is_balanced_by" ["base", "denominator", "cut"] m_is_balanced_by 5 := by
  have nd := sc_is_balanced_by.nd
  refine has0 (N := ["base", "denominator", "cut"]) (ps := ["base", "denominator", "cut"]) (k := 4) (body := b_is_balanced_by) D sc_is_balanced_by (by decide) (fun _ _ _ _ _ _ us hl => match us, hl with | [_, _, _], _ => rfl) ?_
  intro f cdv A outer s H E hr hq hc
  exact ds_one (ds_ret (de_cmp (opr_eq (u64 hr)) (opd_eq _) (nomark _) (de_mod (de_sum rfl rfl n_sum (dk_of (de_h h_steps_of hr hq (by decide) rfl (da_cons (de_var 0) (da_cons (de_var 1) (da_cons (de_var 2) (da_nil))))))) (dk_var 1)) (dk_of (de_int))))
/-! ### is_integer -/
abbrev st_is_integer : Stmt := top 15
def b_is_integer : Rho → SR := retS (andV (un (isiD .int) (pkF 0)) (un notD (un (isiD .bool) (pkF 0))))
def m_is_integer : Fn := runF 1 1 b_is_integer
theorem sc_is_integer : FnScope ["value"] ["value"] (defScope st_is_integer) := ⟨rfl, rfl, rfl, by decide +kernel, rfl, by decide +kernel, by decide +kernel⟩
theorem p_is_integer (D : IsDef K mg "is_integer" st_is_integer) (n_isinstance : mg "isinstance" = none) (n_bool : mg "bool" = none) (n_int : mg "int" = none) : Has P w K mg base "is_integer" ["value"] m_is_integer 1 := by
  have nd := sc_is_integer.nd
  refine has0 (N := ["value"]) (ps := ["value"]) (k := 0) (body := b_is_integer) D sc_is_integer (by decide) (fun _ _ _ _ _ _ us hl => match us, hl with | [_], _ => rfl) ?_
  intro f cdv A outer s H E hr hq hc
  exact ds_one (ds_ret (de_and (de_isi .int (by decide) rfl n_isinstance rfl n_int (by decide +kernel) (dk_var 0)) (de_one (de_not (dk_of (de_isi .bool (by decide) rfl n_isinstance rfl n_bool (by decide +kernel) (dk_var 0)))))))
/-! ### is_whole -/
abbrev st_is_whole : Stmt := top 16
def b_is_whole : Rho → SR := retS (andV (callF m_is_integer (consA (var 0) (nilA))) (chainD leD leD (var 1) (var 0) (var 2)))
def m_is_whole : Fn := runF 3 3 b_is_whole
theorem sc_is_whole : FnScope ["value", "least", "most"] ["value", "least", "most"] (defScope st_is_whole) := ⟨rfl, rfl, rfl, by decide +kernel, rfl, by decide +kernel, by decide +kernel⟩
theorem p_is_whole (D : IsDef K mg "is_whole" st_is_whole) (h_is_integer : Has P w K mg base "is_integer" ["value"] m_is_integer 1) : Has P w K mg base "is_whole" ["value", "least", "most"] m_is_whole 2 := by
  have nd := sc_is_whole.nd
  refine has0 (N := ["value", "least", "most"]) (ps := ["value", "least", "most"]) (k := 1) (body := b_is_whole) D sc_is_whole (by decide) (fun _ _ _ _ _ _ us hl => match us, hl with | [_, _, _], _ => rfl) ?_
  intro f cdv A outer s H E hr hq hc
  exact ds_one (ds_ret (de_and (de_h h_is_integer hr hq (by decide) rfl (da_cons (de_var 0) (da_nil))) (de_one (de_chain (op_le) (opd_cmp _ _) (op_le) (opd_cmp _ _) (de_var 1) (de_var 0) (de_var 2)))))
/-! ### need_cut -/
abbrev st_need_cut : Stmt := top 42
def b_need_cut : Rho → SR := seqS (setS 3 (callF m_period_of (consA (var 0) (consA (var 1) (nilA))))) (seqS (ifS (orT (tstF (bin eqD (var 1) (cst (.int (1 : Nat))))) (orT (notT (truF (callF m_is_whole (consA (var 2) (consA (cst (.int (2 : Nat))) (consA (var 3) (nilA))))))) (tstF (bin neD (bin modD (var 3) (pkF 2)) (cst (.int (0 : Nat))))))) (raiseS "BadNumber" "value" (var 2)) (skipS)) (retS (bin fdivD (var 3) (pkF 2))))
def m_need_cut : Fn := runF 3 4 b_need_cut
theorem sc_need_cut : FnScope ["base", "denominator", "cut", "size"] ["base", "denominator", "cut"] (defScope st_need_cut) := ⟨rfl, rfl, rfl, by decide +kernel, rfl, by decide +kernel, by decide +kernel⟩
theorem p_need_cut (D : IsDef K mg "need_cut" st_need_cut) (h_is_whole : Has P w K mg base "is_whole" ["value", "least", "most"] m_is_whole 2) (h_period_of : Has P w K mg base "period_of" ["base", "denominator"] m_period_of 3) (x_BadNumber : DWX.OwnX P K mg "BadNumber" "value" "ValueError" "ValueError.__new__" "ValueError.__init__" DWX.veB (He.ga K "BadNumber") (DWX.initAt K "BadNumber")) : HasX P w K mg base "need_cut" ["base", "denominator", "cut"] m_need_cut 4 := by
  have nd := sc_need_cut.nd
  refine hasX (N := ["base", "denominator", "cut", "size"]) (ps := ["base", "denominator", "cut"]) (k := 3) (body := b_need_cut) D sc_need_cut (by decide) (fun _ _ _ _ _ _ us hl => match us, hl with | [_, _, _], _ => rfl) ?_
  intro f cdv A outer s H E hr hq tk po
  exact ds_cons (ds_set 3 nd (de_h h_period_of hr hq (by decide) rfl (da_cons (de_var 0) (da_cons (de_var 1) (da_nil))))) (ds_cons (ds_if (dt_w (dw_or (dt_cmp (opr_eq (u64 hr)) (opd_eq _) (nomark _) (de_var 1) (dk_of (de_int))) (dw_or (dt_not (dt_tru (dk_of (de_h h_is_whole hr hq (by decide) rfl (da_cons (de_var 2) (da_cons (de_int) (da_cons (de_var 3) (da_nil)))))))) (dw_or1 (dt_cmp (opr_ne (u64 hr)) (opd_ne _) (nomark _) (de_mod (de_var 3) (dk_var 2)) (dk_of (de_int))))))) (ds_one (ds_raise x_BadNumber hr rfl tk rfl (de_var 2))) (ds_nil)) (ds_one (ds_ret (de_fdiv (de_var 3) (dk_var 2)))))
/-! ### need_denominator -/
abbrev st_need_denominator : Stmt := top 18
def b_need_denominator : Rho → SR := seqS (ifS (notT (truF (callF m_is_whole (consA (var 0) (consA (cst (.int (1 : Nat))) (consA (cst (.int (5000 : Nat))) (nilA))))))) (raiseS "BadDenominator" "value" (var 0)) (skipS)) (retS (var 0))
def m_need_denominator : Fn := runF 1 1 b_need_denominator
theorem sc_need_denominator : FnScope ["value"] ["value"] (defScope st_need_denominator) := ⟨rfl, rfl, rfl, by decide +kernel, rfl, by decide +kernel, by decide +kernel⟩
theorem p_need_denominator (D : IsDef K mg "need_denominator" st_need_denominator) (h_is_whole : Has P w K mg base "is_whole" ["value", "least", "most"] m_is_whole 2) (x_BadDenominator : DWX.OwnX P K mg "BadDenominator" "value" "ValueError" "ValueError.__new__" "ValueError.__init__" DWX.veB (He.ga K "BadDenominator") (DWX.initAt K "BadDenominator")) (g_MOST_DENOMINATOR : ∃ t, mg "MOST_DENOMINATOR" = some (.int 5000 t)) : HasX P w K mg base "need_denominator" ["value"] m_need_denominator 3 := by
  obtain ⟨_, g_MOST_DENOMINATOR⟩ := g_MOST_DENOMINATOR
  have nd := sc_need_denominator.nd
  refine hasX (N := ["value"]) (ps := ["value"]) (k := 2) (body := b_need_denominator) D sc_need_denominator (by decide) (fun _ _ _ _ _ _ us hl => match us, hl with | [_], _ => rfl) ?_
  intro f cdv A outer s H E hr hq tk po
  exact ds_cons (ds_if (dt_not (dt_tru (dk_of (de_h h_is_whole hr hq (by decide) rfl (da_cons (de_var 0) (da_cons (de_int) (da_cons (de_gi rfl g_MOST_DENOMINATOR) (da_nil)))))))) (ds_one (ds_raise x_BadDenominator hr rfl tk rfl (de_var 0))) (ds_nil)) (ds_one (ds_ret (de_var 0)))
/-! ### need_base -/
abbrev st_need_base : Stmt := top 17
def b_need_base : Rho → SR := seqS (ifS (notT (truF (callF m_is_whole (consA (var 0) (consA (cst (.int (2 : Nat))) (consA (cst (.int (1000 : Nat))) (nilA))))))) (raiseS "BadBase" "value" (var 0)) (skipS)) (retS (var 0))
def m_need_base : Fn := runF 1 1 b_need_base
theorem sc_need_base : FnScope ["value"] ["value"] (defScope st_need_base) := ⟨rfl, rfl, rfl, by decide +kernel, rfl, by decide +kernel, by decide +kernel⟩
theorem p_need_base (D : IsDef K mg "need_base" st_need_base) (h_is_whole : Has P w K mg base "is_whole" ["value", "least", "most"] m_is_whole 2) (x_BadBase : DWX.OwnX P K mg "BadBase" "value" "ValueError" "ValueError.__new__" "ValueError.__init__" DWX.veB (He.ga K "BadBase") (DWX.initAt K "BadBase")) (g_MOST_BASE : ∃ t, mg "MOST_BASE" = some (.int 1000 t)) : HasX P w K mg base "need_base" ["value"] m_need_base 3 := by
  obtain ⟨_, g_MOST_BASE⟩ := g_MOST_BASE
  have nd := sc_need_base.nd
  refine hasX (N := ["value"]) (ps := ["value"]) (k := 2) (body := b_need_base) D sc_need_base (by decide) (fun _ _ _ _ _ _ us hl => match us, hl with | [_], _ => rfl) ?_
  intro f cdv A outer s H E hr hq tk po
  exact ds_cons (ds_if (dt_not (dt_tru (dk_of (de_h h_is_whole hr hq (by decide) rfl (da_cons (de_var 0) (da_cons (de_int) (da_cons (de_gi rfl g_MOST_BASE) (da_nil)))))))) (ds_one (ds_raise x_BadBase hr rfl tk rfl (de_var 0))) (ds_nil)) (ds_one (ds_ret (de_var 0)))
/-! ### is_pure -/
abbrev st_is_pure : Stmt := top 24
def b_is_pure : Rho → SR := retS (bin eqD (callF m_common_divisor (consA (var 1) (consA (var 0) (nilA)))) (cst (.int (1 : Nat))))
def m_is_pure : Fn := runF 2 2 b_is_pure
theorem sc_is_pure : FnScope ["base", "denominator"] ["base", "denominator"] (defScope st_is_pure) := ⟨rfl, rfl, rfl, by decide +kernel, rfl, by decide +kernel, by decide +kernel⟩
theorem p_is_pure (D : IsDef K mg "is_pure" st_is_pure) (h_common_divisor : Has P w K mg base "common_divisor" ["one", "other"] m_common_divisor 1) : Has P w K mg base "is_pure" ["base", "denominator"] m_is_pure 2 := by
  have nd := sc_is_pure.nd
  refine has0 (N := ["base", "denominator"]) (ps := ["base", "denominator"]) (k := 1) (body := b_is_pure) D sc_is_pure (by decide) (fun _ _ _ _ _ _ us hl => match us, hl with | [_, _], _ => rfl) ?_
  intro f cdv A outer s H E hr hq hc
  exact ds_one (ds_ret (de_cmp (opr_eq (u64 hr)) (opd_eq _) (nomark _) (de_h h_common_divisor hr hq (by decide) rfl (da_cons (de_var 1) (da_cons (de_var 0) (da_nil)))) (dk_of (de_int))))
/-! ### need_pure -/
abbrev st_need_pure : Stmt := top 29
def b_need_pure : Rho → SR := seqS (ifS (notT (truF (callF m_is_pure (consA (callX m_need_base (consA (var 0) (nilA))) (consA (callX m_need_denominator (consA (var 1) (nilA))) (nilA)))))) (raiseS "BadDenominator" "value" (var 1)) (skipS)) (retS (var 1))
def m_need_pure : Fn := runF 2 2 b_need_pure
theorem sc_need_pure : FnScope ["base", "denominator"] ["base", "denominator"] (defScope st_need_pure) := ⟨rfl, rfl, rfl, by decide +kernel, rfl, by decide +kernel, by decide +kernel⟩
theorem p_need_pure (D : IsDef K mg "need_pure" st_need_pure) (h_need_denominator : HasX P w K mg base "need_denominator" ["value"] m_need_denominator 3) (h_need_base : HasX P w K mg base "need_base" ["value"] m_need_base 3) (h_is_pure : Has P w K mg base "is_pure" ["base", "denominator"] m_is_pure 2) (x_BadDenominator : DWX.OwnX P K mg "BadDenominator" "value" "ValueError" "ValueError.__new__" "ValueError.__init__" DWX.veB (He.ga K "BadDenominator") (DWX.initAt K "BadDenominator")) : HasX P w K mg base "need_pure" ["base", "denominator"] m_need_pure 4 := by
  have nd := sc_need_pure.nd
  refine hasX (N := ["base", "denominator"]) (ps := ["base", "denominator"]) (k := 3) (body := b_need_pure) D sc_need_pure (by decide) (fun _ _ _ _ _ _ us hl => match us, hl with | [_, _], _ => rfl) ?_
  intro f cdv A outer s H E hr hq tk po
  exact ds_cons (ds_if (dt_not (dt_tru (dk_of (de_h h_is_pure hr hq (by decide) rfl (da_cons (de_hX h_need_base tk hr hq (by decide) rfl (da_cons (de_var 0) (da_nil))) (da_cons (de_hX h_need_denominator tk hr hq (by decide) rfl (da_cons (de_var 1) (da_nil))) (da_nil))))))) (ds_one (ds_raise x_BadDenominator hr rfl tk rfl (de_var 1))) (ds_nil)) (ds_one (ds_ret (de_var 1)))
/-! ### is_balanced -/
abbrev st_is_balanced : Stmt := top 45
def b_is_balanced : Rho → SR := seqS (exprS (callX m_need_pure (consA (var 0) (consA (var 1) (nilA))))) (seqS (exprS (callX m_need_cut (consA (var 0) (consA (var 1) (consA (var 2) (nilA)))))) (retS (callF m_is_balanced_by (consA (var 0) (consA (var 1) (consA (var 2) (nilA)))))))
def m_is_balanced : Fn := runF 3 3 b_is_balanced
theorem sc_is_balanced : FnScope ["base", "denominator", "cut"] ["base", "denominator", "cut"] (defScope st_is_balanced) := ⟨rfl, rfl, rfl, by decide +kernel, rfl, by decide +kernel, by decide +kernel⟩
theorem p_is_balanced (D : IsDef K mg "is_balanced" st_is_balanced) (h_is_balanced_by : Has P w K mg base "is_balanced_by" ["base", "denominator", "cut"] m_is_balanced_by 5) (h_need_cut : HasX P w K mg base "need_cut" ["base", "denominator", "cut"] m_need_cut 4) (h_need_pure : HasX P w K mg base "need_pure" ["base", "denominator"] m_need_pure 4) : HasX P w K mg base "is_balanced" ["base", "denominator", "cut"] m_is_balanced 6 := by
  have nd := sc_is_balanced.nd
  refine hasX (N := ["base", "denominator", "cut"]) (ps := ["base", "denominator", "cut"]) (k := 5) (body := b_is_balanced) D sc_is_balanced (by decide) (fun _ _ _ _ _ _ us hl => match us, hl with | [_, _, _], _ => rfl) ?_
  intro f cdv A outer s H E hr hq tk po
  exact ds_cons (ds_expr (de_hX h_need_pure tk hr hq (by decide) rfl (da_cons (de_var 0) (da_cons (de_var 1) (da_nil))))) (ds_cons (ds_expr (de_hX h_need_cut tk hr hq (by decide) rfl (da_cons (de_var 0) (da_cons (de_var 1) (da_cons (de_var 2) (da_nil)))))) (ds_one (ds_ret (de_h h_is_balanced_by hr hq (by decide) rfl (da_cons (de_var 0) (da_cons (de_var 1) (da_cons (de_var 2) (da_nil))))))))
/-! ### wheel_of -/
abbrev st_wheel_of : Stmt := top 61
def b_wheel_of : Rho → SR := seqS (setOS 3 (lstO (consA (var 1) (nilA)))) (seqS (setS 4 (bin modD (bin mulD (var 1) (pkF 0)) (pkF 2))) (seqS (whS (tstF (bin neD (var 4) (pkF 1))) (seqS (appS 3 (var 4)) (setS 4 (bin modD (bin mulD (var 4) (pkF 0)) (pkF 2)))) 1000000) (retS (var 3))))
def m_wheel_of : Fn := runF 3 5 b_wheel_of
theorem sc_wheel_of : FnScope ["base", "numerator", "denominator", "found", "rest"] ["base", "numerator", "denominator"] (defScope st_wheel_of) := ⟨rfl, rfl, rfl, by decide +kernel, rfl, by decide +kernel, by decide +kernel⟩
theorem p_wheel_of (D : IsDef K mg "wheel_of" st_wheel_of)  : Has P w K mg base "wheel_of" ["base", "numerator", "denominator"] m_wheel_of 1 := by
  have nd := sc_wheel_of.nd
  refine has0 (N := ["base", "numerator", "denominator", "found", "rest"]) (ps := ["base", "numerator", "denominator"]) (k := 0) (body := b_wheel_of) D sc_wheel_of (by decide) (fun _ _ _ _ _ _ us hl => match us, hl with | [_, _, _], _ => rfl) ?_
  intro f cdv A outer s H E hr hq hc
  exact ds_cons (ds_setO 3 nd (do_lst (da_cons (de_var 1) (da_nil)))) (ds_cons (ds_set 4 nd (de_mod (de_mul (de_var 1) (dk_var 0)) (dk_var 2))) (ds_cons (ds_while 1000000 PassesOwn.never (dt_cmp (opr_ne (u64 hr)) (opd_ne _) (nomark _) (de_var 4) (dk_var 1)) (ds_cons (ds_app 3 (pv 3) (de_var 4)) (ds_one (ds_set 4 nd (de_mod (de_mul (de_var 4) (dk_var 0)) (dk_var 2)))))) (ds_one (ds_ret (de_var 3)))))
/-! ### wheels -/
abbrev st_wheels : Stmt := top 62
def b_wheels : Rho → SR := seqS (exprS (callX m_need_pure (consA (var 0) (consA (var 1) (nilA))))) (seqS (parP [3, 4] [dctO0, lstO (nilA)]) (seqS (forS (rngF rngD1 (consA (var 1) (nilA))) (tgN 2) (ifS (andT (tstF (bin ninD (var 2) (pkF 3))) (tstF (bin eqD (callF m_common_divisor (consA (var 2) (consA (var 1) (nilA)))) (cst (.int (1 : Nat)))))) (seqS (appS 4 (var 2)) (updS 3 (frzR (dcO (itF (callF m_wheel_of (consA (var 0) (consA (var 2) (consA (var 1) (nilA)))))) (tgN 5) (yesT) (var 5) (cst (.bl true)) [5])))) (skipS))) (retS (un tupleD (pkF 4)))))
def m_wheels : Fn := runF 2 6 b_wheels
theorem sc_wheels : FnScope ["base", "denominator", "numerator", "seen", "found", "one"] ["base", "denominator"] (defScope st_wheels) := ⟨rfl, rfl, rfl, by decide +kernel, rfl, by decide +kernel, by decide +kernel⟩
theorem p_wheels (D : IsDef K mg "wheels" st_wheels) (h_common_divisor : Has P w K mg base "common_divisor" ["one", "other"] m_common_divisor 1) (h_wheel_of : Has P w K mg base "wheel_of" ["base", "numerator", "denominator"] m_wheel_of 1) (h_need_pure : HasX P w K mg base "need_pure" ["base", "denominator"] m_need_pure 4) (n_tuple : mg "tuple" = none) (n_range : mg "range" = none) : HasX P w K mg base "wheels" ["base", "denominator"] m_wheels 5 := by
  have nd := sc_wheels.nd
  refine hasX (N := ["base", "denominator", "numerator", "seen", "found", "one"]) (ps := ["base", "denominator"]) (k := 4) (body := b_wheels) D sc_wheels (by decide) (fun _ _ _ _ _ _ us hl => match us, hl with | [_, _], _ => rfl) ?_
  intro f cdv A outer s H E hr hq tk po
  exact ds_cons (ds_expr (de_hX h_need_pure tk hr hq (by decide) rfl (da_cons (de_var 0) (da_cons (de_var 1) (da_nil))))) (ds_cons (ds_par2 (i := 3) (j := 4) rfl nd (by decide) (dps_cons (do_dct0) (dps_cons (do_lst (da_nil)) (dps_nil))) (by rfl)) (ds_cons (ds_for po rfl (di_range1 rfl n_range (da_cons (de_var 1) (da_nil))) (dg_name 2 nd) (ds_one (ds_if (dt_w (dw_and (dt_cmp (opr_nin (u1 hr)) (opd_nin _) (by rfl) (de_var 2) (dk_var 3)) (dw_and1 (dt_cmp (opr_eq (u64 hr)) (opd_eq _) (nomark _) (de_h h_common_divisor hr hq (by decide) rfl (da_cons (de_var 2) (da_cons (de_var 1) (da_nil)))) (dk_of (de_int)))))) (ds_cons (ds_app 4 (pv 4) (de_var 2)) (ds_one (ds_upd 3 (pv 3) (de_do (do_dc rfl nd (own := [("one", 5)]) (di_all (de_h h_wheel_of hr hq (by decide) rfl (da_cons (de_var 0) (da_cons (de_var 2) (da_cons (de_var 1) (da_nil)))))) (blkOk_by (by kernel_rfl)) (fun _ _ _ _ _ => dg_name 5 nd) (fun _ _ _ _ _ => dts_nil) (fun _ _ _ _ _ => de_var 5) (fun _ _ _ _ _ => de_bl) (by decide)))))) (ds_nil)))) (ds_one (ds_ret (de_tuple rfl n_tuple (dk_var 4))))))
/-! ### cuts_of -/
abbrev st_cuts_of : Stmt := top 46
def b_cuts_of : Rho → SR := seqS (ifS (tstF (bin eqD (var 1) (cst (.int (1 : Nat))))) (retS (lstD (nilA))) (skipS)) (seqS (setS 2 (callF m_period_of (consA (var 0) (consA (var 1) (nilA))))) (seqS (setS 3 (frzR (lcO (rngF rngD2 (consA (cst (.int (2 : Nat))) (consA (bin addD (var 2) (cst (.int (1 : Nat)))) (nilA)))) (tgN 4) (tstF (bin eqD (bin modD (var 2) (pkF 4)) (cst (.int (0 : Nat))))) (var 4) [4]))) (retS (frzR (lcO (itF (var 3)) (tgN 4) (truF (callF m_is_balanced_by (consA (var 0) (consA (var 1) (consA (var 4) (nilA)))))) (var 4) [4])))))
def m_cuts_of : Fn := runF 2 5 b_cuts_of
theorem sc_cuts_of : FnScope ["base", "denominator", "size", "some", "cut"] ["base", "denominator"] (defScope st_cuts_of) := ⟨rfl, rfl, rfl, by decide +kernel, rfl, by decide +kernel, by decide +kernel⟩
theorem p_cuts_of (D : IsDef K mg "cuts_of" st_cuts_of) (h_is_balanced_by : Has P w K mg base "is_balanced_by" ["base", "denominator", "cut"] m_is_balanced_by 5) (h_period_of : Has P w K mg base "period_of" ["base", "denominator"] m_period_of 3) (n_range : mg "range" = none) : Has P w K mg base "cuts_of" ["base", "denominator"] m_cuts_of 6 := by
  have nd := sc_cuts_of.nd
  refine has0 (N := ["base", "denominator", "size", "some", "cut"]) (ps := ["base", "denominator"]) (k := 5) (body := b_cuts_of) D sc_cuts_of (by decide) (fun _ _ _ _ _ _ us hl => match us, hl with | [_, _], _ => rfl) ?_
  intro f cdv A outer s H E hr hq hc
  exact ds_cons (ds_if (dt_cmp (opr_eq (u64 hr)) (opd_eq _) (nomark _) (de_var 1) (dk_of (de_int))) (ds_one (ds_ret (de_lst (da_nil)))) (ds_nil)) (ds_cons (ds_set 2 nd (de_h h_period_of hr hq (by decide) rfl (da_cons (de_var 0) (da_cons (de_var 1) (da_nil))))) (ds_cons (ds_setLc 3 rfl nd (sw_true rfl rfl rfl (by decide +kernel)) (own := [("cut", 4)]) (di_range2 rfl n_range (da_cons (de_int) (da_cons (de_add (de_var 2) (dk_of (de_int))) (da_nil)))) (blkOk_by (by kernel_rfl)) (fun _ _ _ _ _ => dg_name 4 nd) (fun _ _ _ _ _ => dts_one (dt_cmp (opr_eq (u64 hr)) (opd_eq _) (nomark _) (de_mod (de_var 2) (dk_var 4)) (dk_of (de_int)))) (fun _ _ _ _ _ => de_var 4) (by decide)) (ds_one (ds_ret (de_do (do_lc rfl nd (own := [("cut", 4)]) (di_all (de_var 3)) (blkOk_by (by kernel_rfl)) (fun _ _ _ _ _ => dg_name 4 nd) (fun _ _ _ _ _ => dts_one (dt_tru (dk_of (de_h h_is_balanced_by hr hq (by decide) rfl (da_cons (de_var 0) (da_cons (de_var 1) (da_cons (de_var 4) (da_nil)))))))) (fun _ _ _ _ _ => de_var 4) (by decide)))))))
/-! ### cuts -/
abbrev st_cuts : Stmt := top 47
def b_cuts : Rho → SR := retS (un tupleD (callF m_cuts_of (consA (var 0) (consA (callX m_need_pure (consA (var 0) (consA (var 1) (nilA)))) (nilA)))))
def m_cuts : Fn := runF 2 2 b_cuts
theorem sc_cuts : FnScope ["base", "denominator"] ["base", "denominator"] (defScope st_cuts) := ⟨rfl, rfl, rfl, by decide +kernel, rfl, by decide +kernel, by decide +kernel⟩
theorem p_cuts (D : IsDef K mg "cuts" st_cuts) (h_need_pure : HasX P w K mg base "need_pure" ["base", "denominator"] m_need_pure 4) (h_cuts_of : Has P w K mg base "cuts_of" ["base", "denominator"] m_cuts_of 6) (n_tuple : mg "tuple" = none) : HasX P w K mg base "cuts" ["base", "denominator"] m_cuts 7 := by
  have nd := sc_cuts.nd
  refine hasX (N := ["base", "denominator"]) (ps := ["base", "denominator"]) (k := 6) (body := b_cuts) D sc_cuts (by decide) (fun _ _ _ _ _ _ us hl => match us, hl with | [_, _], _ => rfl) ?_
  intro f cdv A outer s H E hr hq tk po
  exact ds_one (ds_ret (de_tuple rfl n_tuple (dk_of (de_h h_cuts_of hr hq (by decide) rfl (da_cons (de_var 0) (da_cons (de_hX h_need_pure tk hr hq (by decide) rfl (da_cons (de_var 0) (da_cons (de_var 1) (da_nil)))) (da_nil)))))))
/-! ### least_cuts -/
abbrev st_least_cuts : Stmt := top 48
def b_least_cuts : Rho → SR := seqS (setS 2 (callX m_cuts (consA (var 0) (consA (var 1) (nilA))))) (retS (un tupleD (frzR (lcO (itF (var 2)) (tgN 3) (tstF (bin eqD (frzR (lcO (itF (var 2)) (tgN 4) (andT (tstF (bin ltD (var 4) (pkF 3))) (tstF (bin eqD (bin modD (var 3) (pkF 4)) (cst (.int (0 : Nat)))))) (var 4) [4])) (lstD (nilA)))) (var 3) [3]))))
def m_least_cuts : Fn := runF 2 5 b_least_cuts
theorem sc_least_cuts : FnScope ["base", "denominator", "every", "cut", "other"] ["base", "denominator"] (defScope st_least_cuts) := ⟨rfl, rfl, rfl, by decide +kernel, rfl, by decide +kernel, by decide +kernel⟩
theorem p_least_cuts (D : IsDef K mg "least_cuts" st_least_cuts) (h_cuts : HasX P w K mg base "cuts" ["base", "denominator"] m_cuts 7) (n_tuple : mg "tuple" = none) : HasX P w K mg base "least_cuts" ["base", "denominator"] m_least_cuts 8 := by
  have nd := sc_least_cuts.nd
  refine hasX (N := ["base", "denominator", "every", "cut", "other"]) (ps := ["base", "denominator"]) (k := 7) (body := b_least_cuts) D sc_least_cuts (by decide) (fun _ _ _ _ _ _ us hl => match us, hl with | [_, _], _ => rfl) ?_
  intro f cdv A outer s H E hr hq tk po
  exact ds_cons (ds_set 2 nd (de_hX h_cuts tk hr hq (by decide) rfl (da_cons (de_var 0) (da_cons (de_var 1) (da_nil))))) (ds_one (ds_ret (de_tuple rfl n_tuple (dk_of (de_do (do_lc rfl nd (own := [("cut", 3)]) (di_all (de_var 2)) (blkOk_by (by kernel_rfl)) (fun _ _ _ _ _ => dg_name 3 nd) (fun _ _ _ _ _ => dts_one (dt_cmp (opr_eq (u64 hr)) (opd_eq _) (nomark _) (de_do (do_lc rfl nd (own := [("other", 4)]) (di_all (de_var 2)) (blkOk_by (by kernel_rfl)) (fun _ _ _ _ _ => dg_name 4 nd) (fun _ _ _ _ _ => dts_one (dt_w (dw_and (dt_cmp (op_lt) (opd_cmp _ _) (nomark _) (de_var 4) (dk_var 3)) (dw_and1 (dt_cmp (opr_eq (u64 hr)) (opd_eq _) (nomark _) (de_mod (de_var 3) (dk_var 4)) (dk_of (de_int))))))) (fun _ _ _ _ _ => de_var 4) (by decide))) (dk_of (de_lst (da_nil))))) (fun _ _ _ _ _ => de_var 3) (by decide)))))))
/-! ### spaced -/
abbrev st_spaced : Stmt := top 71
def b_spaced : Rho → SR := retS (ifE (tstF (bin neD (var 0) (tupD (nilA)))) (un (joinD " ") (frzR (lcO (itF (var 0)) (tgN 1) (yesT) (un strD (pkF 1)) [1]))) (cst (.str "none")))
def m_spaced : Fn := runF 1 2 b_spaced
theorem sc_spaced : FnScope ["numbers", "number"] ["numbers"] (defScope st_spaced) := ⟨rfl, rfl, rfl, by decide +kernel, rfl, by decide +kernel, by decide +kernel⟩
theorem p_spaced (D : IsDef K mg "spaced" st_spaced) (n_str : mg "str" = none) (g_NONE : ∃ t, mg "NONE" = some (.str "none" t)) : Has P w K mg base "spaced" ["numbers"] m_spaced 1 := by
  obtain ⟨_, g_NONE⟩ := g_NONE
  have nd := sc_spaced.nd
  refine has0 (N := ["numbers", "number"]) (ps := ["numbers"]) (k := 0) (body := b_spaced) D sc_spaced (by decide) (fun _ _ _ _ _ _ us hl => match us, hl with | [_], _ => rfl) ?_
  intro f cdv A outer s H E hr hq hc
  exact ds_one (ds_ret (de_if (dt_cmp (opr_ne (u64 hr)) (opd_ne _) (nomark _) (de_var 0) (dk_of (de_tup (da_nil)))) (de_join (dk_of (de_do (do_lc rfl nd (own := [("number", 1)]) (di_all (de_var 0)) (blkOk_by (by kernel_rfl)) (fun _ _ _ _ _ => dg_name 1 nd) (fun _ _ _ _ _ => dts_nil) (fun _ _ _ _ _ => de_tostr rfl n_str (dk_var 1)) (by decide))))) (de_gs rfl g_NONE)))
/-! ### period -/
abbrev st_period : Stmt := top 26
def b_period : Rho → SR := retS (callF m_period_of (consA (callX m_need_base (consA (var 0) (nilA))) (consA (callX m_need_denominator (consA (var 1) (nilA))) (nilA))))
def m_period : Fn := runF 2 2 b_period
theorem sc_period : FnScope ["base", "denominator"] ["base", "denominator"] (defScope st_period) := ⟨rfl, rfl, rfl, by decide +kernel, rfl, by decide +kernel, by decide +kernel⟩
theorem p_period (D : IsDef K mg "period" st_period) (h_need_denominator : HasX P w K mg base "need_denominator" ["value"] m_need_denominator 3) (h_need_base : HasX P w K mg base "need_base" ["value"] m_need_base 3) (h_period_of : Has P w K mg base "period_of" ["base", "denominator"] m_period_of 3) : HasX P w K mg base "period" ["base", "denominator"] m_period 4 := by
  have nd := sc_period.nd
  refine hasX (N := ["base", "denominator"]) (ps := ["base", "denominator"]) (k := 3) (body := b_period) D sc_period (by decide) (fun _ _ _ _ _ _ us hl => match us, hl with | [_, _], _ => rfl) ?_
  intro f cdv A outer s H E hr hq tk po
  exact ds_one (ds_ret (de_h h_period_of hr hq (by decide) rfl (da_cons (de_hX h_need_base tk hr hq (by decide) rfl (da_cons (de_var 0) (da_nil))) (da_cons (de_hX h_need_denominator tk hr hq (by decide) rfl (da_cons (de_var 1) (da_nil))) (da_nil)))))
/-! ### Dial_base -/
abbrev st_Dial_base : Stmt := clsAt 1 (top 40)
def b_Dial_base : Rho → SR := retS (vD (fldV "Dial" "own_base" (varV 0)))
def m_Dial_base : FnS := runS 1 1 b_Dial_base
theorem sc_Dial_base : FnScope ["self", "store!"] ["self"] (defScope st_Dial_base) := ⟨rfl, rfl, rfl, by decide +kernel, rfl, by decide +kernel, by decide +kernel⟩
theorem nv_Dial_base : ¬ Vis (defScope st_Dial_base) "store!" := notVis rfl
theorem p_Dial_base (D : IsGet K "Dial" "base" st_Dial_base) (c_Dial : Cls K (He.ga K "Dial")) (na_Dial_own_base : NoAttr K (He.ga K "Dial") "own_base") : FunS P w K mg base (gtA K "Dial" "base") ["self"] m_Dial_base 1 := by
  have nd := sc_Dial_base.nd
  refine funS_of (x := "base") (qual := "Dial" ++ "." ++ "base") (st := st_Dial_base) (N := ["self", "store!"]) (ps := ["self"]) (k := 0) (n := 1) (y := "store!") (body := b_Dial_base) D sc_Dial_base rfl (by decide) rfl nv_Dial_base (fun _ _ _ _ _ _ us hl => match us, hl with | [_], _ => rfl) ?_
  intro f cdv A outer s H E hr hq tk po
  exact ds_one (ds_ret (de_dv (dv_fld c_Dial na_Dial_own_base (dv_var (pv 0)))))
/-! ### Desk_asked -/
abbrev st_Desk_asked : Stmt := clsAt 4 (top 72)
def b_Desk_asked : Rho → SR := seqS (setS 3 (vD (propV "Dial" m_Dial_base (fldV "Desk" "own_dial" (varV 0))))) (seqS (ifS (tstF (bin eqD (var 1) (cst (.str "period")))) (retS (un strD (callX m_period (consA (var 3) (consA (var 2) (nilA)))))) (skipS)) (seqS (ifS (tstF (bin eqD (var 1) (cst (.str "cuts")))) (retS (callF m_spaced (consA (callX m_cuts (consA (var 3) (consA (var 2) (nilA)))) (nilA)))) (skipS)) (seqS (ifS (tstF (bin eqD (var 1) (cst (.str "least")))) (retS (callF m_spaced (consA (callX m_least_cuts (consA (var 3) (consA (var 2) (nilA)))) (nilA)))) (skipS)) (retS (ifE (tstF (bin eqD (var 1) (cst (.str "wheels")))) (un strD (un lenD (callX m_wheels (consA (var 3) (consA (var 2) (nilA)))))) (cst .non))))))
def m_Desk_asked : FnS := runS 3 4 b_Desk_asked
theorem sc_Desk_asked : FnScope ["self", "word", "number", "base", "store!"] ["self", "word", "number"] (defScope st_Desk_asked) := ⟨rfl, rfl, rfl, by decide +kernel, rfl, by decide +kernel, by decide +kernel⟩
theorem nv_Desk_asked : ¬ Vis (defScope st_Desk_asked) "store!" := notVis rfl
theorem p_Desk_asked (D : IsMeth K "Desk" "asked" st_Desk_asked) (h_wheels : HasX P w K mg base "wheels" ["base", "denominator"] m_wheels 5) (h_least_cuts : HasX P w K mg base "least_cuts" ["base", "denominator"] m_least_cuts 8) (h_spaced : Has P w K mg base "spaced" ["numbers"] m_spaced 1) (h_cuts : HasX P w K mg base "cuts" ["base", "denominator"] m_cuts 7) (h_period : HasX P w K mg base "period" ["base", "denominator"] m_period 4) (P_Dial_base : PropS P w K mg base "Dial" "base" ["self"] m_Dial_base 1) (c_Desk : Cls K (He.ga K "Desk")) (c_Dial : Cls K (He.ga K "Dial")) (na_Desk_own_dial : NoAttr K (He.ga K "Desk") "own_dial") (n_len : mg "len" = none) (n_str : mg "str" = none) : FunS P w K mg base (He.ma K (He.ga K "Desk") "asked") ["self", "word", "number"] m_Desk_asked 9 := by
  have nd := sc_Desk_asked.nd
  refine funS_of (x := "asked") (qual := "Desk" ++ "." ++ "asked") (st := st_Desk_asked) (N := ["self", "word", "number", "base", "store!"]) (ps := ["self", "word", "number"]) (k := 8) (n := 4) (y := "store!") (body := b_Desk_asked) D sc_Desk_asked rfl (by decide) rfl nv_Desk_asked (fun _ _ _ _ _ _ us hl => match us, hl with | [_, _, _], _ => rfl) ?_
  intro f cdv A outer s H E hr hq tk po
  exact ds_cons (ds_set 3 nd (de_dv (dv_prop c_Dial P_Dial_base hr hq (by decide) (dv_fld c_Desk na_Desk_own_dial (dv_var (pv 0)))))) (ds_cons (ds_if (dt_cmp (opr_eq (u64 hr)) (opd_eq _) (nomark _) (de_var 1) (dk_of (de_str))) (ds_one (ds_ret (de_tostr rfl n_str (dk_of (de_hX h_period tk hr hq (by decide) rfl (da_cons (de_var 3) (da_cons (de_var 2) (da_nil)))))))) (ds_nil)) (ds_cons (ds_if (dt_cmp (opr_eq (u64 hr)) (opd_eq _) (nomark _) (de_var 1) (dk_of (de_str))) (ds_one (ds_ret (de_h h_spaced hr hq (by decide) rfl (da_cons (de_hX h_cuts tk hr hq (by decide) rfl (da_cons (de_var 3) (da_cons (de_var 2) (da_nil)))) (da_nil))))) (ds_nil)) (ds_cons (ds_if (dt_cmp (opr_eq (u64 hr)) (opd_eq _) (nomark _) (de_var 1) (dk_of (de_str))) (ds_one (ds_ret (de_h h_spaced hr hq (by decide) rfl (da_cons (de_hX h_least_cuts tk hr hq (by decide) rfl (da_cons (de_var 3) (da_cons (de_var 2) (da_nil)))) (da_nil))))) (ds_nil)) (ds_one (ds_ret (de_if (dt_cmp (opr_eq (u64 hr)) (opd_eq _) (nomark _) (de_var 1) (dk_of (de_str))) (de_tostr rfl n_str (dk_of (de_len rfl n_len (dk_of (de_hX h_wheels tk hr hq (by decide) rfl (da_cons (de_var 3) (da_cons (de_var 2) (da_nil)))))))) (de_non)))))))
/-! ### is_fraction -/
abbrev st_is_fraction : Stmt := top 20
def b_is_fraction : Rho → SR := seqS (ifS (orT (notT (truF (un (isiD .tuple) (pkF 0)))) (orT (tstF (bin neD (un lenD (pkF 0)) (cst (.int (2 : Nat))))) (notT (truF (callF m_is_whole (consA (bin ixD (var 0) (cst (.int (1 : Nat)))) (consA (cst (.int (1 : Nat))) (consA (cst (.int (5000 : Nat))) (nilA))))))))) (retS (cst (.bl false))) (skipS)) (retS (andV (callF m_is_whole (consA (bin ixD (var 0) (cst (.int (0 : Nat)))) (consA (cst (.int (0 : Nat))) (consA (bin subD (bin ixD (var 0) (cst (.int (1 : Nat)))) (cst (.int (1 : Nat)))) (nilA))))) (bin eqD (callF m_common_divisor (consA (bin ixD (var 0) (cst (.int (0 : Nat)))) (consA (bin ixD (var 0) (cst (.int (1 : Nat)))) (nilA)))) (cst (.int (1 : Nat))))))
def m_is_fraction : Fn := runF 1 1 b_is_fraction
theorem sc_is_fraction : FnScope ["value"] ["value"] (defScope st_is_fraction) := ⟨rfl, rfl, rfl, by decide +kernel, rfl, by decide +kernel, by decide +kernel⟩
theorem p_is_fraction (D : IsDef K mg "is_fraction" st_is_fraction) (h_common_divisor : Has P w K mg base "common_divisor" ["one", "other"] m_common_divisor 1) (h_is_whole : Has P w K mg base "is_whole" ["value", "least", "most"] m_is_whole 2) (n_len : mg "len" = none) (n_isinstance : mg "isinstance" = none) (n_tuple : mg "tuple" = none) (g_MOST_DENOMINATOR : ∃ t, mg "MOST_DENOMINATOR" = some (.int 5000 t)) : Has P w K mg base "is_fraction" ["value"] m_is_fraction 3 := by
  obtain ⟨_, g_MOST_DENOMINATOR⟩ := g_MOST_DENOMINATOR
  have nd := sc_is_fraction.nd
  refine has0 (N := ["value"]) (ps := ["value"]) (k := 2) (body := b_is_fraction) D sc_is_fraction (by decide) (fun _ _ _ _ _ _ us hl => match us, hl with | [_], _ => rfl) ?_
  intro f cdv A outer s H E hr hq hc
  exact ds_cons (ds_if (dt_w (dw_or (dt_not (dt_tru (dk_of (de_isi .tuple (by decide) rfl n_isinstance rfl n_tuple (by decide +kernel) (dk_var 0))))) (dw_or (dt_cmp (opr_ne (u64 hr)) (opd_ne _) (nomark _) (de_len rfl n_len (dk_var 0)) (dk_of (de_int))) (dw_or1 (dt_not (dt_tru (dk_of (de_h h_is_whole hr hq (by decide) rfl (da_cons (de_ix (u1 hr) (de_var 0) (dk_of (de_int)) (fun _ _ => rfl)) (da_cons (de_int) (da_cons (de_gi rfl g_MOST_DENOMINATOR) (da_nil)))))))))))) (ds_one (ds_ret (de_bl))) (ds_nil)) (ds_one (ds_ret (de_and (de_h h_is_whole hr hq (by decide) rfl (da_cons (de_ix (u1 hr) (de_var 0) (dk_of (de_int)) (fun _ _ => rfl)) (da_cons (de_int) (da_cons (de_sub (de_ix (u1 hr) (de_var 0) (dk_of (de_int)) (fun _ _ => rfl)) (dk_of (de_int))) (da_nil))))) (de_one (de_cmp (opr_eq (u64 hr)) (opd_eq _) (nomark _) (de_h h_common_divisor hr hq (by decide) rfl (da_cons (de_ix (u1 hr) (de_var 0) (dk_of (de_int)) (fun _ _ => rfl)) (da_cons (de_ix (u1 hr) (de_var 0) (dk_of (de_int)) (fun _ _ => rfl)) (da_nil)))) (dk_of (de_int)))))))
/-! ### need_fraction -/
abbrev st_need_fraction : Stmt := top 21
def b_need_fraction : Rho → SR := seqS (ifS (notT (truF (callF m_is_fraction (consA (var 0) (nilA))))) (raiseS "BadFraction" "value" (var 0)) (skipS)) (retS (var 0))
def m_need_fraction : Fn := runF 1 1 b_need_fraction
theorem sc_need_fraction : FnScope ["value"] ["value"] (defScope st_need_fraction) := ⟨rfl, rfl, rfl, by decide +kernel, rfl, by decide +kernel, by decide +kernel⟩
theorem p_need_fraction (D : IsDef K mg "need_fraction" st_need_fraction) (h_is_fraction : Has P w K mg base "is_fraction" ["value"] m_is_fraction 3) (x_BadFraction : DWX.OwnX P K mg "BadFraction" "value" "ValueError" "ValueError.__new__" "ValueError.__init__" DWX.veB (He.ga K "BadFraction") (DWX.initAt K "BadFraction")) : HasX P w K mg base "need_fraction" ["value"] m_need_fraction 4 := by
  have nd := sc_need_fraction.nd
  refine hasX (N := ["value"]) (ps := ["value"]) (k := 3) (body := b_need_fraction) D sc_need_fraction (by decide) (fun _ _ _ _ _ _ us hl => match us, hl with | [_], _ => rfl) ?_
  intro f cdv A outer s H E hr hq tk po
  exact ds_cons (ds_if (dt_not (dt_tru (dk_of (de_h h_is_fraction hr hq (by decide) rfl (da_cons (de_var 0) (da_nil)))))) (ds_one (ds_raise x_BadFraction hr rfl tk rfl (de_var 0))) (ds_nil)) (ds_one (ds_ret (de_var 0)))
/-! ### run_size -/
abbrev st_run_size : Stmt := top 57
def b_run_size : Rho → SR := seqS (setS 1 (cst (.int (0 : Nat)))) (seqS (whS (andT (tstF (bin ltD (var 1) (un lenD (pkF 0)))) (tstF (bin inD (bin ixD (var 0) (pkF 1)) (cst (.str "0123456789"))))) (setS 1 (bin addD (var 1) (cst (.int (1 : Nat))))) 1000000) (retS (var 1)))
def m_run_size : Fn := runF 1 2 b_run_size
theorem sc_run_size : FnScope ["string", "size"] ["string"] (defScope st_run_size) := ⟨rfl, rfl, rfl, by decide +kernel, rfl, by decide +kernel, by decide +kernel⟩
theorem p_run_size (D : IsDef K mg "run_size" st_run_size) (n_len : mg "len" = none) (g_FIGURES : ∃ t, mg "FIGURES" = some (.str "0123456789" t)) : Has P w K mg base "run_size" ["string"] m_run_size 1 := by
  obtain ⟨_, g_FIGURES⟩ := g_FIGURES
  have nd := sc_run_size.nd
  refine has0 (N := ["string", "size"]) (ps := ["string"]) (k := 0) (body := b_run_size) D sc_run_size (by decide) (fun _ _ _ _ _ _ us hl => match us, hl with | [_], _ => rfl) ?_
  intro f cdv A outer s H E hr hq hc
  exact ds_cons (ds_set 1 nd (de_int)) (ds_cons (ds_while 1000000 PassesOwn.never (dt_w (dw_and (dt_cmp (op_lt) (opd_cmp _ _) (nomark _) (de_var 1) (dk_of (de_len rfl n_len (dk_var 0)))) (dw_and1 (dt_cmp (opr_in (u1 hr)) (opd_in _) (by rfl) (de_ix (u1 hr) (de_var 0) (dk_var 1) (fun _ _ => rfl)) (dk_of (de_gs rfl g_FIGURES)))))) (ds_one (ds_set 1 nd (de_add (de_var 1) (dk_of (de_int)))))) (ds_one (ds_ret (de_var 1))))
/-! ### read_fraction -/
abbrev st_read_fraction : Stmt := top 58
def b_read_fraction : Rho → SR := seqS (ifS (notT (truF (un (isiD .str) (pkF 0)))) (raiseS "BadText" "place" (cst .non)) (skipS)) (seqS (setS 1 (callF m_run_size (consA (var 0) (nilA)))) (seqS (ifS (notT (truF (callF m_is_number_text (consA (sl3 (var 0) (noP) (someP (var 1))) (nilA))))) (raiseS "BadText" "place" (cst (.int (0 : Nat)))) (skipS)) (seqS (ifS (tstF (bin neD (sl3 (var 0) (someP (var 1)) (someP (bin addD (var 1) (cst (.int (1 : Nat)))))) (cst (.str "/")))) (raiseS "BadText" "place" (cst (.int (1 : Nat)))) (skipS)) (seqS (ifS (notT (truF (callF m_is_number_text (consA (sl3 (var 0) (someP (bin addD (var 1) (cst (.int (1 : Nat))))) (noP)) (nilA))))) (raiseS "BadText" "place" (cst (.int (2 : Nat)))) (skipS)) (retS (callX m_need_fraction (consA (tupD (consA (un intT (sl3 (var 0) (noP) (someP (var 1)))) (consA (un intT (sl3 (var 0) (someP (bin addD (var 1) (cst (.int (1 : Nat))))) (noP))) (nilA)))) (nilA))))))))
def m_read_fraction : Fn := runF 1 2 b_read_fraction
theorem sc_read_fraction : FnScope ["string", "size"] ["string"] (defScope st_read_fraction) := ⟨rfl, rfl, rfl, by decide +kernel, rfl, by decide +kernel, by decide +kernel⟩
theorem p_read_fraction (D : IsDef K mg "read_fraction" st_read_fraction) (h_need_fraction : HasX P w K mg base "need_fraction" ["value"] m_need_fraction 4) (h_is_number_text : Has P w K mg base "is_number_text" ["text"] m_is_number_text 1) (h_run_size : Has P w K mg base "run_size" ["string"] m_run_size 1) (x_BadText : DWX.OwnX P K mg "BadText" "place" "ValueError" "ValueError.__new__" "ValueError.__init__" DWX.veB (He.ga K "BadText") (DWX.initAt K "BadText")) (n_int : mg "int" = none) (n_isinstance : mg "isinstance" = none) (n_str : mg "str" = none) (g_STROKE : ∃ t, mg "STROKE" = some (.str "/" t)) : HasX P w K mg base "read_fraction" ["string"] m_read_fraction 5 := by
  obtain ⟨_, g_STROKE⟩ := g_STROKE
  have nd := sc_read_fraction.nd
  refine hasX (N := ["string", "size"]) (ps := ["string"]) (k := 4) (body := b_read_fraction) D sc_read_fraction (by decide) (fun _ _ _ _ _ _ us hl => match us, hl with | [_], _ => rfl) ?_
  intro f cdv A outer s H E hr hq tk po
  exact ds_cons (ds_if (dt_not (dt_tru (dk_of (de_isi .str (by decide) rfl n_isinstance rfl n_str (by decide +kernel) (dk_var 0))))) (ds_one (ds_raise x_BadText hr rfl tk rfl (de_non))) (ds_nil)) (ds_cons (ds_set 1 nd (de_h h_run_size hr hq (by decide) rfl (da_cons (de_var 0) (da_nil)))) (ds_cons (ds_if (dt_not (dt_tru (dk_of (de_h h_is_number_text hr hq (by decide) rfl (da_cons (de_sl (de_var 0) (dp_none) (dp_some (de_var 1))) (da_nil)))))) (ds_one (ds_raise x_BadText hr rfl tk rfl (de_int))) (ds_nil)) (ds_cons (ds_if (dt_cmp (opr_ne (u64 hr)) (opd_ne _) (nomark _) (de_sl (de_var 0) (dp_some (de_var 1)) (dp_some (de_add (de_var 1) (dk_of (de_int))))) (dk_of (de_gs rfl g_STROKE))) (ds_one (ds_raise x_BadText hr rfl tk rfl (de_int))) (ds_nil)) (ds_cons (ds_if (dt_not (dt_tru (dk_of (de_h h_is_number_text hr hq (by decide) rfl (da_cons (de_sl (de_var 0) (dp_some (de_add (de_var 1) (dk_of (de_int)))) (dp_none)) (da_nil)))))) (ds_one (ds_raise x_BadText hr rfl tk rfl (de_int))) (ds_nil)) (ds_one (ds_ret (de_hX h_need_fraction tk hr hq (by decide) rfl (da_cons (de_tup (da_cons (de_intT rfl n_int (dk_of (de_sl (de_var 0) (dp_none) (dp_some (de_var 1))))) (da_cons (de_intT rfl n_int (dk_of (de_sl (de_var 0) (dp_some (de_add (de_var 1) (dk_of (de_int)))) (dp_none)))) (da_nil)))) (da_nil)))))))))
/-! ### need_place -/
abbrev st_need_place : Stmt := top 35
def b_need_place : Rho → SR := seqS (ifS (notT (truF (callF m_is_whole (consA (var 0) (consA (cst (.int (0 : Nat))) (consA (var 1) (nilA))))))) (raiseS "BadNumber" "value" (var 0)) (skipS)) (retS (var 0))
def m_need_place : Fn := runF 2 2 b_need_place
theorem sc_need_place : FnScope ["value", "most"] ["value", "most"] (defScope st_need_place) := ⟨rfl, rfl, rfl, by decide +kernel, rfl, by decide +kernel, by decide +kernel⟩
theorem p_need_place (D : IsDef K mg "need_place" st_need_place) (h_is_whole : Has P w K mg base "is_whole" ["value", "least", "most"] m_is_whole 2) (x_BadNumber : DWX.OwnX P K mg "BadNumber" "value" "ValueError" "ValueError.__new__" "ValueError.__init__" DWX.veB (He.ga K "BadNumber") (DWX.initAt K "BadNumber")) : HasX P w K mg base "need_place" ["value", "most"] m_need_place 3 := by
  have nd := sc_need_place.nd
  refine hasX (N := ["value", "most"]) (ps := ["value", "most"]) (k := 2) (body := b_need_place) D sc_need_place (by decide) (fun _ _ _ _ _ _ us hl => match us, hl with | [_, _], _ => rfl) ?_
  intro f cdv A outer s H E hr hq tk po
  exact ds_cons (ds_if (dt_not (dt_tru (dk_of (de_h h_is_whole hr hq (by decide) rfl (da_cons (de_var 0) (da_cons (de_int) (da_cons (de_var 1) (da_nil)))))))) (ds_one (ds_raise x_BadNumber hr rfl tk rfl (de_var 0))) (ds_nil)) (ds_one (ds_ret (de_var 0)))
/-! ### lowest -/
abbrev st_lowest : Stmt := top 22
def b_lowest : Rho → SR := seqS (setS 2 (bin modD (var 0) (pkF 1))) (seqS (setS 3 (callF m_common_divisor (consA (var 2) (consA (var 1) (nilA))))) (retS (tupD (consA (bin fdivD (var 2) (pkF 3)) (consA (bin fdivD (var 1) (pkF 3)) (nilA))))))
def m_lowest : Fn := runF 2 4 b_lowest
theorem sc_lowest : FnScope ["numerator", "denominator", "rest", "divisor"] ["numerator", "denominator"] (defScope st_lowest) := ⟨rfl, rfl, rfl, by decide +kernel, rfl, by decide +kernel, by decide +kernel⟩
theorem p_lowest (D : IsDef K mg "lowest" st_lowest) (h_common_divisor : Has P w K mg base "common_divisor" ["one", "other"] m_common_divisor 1) : Has P w K mg base "lowest" ["numerator", "denominator"] m_lowest 2 := by
  have nd := sc_lowest.nd
  refine has0 (N := ["numerator", "denominator", "rest", "divisor"]) (ps := ["numerator", "denominator"]) (k := 1) (body := b_lowest) D sc_lowest (by decide) (fun _ _ _ _ _ _ us hl => match us, hl with | [_, _], _ => rfl) ?_
  intro f cdv A outer s H E hr hq hc
  exact ds_cons (ds_set 2 nd (de_mod (de_var 0) (dk_var 1))) (ds_cons (ds_set 3 nd (de_h h_common_divisor hr hq (by decide) rfl (da_cons (de_var 2) (da_cons (de_var 1) (da_nil))))) (ds_one (ds_ret (de_tup (da_cons (de_fdiv (de_var 2) (dk_var 3)) (da_cons (de_fdiv (de_var 1) (dk_var 3)) (da_nil)))))))
/-! ### Dial_show -/
abbrev st_Dial_show : Stmt := clsAt 4 (top 40)
def b_Dial_show : Rho → SR := seqS (setS 3 (callF m_lowest (consA (var 1) (consA (var 2) (nilA))))) (seqS (ifS (tstF (bin gtD (bin ixD (var 3) (cst (.int (1 : Nat)))) (cst (.int (5000 : Nat))))) (raiseS "TooGreat" "most" (cst (.int (5000 : Nat)))) (skipS)) (sFldS "Dial" "past" (varV 0) (dV (tupD (starA (vD (fldV "Dial" "past" (varV 0))) (consA (var 3) (nilA)))))))
def m_Dial_show : FnS := runS 3 4 b_Dial_show
theorem sc_Dial_show : FnScope ["self", "numerator", "denominator", "found", "store!"] ["self", "numerator", "denominator"] (defScope st_Dial_show) := ⟨rfl, rfl, rfl, by decide +kernel, rfl, by decide +kernel, by decide +kernel⟩
theorem nv_Dial_show : ¬ Vis (defScope st_Dial_show) "store!" := notVis rfl
theorem p_Dial_show (D : IsMeth K "Dial" "show" st_Dial_show) (h_lowest : Has P w K mg base "lowest" ["numerator", "denominator"] m_lowest 2) (c_Dial : Cls K (He.ga K "Dial")) (na_Dial_past : NoAttr K (He.ga K "Dial") "past") (x_TooGreat : DWX.OwnX P K mg "TooGreat" "most" "OverflowError" "OverflowError.__new__" "OverflowError.__init__" DWX.oeB (He.ga K "TooGreat") (DWX.initAt K "TooGreat")) (g_MOST_DENOMINATOR : ∃ t, mg "MOST_DENOMINATOR" = some (.int 5000 t)) : FunS P w K mg base (He.ma K (He.ga K "Dial") "show") ["self", "numerator", "denominator"] m_Dial_show 3 := by
  obtain ⟨_, g_MOST_DENOMINATOR⟩ := g_MOST_DENOMINATOR
  have nd := sc_Dial_show.nd
  refine funS_of (x := "show") (qual := "Dial" ++ "." ++ "show") (st := st_Dial_show) (N := ["self", "numerator", "denominator", "found", "store!"]) (ps := ["self", "numerator", "denominator"]) (k := 2) (n := 4) (y := "store!") (body := b_Dial_show) D sc_Dial_show rfl (by decide) rfl nv_Dial_show (fun _ _ _ _ _ _ us hl => match us, hl with | [_, _, _], _ => rfl) ?_
  intro f cdv A outer s H E hr hq tk po
  exact ds_cons (ds_set 3 nd (de_h h_lowest hr hq (by decide) rfl (da_cons (de_var 1) (da_cons (de_var 2) (da_nil))))) (ds_cons (ds_if (dt_cmp (op_gt) (opd_cmp _ _) (nomark _) (de_ix (u1 hr) (de_var 3) (dk_of (de_int)) (fun _ _ => rfl)) (dk_of (de_gi rfl g_MOST_DENOMINATOR))) (ds_one (ds_raise x_TooGreat hr rfl tk rfl (de_gi rfl g_MOST_DENOMINATOR))) (ds_nil)) (ds_one (ds_fldS c_Dial na_Dial_past (dv_var (pv 0)) (dv_of (de_tup (da_star (de_dv (dv_fld c_Dial na_Dial_past (dv_var (pv 0)))) (da_cons (de_var 3) (da_nil))))))))
/-! ### Dial_fraction -/
abbrev st_Dial_fraction : Stmt := clsAt 2 (top 40)
def b_Dial_fraction : Rho → SR := retS (bin ixD (vD (fldV "Dial" "past" (varV 0))) (un negD (cst (.int (1 : Nat)))))
def m_Dial_fraction : FnS := runS 1 1 b_Dial_fraction
theorem sc_Dial_fraction : FnScope ["self", "store!"] ["self"] (defScope st_Dial_fraction) := ⟨rfl, rfl, rfl, by decide +kernel, rfl, by decide +kernel, by decide +kernel⟩
theorem nv_Dial_fraction : ¬ Vis (defScope st_Dial_fraction) "store!" := notVis rfl
theorem p_Dial_fraction (D : IsGet K "Dial" "fraction" st_Dial_fraction) (c_Dial : Cls K (He.ga K "Dial")) (na_Dial_past : NoAttr K (He.ga K "Dial") "past") : FunS P w K mg base (gtA K "Dial" "fraction") ["self"] m_Dial_fraction 1 := by
  have nd := sc_Dial_fraction.nd
  refine funS_of (x := "fraction") (qual := "Dial" ++ "." ++ "fraction") (st := st_Dial_fraction) (N := ["self", "store!"]) (ps := ["self"]) (k := 0) (n := 1) (y := "store!") (body := b_Dial_fraction) D sc_Dial_fraction rfl (by decide) rfl nv_Dial_fraction (fun _ _ _ _ _ _ us hl => match us, hl with | [_], _ => rfl) ?_
  intro f cdv A outer s H E hr hq tk po
  exact ds_one (ds_ret (de_ix (u1 hr) (de_dv (dv_fld c_Dial na_Dial_past (dv_var (pv 0)))) (dk_of (de_neg (de_int))) (fun _ _ => rfl)))
/-! ### Dial_scale -/
abbrev st_Dial_scale : Stmt := clsAt 7 (top 40)
def b_Dial_scale : Rho → SR := exprS (vD (methV "Dial" "show" m_Dial_show (varV 0) (consV (dV (bin mulD (bin ixD (vD (propV "Dial" m_Dial_fraction (varV 0))) (cst (.int (0 : Nat)))) (callX m_need_place (consA (var 1) (consA (cst (.int (1000000000000000000000000000000 : Nat))) (nilA)))))) (consV (dV (bin ixD (vD (propV "Dial" m_Dial_fraction (varV 0))) (cst (.int (1 : Nat))))) (nilV)))))
def m_Dial_scale : FnS := runS 2 2 b_Dial_scale
theorem sc_Dial_scale : FnScope ["self", "times", "store!"] ["self", "times"] (defScope st_Dial_scale) := ⟨rfl, rfl, rfl, by decide +kernel, rfl, by decide +kernel, by decide +kernel⟩
theorem nv_Dial_scale : ¬ Vis (defScope st_Dial_scale) "store!" := notVis rfl
theorem p_Dial_scale (D : IsMeth K "Dial" "scale" st_Dial_scale) (h_need_place : HasX P w K mg base "need_place" ["value", "most"] m_need_place 3) (M_Dial_show : MethS P w K mg base "Dial" "show" ["self", "numerator", "denominator"] m_Dial_show 3) (P_Dial_fraction : PropS P w K mg base "Dial" "fraction" ["self"] m_Dial_fraction 1) (c_Dial : Cls K (He.ga K "Dial")) (g_MOST_PLACE : ∃ t, mg "MOST_PLACE" = some (.int 1000000000000000000000000000000 t)) : FunS P w K mg base (He.ma K (He.ga K "Dial") "scale") ["self", "times"] m_Dial_scale 4 := by
  obtain ⟨_, g_MOST_PLACE⟩ := g_MOST_PLACE
  have nd := sc_Dial_scale.nd
  refine funS_of (x := "scale") (qual := "Dial" ++ "." ++ "scale") (st := st_Dial_scale) (N := ["self", "times", "store!"]) (ps := ["self", "times"]) (k := 3) (n := 2) (y := "store!") (body := b_Dial_scale) D sc_Dial_scale rfl (by decide) rfl nv_Dial_scale (fun _ _ _ _ _ _ us hl => match us, hl with | [_, _], _ => rfl) ?_
  intro f cdv A outer s H E hr hq tk po
  exact ds_one (ds_expr (de_dv (dv_meth c_Dial M_Dial_show tk hr hq (by decide) (dv_var (pv 0)) (dva_cons (dv_of (de_mul (de_ix (u1 hr) (de_dv (dv_prop c_Dial P_Dial_fraction hr hq (by decide) (dv_var (pv 0)))) (dk_of (de_int)) (fun _ _ => rfl)) (dk_of (de_hX h_need_place tk hr hq (by decide) rfl (da_cons (de_var 1) (da_cons (de_gi rfl g_MOST_PLACE) (da_nil))))))) (dva_cons (dv_of (de_ix (u1 hr) (de_dv (dv_prop c_Dial P_Dial_fraction hr hq (by decide) (dv_var (pv 0)))) (dk_of (de_int)) (fun _ _ => rfl))) (dva_nil))))))
/-! ### remainder_in -/
abbrev st_remainder_in : Stmt := top 36
def b_remainder_in : Rho → SR := retS (bin modD (bin mulD (bin ixD (var 1) (cst (.int (0 : Nat)))) (callF m_power_rest (consA (var 0) (consA (var 2) (consA (bin ixD (var 1) (cst (.int (1 : Nat)))) (nilA)))))) (bin ixD (var 1) (cst (.int (1 : Nat)))))
def m_remainder_in : Fn := runF 3 3 b_remainder_in
theorem sc_remainder_in : FnScope ["base", "fraction", "place"] ["base", "fraction", "place"] (defScope st_remainder_in) := ⟨rfl, rfl, rfl, by decide +kernel, rfl, by decide +kernel, by decide +kernel⟩
theorem p_remainder_in (D : IsDef K mg "remainder_in" st_remainder_in) (h_power_rest : Has P w K mg base "power_rest" ["base", "exponent", "divisor"] m_power_rest 1) : Has P w K mg base "remainder_in" ["base", "fraction", "place"] m_remainder_in 2 := by
  have nd := sc_remainder_in.nd
  refine has0 (N := ["base", "fraction", "place"]) (ps := ["base", "fraction", "place"]) (k := 1) (body := b_remainder_in) D sc_remainder_in (by decide) (fun _ _ _ _ _ _ us hl => match us, hl with | [_, _, _], _ => rfl) ?_
  intro f cdv A outer s H E hr hq hc
  exact ds_one (ds_ret (de_mod (de_mul (de_ix (u1 hr) (de_var 1) (dk_of (de_int)) (fun _ _ => rfl)) (dk_of (de_h h_power_rest hr hq (by decide) rfl (da_cons (de_var 0) (da_cons (de_var 2) (da_cons (de_ix (u1 hr) (de_var 1) (dk_of (de_int)) (fun _ _ => rfl)) (da_nil))))))) (dk_of (de_ix (u1 hr) (de_var 1) (dk_of (de_int)) (fun _ _ => rfl)))))
/-! ### Dial_turn -/
abbrev st_Dial_turn : Stmt := clsAt 5 (top 40)
def b_Dial_turn : Rho → SR := seqS (setS 2 (callF m_remainder_in (consA (vD (fldV "Dial" "own_base" (varV 0))) (consA (vD (propV "Dial" m_Dial_fraction (varV 0))) (consA (callX m_need_place (consA (var 1) (consA (cst (.int (1000000000000000000000000000000 : Nat))) (nilA)))) (nilA)))))) (exprS (vD (methV "Dial" "show" m_Dial_show (varV 0) (consV (dV (var 2)) (consV (dV (bin ixD (vD (propV "Dial" m_Dial_fraction (varV 0))) (cst (.int (1 : Nat))))) (nilV))))))
def m_Dial_turn : FnS := runS 2 3 b_Dial_turn
theorem sc_Dial_turn : FnScope ["self", "many", "rest", "store!"] ["self", "many"] (defScope st_Dial_turn) := ⟨rfl, rfl, rfl, by decide +kernel, rfl, by decide +kernel, by decide +kernel⟩
theorem nv_Dial_turn : ¬ Vis (defScope st_Dial_turn) "store!" := notVis rfl
theorem p_Dial_turn (D : IsMeth K "Dial" "turn" st_Dial_turn) (h_need_place : HasX P w K mg base "need_place" ["value", "most"] m_need_place 3) (h_remainder_in : Has P w K mg base "remainder_in" ["base", "fraction", "place"] m_remainder_in 2) (M_Dial_show : MethS P w K mg base "Dial" "show" ["self", "numerator", "denominator"] m_Dial_show 3) (P_Dial_fraction : PropS P w K mg base "Dial" "fraction" ["self"] m_Dial_fraction 1) (c_Dial : Cls K (He.ga K "Dial")) (na_Dial_own_base : NoAttr K (He.ga K "Dial") "own_base") (g_MOST_PLACE : ∃ t, mg "MOST_PLACE" = some (.int 1000000000000000000000000000000 t)) : FunS P w K mg base (He.ma K (He.ga K "Dial") "turn") ["self", "many"] m_Dial_turn 4 := by
  obtain ⟨_, g_MOST_PLACE⟩ := g_MOST_PLACE
  have nd := sc_Dial_turn.nd
  refine funS_of (x := "turn") (qual := "Dial" ++ "." ++ "turn") (st := st_Dial_turn) (N := ["self", "many", "rest", "store!"]) (ps := ["self", "many"]) (k := 3) (n := 3) (y := "store!") (body := b_Dial_turn) D sc_Dial_turn rfl (by decide) rfl nv_Dial_turn (fun _ _ _ _ _ _ us hl => match us, hl with | [_, _], _ => rfl) ?_
  intro f cdv A outer s H E hr hq tk po
  exact ds_cons (ds_set 2 nd (de_h h_remainder_in hr hq (by decide) rfl (da_cons (de_dv (dv_fld c_Dial na_Dial_own_base (dv_var (pv 0)))) (da_cons (de_dv (dv_prop c_Dial P_Dial_fraction hr hq (by decide) (dv_var (pv 0)))) (da_cons (de_hX h_need_place tk hr hq (by decide) rfl (da_cons (de_var 1) (da_cons (de_gi rfl g_MOST_PLACE) (da_nil)))) (da_nil)))))) (ds_one (ds_expr (de_dv (dv_meth c_Dial M_Dial_show tk hr hq (by decide) (dv_var (pv 0)) (dva_cons (dv_of (de_var 2)) (dva_cons (dv_of (de_ix (u1 hr) (de_dv (dv_prop c_Dial P_Dial_fraction hr hq (by decide) (dv_var (pv 0)))) (dk_of (de_int)) (fun _ _ => rfl))) (dva_nil)))))))
/-! ### Dial_add -/
abbrev st_Dial_add : Stmt := clsAt 6 (top 40)
def b_Dial_add : Rho → SR := seqS (parP [2, 3] [frO (vD (propV "Dial" m_Dial_fraction (varV 0))), frO (callX m_need_fraction (consA (var 1) (nilA)))]) (exprS (vD (methV "Dial" "show" m_Dial_show (varV 0) (consV (dV (bin addD (bin mulD (bin ixD (var 2) (cst (.int (0 : Nat)))) (bin ixD (var 3) (cst (.int (1 : Nat))))) (bin mulD (bin ixD (var 3) (cst (.int (0 : Nat)))) (bin ixD (var 2) (cst (.int (1 : Nat))))))) (consV (dV (bin mulD (bin ixD (var 2) (cst (.int (1 : Nat)))) (bin ixD (var 3) (cst (.int (1 : Nat)))))) (nilV))))))
def m_Dial_add : FnS := runS 2 4 b_Dial_add
theorem sc_Dial_add : FnScope ["self", "other", "one", "two", "store!"] ["self", "other"] (defScope st_Dial_add) := ⟨rfl, rfl, rfl, by decide +kernel, rfl, by decide +kernel, by decide +kernel⟩
theorem nv_Dial_add : ¬ Vis (defScope st_Dial_add) "store!" := notVis rfl
theorem p_Dial_add (D : IsMeth K "Dial" "add" st_Dial_add) (h_need_fraction : HasX P w K mg base "need_fraction" ["value"] m_need_fraction 4) (M_Dial_show : MethS P w K mg base "Dial" "show" ["self", "numerator", "denominator"] m_Dial_show 3) (P_Dial_fraction : PropS P w K mg base "Dial" "fraction" ["self"] m_Dial_fraction 1) (c_Dial : Cls K (He.ga K "Dial")) : FunS P w K mg base (He.ma K (He.ga K "Dial") "add") ["self", "other"] m_Dial_add 5 := by
  have nd := sc_Dial_add.nd
  refine funS_of (x := "add") (qual := "Dial" ++ "." ++ "add") (st := st_Dial_add) (N := ["self", "other", "one", "two", "store!"]) (ps := ["self", "other"]) (k := 4) (n := 4) (y := "store!") (body := b_Dial_add) D sc_Dial_add rfl (by decide) rfl nv_Dial_add (fun _ _ _ _ _ _ us hl => match us, hl with | [_, _], _ => rfl) ?_
  intro f cdv A outer s H E hr hq tk po
  exact ds_cons (ds_par2 (i := 2) (j := 3) rfl nd (by decide) (dps_cons (do_fr (de_dv (dv_prop c_Dial P_Dial_fraction hr hq (by decide) (dv_var (pv 0))))) (dps_cons (do_fr (de_hX h_need_fraction tk hr hq (by decide) rfl (da_cons (de_var 1) (da_nil)))) (dps_nil))) (by rfl)) (ds_one (ds_expr (de_dv (dv_meth c_Dial M_Dial_show tk hr hq (by decide) (dv_var (pv 0)) (dva_cons (dv_of (de_add (de_mul (de_ix (u1 hr) (de_var 2) (dk_of (de_int)) (fun _ _ => rfl)) (dk_of (de_ix (u1 hr) (de_var 3) (dk_of (de_int)) (fun _ _ => rfl)))) (dk_of (de_mul (de_ix (u1 hr) (de_var 3) (dk_of (de_int)) (fun _ _ => rfl)) (dk_of (de_ix (u1 hr) (de_var 2) (dk_of (de_int)) (fun _ _ => rfl))))))) (dva_cons (dv_of (de_mul (de_ix (u1 hr) (de_var 2) (dk_of (de_int)) (fun _ _ => rfl)) (dk_of (de_ix (u1 hr) (de_var 3) (dk_of (de_int)) (fun _ _ => rfl))))) (dva_nil)))))))
/-! ### Desk_moved -/
abbrev st_Desk_moved : Stmt := clsAt 3 (top 72)
def b_Desk_moved : Rho → SR := seqS (ifS (tstF (bin eqD (var 1) (cst (.str "add")))) (seqS (exprS (vD (methV "Dial" "add" m_Dial_add (fldV "Desk" "own_dial" (varV 0)) (consV (dV (callX m_read_fraction (consA (var 2) (nilA)))) (nilV))))) (retS (cst (.str "done")))) (skipS)) (seqS (ifS (tstF (bin eqD (var 1) (cst (.str "turn")))) (seqS (exprS (vD (methV "Dial" "turn" m_Dial_turn (fldV "Desk" "own_dial" (varV 0)) (consV (dV (callX m_number_in (consA (var 2) (nilA)))) (nilV))))) (retS (cst (.str "done")))) (skipS)) (seqS (ifS (tstF (bin eqD (var 1) (cst (.str "scale")))) (seqS (exprS (vD (methV "Dial" "scale" m_Dial_scale (fldV "Desk" "own_dial" (varV 0)) (consV (dV (callX m_number_in (consA (var 2) (nilA)))) (nilV))))) (retS (cst (.str "done")))) (skipS)) (retS (cst .non))))
def m_Desk_moved : FnS := runS 3 3 b_Desk_moved
theorem sc_Desk_moved : FnScope ["self", "word", "text", "store!"] ["self", "word", "text"] (defScope st_Desk_moved) := ⟨rfl, rfl, rfl, by decide +kernel, rfl, by decide +kernel, by decide +kernel⟩
theorem nv_Desk_moved : ¬ Vis (defScope st_Desk_moved) "store!" := notVis rfl
theorem p_Desk_moved (D : IsMeth K "Desk" "moved" st_Desk_moved) (h_number_in : HasX P w K mg base "number_in" ["word"] m_number_in 2) (h_read_fraction : HasX P w K mg base "read_fraction" ["string"] m_read_fraction 5) (M_Dial_scale : MethS P w K mg base "Dial" "scale" ["self", "times"] m_Dial_scale 4) (M_Dial_turn : MethS P w K mg base "Dial" "turn" ["self", "many"] m_Dial_turn 4) (M_Dial_add : MethS P w K mg base "Dial" "add" ["self", "other"] m_Dial_add 5) (c_Desk : Cls K (He.ga K "Desk")) (c_Dial : Cls K (He.ga K "Dial")) (na_Desk_own_dial : NoAttr K (He.ga K "Desk") "own_dial") (g_DONE : ∃ t, mg "DONE" = some (.str "done" t)) : FunS P w K mg base (He.ma K (He.ga K "Desk") "moved") ["self", "word", "text"] m_Desk_moved 6 := by
  obtain ⟨_, g_DONE⟩ := g_DONE
  have nd := sc_Desk_moved.nd
  refine funS_of (x := "moved") (qual := "Desk" ++ "." ++ "moved") (st := st_Desk_moved) (N := ["self", "word", "text", "store!"]) (ps := ["self", "word", "text"]) (k := 5) (n := 3) (y := "store!") (body := b_Desk_moved) D sc_Desk_moved rfl (by decide) rfl nv_Desk_moved (fun _ _ _ _ _ _ us hl => match us, hl with | [_, _, _], _ => rfl) ?_
  intro f cdv A outer s H E hr hq tk po
  exact ds_cons (ds_if (dt_cmp (opr_eq (u64 hr)) (opd_eq _) (nomark _) (de_var 1) (dk_of (de_str))) (ds_cons (ds_expr (de_dv (dv_meth c_Dial M_Dial_add tk hr hq (by decide) (dv_fld c_Desk na_Desk_own_dial (dv_var (pv 0))) (dva_cons (dv_of (de_hX h_read_fraction tk hr hq (by decide) rfl (da_cons (de_var 2) (da_nil)))) (dva_nil))))) (ds_one (ds_ret (de_gs rfl g_DONE)))) (ds_nil)) (ds_cons (ds_if (dt_cmp (opr_eq (u64 hr)) (opd_eq _) (nomark _) (de_var 1) (dk_of (de_str))) (ds_cons (ds_expr (de_dv (dv_meth c_Dial M_Dial_turn tk hr hq (by decide) (dv_fld c_Desk na_Desk_own_dial (dv_var (pv 0))) (dva_cons (dv_of (de_hX h_number_in tk hr hq (by decide) rfl (da_cons (de_var 2) (da_nil)))) (dva_nil))))) (ds_one (ds_ret (de_gs rfl g_DONE)))) (ds_nil)) (ds_cons (ds_if (dt_cmp (opr_eq (u64 hr)) (opd_eq _) (nomark _) (de_var 1) (dk_of (de_str))) (ds_cons (ds_expr (de_dv (dv_meth c_Dial M_Dial_scale tk hr hq (by decide) (dv_fld c_Desk na_Desk_own_dial (dv_var (pv 0))) (dva_cons (dv_of (de_hX h_number_in tk hr hq (by decide) rfl (da_cons (de_var 2) (da_nil)))) (dva_nil))))) (ds_one (ds_ret (de_gs rfl g_DONE)))) (ds_nil)) (ds_one (ds_ret (de_non)))))
/-! ### digits_after -/
abbrev st_digits_after : Stmt := top 32
def b_digits_after : Rho → SR := seqS (setOS 4 (lstO (nilA))) (seqS (forS (rngF rngD1 (consA (var 3) (nilA))) (tgN 5) (seqS (appS 4 (bin fdivD (bin mulD (var 1) (pkF 0)) (pkF 2))) (setS 1 (bin modD (bin mulD (var 1) (pkF 0)) (pkF 2))))) (retS (tupD (consA (un tupleD (pkF 4)) (consA (var 1) (nilA))))))
def m_digits_after : Fn := runF 4 6 b_digits_after
theorem sc_digits_after : FnScope ["base", "rest", "denominator", "count", "found", "_"] ["base", "rest", "denominator", "count"] (defScope st_digits_after) := ⟨rfl, rfl, rfl, by decide +kernel, rfl, by decide +kernel, by decide +kernel⟩
theorem p_digits_after (D : IsDef K mg "digits_after" st_digits_after) (n_tuple : mg "tuple" = none) (n_range : mg "range" = none) : Has P w K mg base "digits_after" ["base", "rest", "denominator", "count"] m_digits_after 1 := by
  have nd := sc_digits_after.nd
  refine has0 (N := ["base", "rest", "denominator", "count", "found", "_"]) (ps := ["base", "rest", "denominator", "count"]) (k := 0) (body := b_digits_after) D sc_digits_after (by decide) (fun _ _ _ _ _ _ us hl => match us, hl with | [_, _, _, _], _ => rfl) ?_
  intro f cdv A outer s H E hr hq hc
  exact ds_cons (ds_setO 4 nd (do_lst (da_nil))) (ds_cons (ds_for PassesOwn.never rfl (di_range1 rfl n_range (da_cons (de_var 3) (da_nil))) (dg_name 5 nd) (ds_cons (ds_app 4 (pv 4) (de_fdiv (de_mul (de_var 1) (dk_var 0)) (dk_var 2))) (ds_one (ds_set 1 nd (de_mod (de_mul (de_var 1) (dk_var 0)) (dk_var 2)))))) (ds_one (ds_ret (de_tup (da_cons (de_tuple rfl n_tuple (dk_var 4)) (da_cons (de_var 1) (da_nil)))))))
/-! ### head_size -/
abbrev st_head_size : Stmt := top 27
def b_head_size : Rho → SR := seqS (exprS (callX m_need_base (consA (var 0) (nilA)))) (seqS (parP [3, 4] [frO (callX m_need_denominator (consA (var 1) (nilA))), frO (cst (.int (0 : Nat)))]) (seqS (setS 2 (callF m_common_divisor (consA (var 3) (consA (var 0) (nilA))))) (seqS (whS (tstF (bin gtD (var 2) (cst (.int (1 : Nat))))) (seqS (setS 3 (bin fdivD (var 3) (pkF 2))) (seqS (setS 4 (bin addD (var 4) (cst (.int (1 : Nat))))) (setS 2 (callF m_common_divisor (consA (var 3) (consA (var 0) (nilA))))))) 1000000) (retS (var 4)))))
def m_head_size : Fn := runF 2 5 b_head_size
theorem sc_head_size : FnScope ["base", "denominator", "divisor", "left", "size"] ["base", "denominator"] (defScope st_head_size) := ⟨rfl, rfl, rfl, by decide +kernel, rfl, by decide +kernel, by decide +kernel⟩
theorem p_head_size (D : IsDef K mg "head_size" st_head_size) (h_common_divisor : Has P w K mg base "common_divisor" ["one", "other"] m_common_divisor 1) (h_need_denominator : HasX P w K mg base "need_denominator" ["value"] m_need_denominator 3) (h_need_base : HasX P w K mg base "need_base" ["value"] m_need_base 3) : HasX P w K mg base "head_size" ["base", "denominator"] m_head_size 4 := by
  have nd := sc_head_size.nd
  refine hasX (N := ["base", "denominator", "divisor", "left", "size"]) (ps := ["base", "denominator"]) (k := 3) (body := b_head_size) D sc_head_size (by decide) (fun _ _ _ _ _ _ us hl => match us, hl with | [_, _], _ => rfl) ?_
  intro f cdv A outer s H E hr hq tk po
  exact ds_cons (ds_expr (de_hX h_need_base tk hr hq (by decide) rfl (da_cons (de_var 0) (da_nil)))) (ds_cons (ds_par2 (i := 3) (j := 4) rfl nd (by decide) (dps_cons (do_fr (de_hX h_need_denominator tk hr hq (by decide) rfl (da_cons (de_var 1) (da_nil)))) (dps_cons (do_fr (de_int)) (dps_nil))) (by rfl)) (ds_cons (ds_set 2 nd (de_h h_common_divisor hr hq (by decide) rfl (da_cons (de_var 3) (da_cons (de_var 0) (da_nil))))) (ds_cons (ds_while 1000000 po (dt_cmp (op_gt) (opd_cmp _ _) (nomark _) (de_var 2) (dk_of (de_int))) (ds_cons (ds_set 3 nd (de_fdiv (de_var 3) (dk_var 2))) (ds_cons (ds_set 4 nd (de_add (de_var 4) (dk_of (de_int)))) (ds_one (ds_set 2 nd (de_h h_common_divisor hr hq (by decide) rfl (da_cons (de_var 3) (da_cons (de_var 0) (da_nil))))))))) (ds_one (ds_ret (de_var 4))))))
/-! ### expansion_of -/
abbrev st_expansion_of : Stmt := top 33
def b_expansion_of : Rho → SR := seqS (asgS (tgT [2, 3]) (callF m_digits_after (consA (var 0) (consA (bin ixD (var 1) (cst (.int (0 : Nat)))) (consA (bin ixD (var 1) (cst (.int (1 : Nat)))) (consA (callX m_head_size (consA (var 0) (consA (bin ixD (var 1) (cst (.int (1 : Nat)))) (nilA)))) (nilA))))))) (seqS (asgS (tgT [4, 3]) (callF m_digits_after (consA (var 0) (consA (var 3) (consA (bin ixD (var 1) (cst (.int (1 : Nat)))) (consA (callF m_period_of (consA (var 0) (consA (bin ixD (var 1) (cst (.int (1 : Nat)))) (nilA)))) (nilA))))))) (retS (tupD (consA (var 2) (consA (var 4) (nilA))))))
def m_expansion_of : Fn := runF 2 5 b_expansion_of
theorem sc_expansion_of : FnScope ["base", "fraction", "head", "rest", "repetend"] ["base", "fraction"] (defScope st_expansion_of) := ⟨rfl, rfl, rfl, by decide +kernel, rfl, by decide +kernel, by decide +kernel⟩
theorem p_expansion_of (D : IsDef K mg "expansion_of" st_expansion_of) (h_period_of : Has P w K mg base "period_of" ["base", "denominator"] m_period_of 3) (h_digits_after : Has P w K mg base "digits_after" ["base", "rest", "denominator", "count"] m_digits_after 1) (h_head_size : HasX P w K mg base "head_size" ["base", "denominator"] m_head_size 4) : HasX P w K mg base "expansion_of" ["base", "fraction"] m_expansion_of 5 := by
  have nd := sc_expansion_of.nd
  refine hasX (N := ["base", "fraction", "head", "rest", "repetend"]) (ps := ["base", "fraction"]) (k := 4) (body := b_expansion_of) D sc_expansion_of (by decide) (fun _ _ _ _ _ _ us hl => match us, hl with | [_, _], _ => rfl) ?_
  intro f cdv A outer s H E hr hq tk po
  exact ds_cons (ds_asg (de_h h_digits_after hr hq (by decide) rfl (da_cons (de_var 0) (da_cons (de_ix (u1 hr) (de_var 1) (dk_of (de_int)) (fun _ _ => rfl)) (da_cons (de_ix (u1 hr) (de_var 1) (dk_of (de_int)) (fun _ _ => rfl)) (da_cons (de_hX h_head_size tk hr hq (by decide) rfl (da_cons (de_var 0) (da_cons (de_ix (u1 hr) (de_var 1) (dk_of (de_int)) (fun _ _ => rfl)) (da_nil)))) (da_nil)))))) (dg_tup rfl (dgs_cons 2 nd (dgs_cons 3 nd (dgs_nil))))) (ds_cons (ds_asg (de_h h_digits_after hr hq (by decide) rfl (da_cons (de_var 0) (da_cons (de_var 3) (da_cons (de_ix (u1 hr) (de_var 1) (dk_of (de_int)) (fun _ _ => rfl)) (da_cons (de_h h_period_of hr hq (by decide) rfl (da_cons (de_var 0) (da_cons (de_ix (u1 hr) (de_var 1) (dk_of (de_int)) (fun _ _ => rfl)) (da_nil)))) (da_nil)))))) (dg_tup rfl (dgs_cons 4 nd (dgs_cons 3 nd (dgs_nil))))) (ds_one (ds_ret (de_tup (da_cons (de_var 2) (da_cons (de_var 4) (da_nil)))))))
/-! ### expansion -/
abbrev st_expansion : Stmt := top 34
def b_expansion : Rho → SR := retS (callX m_expansion_of (consA (callX m_need_base (consA (var 0) (nilA))) (consA (callX m_need_fraction (consA (var 1) (nilA))) (nilA))))
def m_expansion : Fn := runF 2 2 b_expansion
theorem sc_expansion : FnScope ["base", "fraction"] ["base", "fraction"] (defScope st_expansion) := ⟨rfl, rfl, rfl, by decide +kernel, rfl, by decide +kernel, by decide +kernel⟩
theorem p_expansion (D : IsDef K mg "expansion" st_expansion) (h_need_fraction : HasX P w K mg base "need_fraction" ["value"] m_need_fraction 4) (h_need_base : HasX P w K mg base "need_base" ["value"] m_need_base 3) (h_expansion_of : HasX P w K mg base "expansion_of" ["base", "fraction"] m_expansion_of 5) : HasX P w K mg base "expansion" ["base", "fraction"] m_expansion 6 := by
  have nd := sc_expansion.nd
  refine hasX (N := ["base", "fraction"]) (ps := ["base", "fraction"]) (k := 5) (body := b_expansion) D sc_expansion (by decide) (fun _ _ _ _ _ _ us hl => match us, hl with | [_, _], _ => rfl) ?_
  intro f cdv A outer s H E hr hq tk po
  exact ds_one (ds_ret (de_hX h_expansion_of tk hr hq (by decide) rfl (da_cons (de_hX h_need_base tk hr hq (by decide) rfl (da_cons (de_var 0) (da_nil))) (da_cons (de_hX h_need_fraction tk hr hq (by decide) rfl (da_cons (de_var 1) (da_nil))) (da_nil)))))
/-! ### expansion_text -/
abbrev st_expansion_text : Stmt := top 59
def b_expansion_text : Rho → SR := seqS (asgS (tgT [2, 3]) (callX m_expansion (consA (var 0) (consA (var 1) (nilA))))) (retS (un (joinD " ") (lstD (starA (frzR (lcO (itF (var 2)) (tgN 4) (yesT) (un strD (pkF 4)) [4])) (consA (cst (.str "(")) (starA (frzR (lcO (itF (var 3)) (tgN 4) (yesT) (un strD (pkF 4)) [4])) (consA (cst (.str ")")) (nilA))))))))
def m_expansion_text : Fn := runF 2 5 b_expansion_text
theorem sc_expansion_text : FnScope ["base", "fraction", "head", "repetend", "digit"] ["base", "fraction"] (defScope st_expansion_text) := ⟨rfl, rfl, rfl, by decide +kernel, rfl, by decide +kernel, by decide +kernel⟩
theorem p_expansion_text (D : IsDef K mg "expansion_text" st_expansion_text) (h_expansion : HasX P w K mg base "expansion" ["base", "fraction"] m_expansion 6) (n_str : mg "str" = none) (g_SHUT : ∃ t, mg "SHUT" = some (.str ")" t)) (g_OPEN : ∃ t, mg "OPEN" = some (.str "(" t)) : HasX P w K mg base "expansion_text" ["base", "fraction"] m_expansion_text 7 := by
  obtain ⟨_, g_SHUT⟩ := g_SHUT
  obtain ⟨_, g_OPEN⟩ := g_OPEN
  have nd := sc_expansion_text.nd
  refine hasX (N := ["base", "fraction", "head", "repetend", "digit"]) (ps := ["base", "fraction"]) (k := 6) (body := b_expansion_text) D sc_expansion_text (by decide) (fun _ _ _ _ _ _ us hl => match us, hl with | [_, _], _ => rfl) ?_
  intro f cdv A outer s H E hr hq tk po
  exact ds_cons (ds_asg (de_hX h_expansion tk hr hq (by decide) rfl (da_cons (de_var 0) (da_cons (de_var 1) (da_nil)))) (dg_tup rfl (dgs_cons 2 nd (dgs_cons 3 nd (dgs_nil))))) (ds_one (ds_ret (de_join (dk_of (de_lst (da_star (de_do (do_lc rfl nd (own := [("digit", 4)]) (di_all (de_var 2)) (blkOk_by (by kernel_rfl)) (fun _ _ _ _ _ => dg_name 4 nd) (fun _ _ _ _ _ => dts_nil) (fun _ _ _ _ _ => de_tostr rfl n_str (dk_var 4)) (by decide))) (da_cons (de_gs rfl g_OPEN) (da_star (de_do (do_lc rfl nd (own := [("digit", 4)]) (di_all (de_var 3)) (blkOk_by (by kernel_rfl)) (fun _ _ _ _ _ => dg_name 4 nd) (fun _ _ _ _ _ => dts_nil) (fun _ _ _ _ _ => de_tostr rfl n_str (dk_var 4)) (by decide))) (da_cons (de_gs rfl g_SHUT) (da_nil))))))))))
/-! ### fraction_text -/
abbrev st_fraction_text : Stmt := top 56
def b_fraction_text : Rho → SR := seqS (asgS (tgT [1, 2]) (callX m_need_fraction (consA (var 0) (nilA)))) (retS (joinedF [var 1, cst (.str "/"), var 2] Str.empty))
def m_fraction_text : Fn := runF 1 3 b_fraction_text
theorem sc_fraction_text : FnScope ["fraction", "numerator", "denominator"] ["fraction"] (defScope st_fraction_text) := ⟨rfl, rfl, rfl, by decide +kernel, rfl, by decide +kernel, by decide +kernel⟩
theorem p_fraction_text (D : IsDef K mg "fraction_text" st_fraction_text) (h_need_fraction : HasX P w K mg base "need_fraction" ["value"] m_need_fraction 4) (g_STROKE : ∃ t, mg "STROKE" = some (.str "/" t)) : HasX P w K mg base "fraction_text" ["fraction"] m_fraction_text 5 := by
  obtain ⟨_, g_STROKE⟩ := g_STROKE
  have nd := sc_fraction_text.nd
  refine hasX (N := ["fraction", "numerator", "denominator"]) (ps := ["fraction"]) (k := 4) (body := b_fraction_text) D sc_fraction_text (by decide) (fun _ _ _ _ _ _ us hl => match us, hl with | [_], _ => rfl) ?_
  intro f cdv A outer s H E hr hq tk po
  exact ds_cons (ds_asg (de_hX h_need_fraction tk hr hq (by decide) rfl (da_cons (de_var 0) (da_nil))) (dg_tup rfl (dgs_cons 1 nd (dgs_cons 2 nd (dgs_nil))))) (ds_one (ds_ret (de_joined (.cons (de_var 1) (.cons (de_gs rfl g_STROKE) (.cons (de_var 2) (.nil)))))))
/-! ### Dial___len__ -/
abbrev st_Dial___len__ : Stmt := clsAt 10 (top 40)
def b_Dial___len__ : Rho → SR := retS (un lenD (sl3 (vD (fldV "Dial" "past" (varV 0))) (someP (cst (.int (1 : Nat)))) (noP)))
def m_Dial___len__ : FnS := runS 1 1 b_Dial___len__
theorem sc_Dial___len__ : FnScope ["self", "store!"] ["self"] (defScope st_Dial___len__) := ⟨rfl, rfl, rfl, by decide +kernel, rfl, by decide +kernel, by decide +kernel⟩
theorem nv_Dial___len__ : ¬ Vis (defScope st_Dial___len__) "store!" := notVis rfl
theorem p_Dial___len__ (D : IsMeth K "Dial" "__len__" st_Dial___len__) (c_Dial : Cls K (He.ga K "Dial")) (na_Dial_past : NoAttr K (He.ga K "Dial") "past") (n_len : mg "len" = none) : FunS P w K mg base (He.ma K (He.ga K "Dial") "__len__") ["self"] m_Dial___len__ 1 := by
  have nd := sc_Dial___len__.nd
  refine funS_of (x := "__len__") (qual := "Dial" ++ "." ++ "__len__") (st := st_Dial___len__) (N := ["self", "store!"]) (ps := ["self"]) (k := 0) (n := 1) (y := "store!") (body := b_Dial___len__) D sc_Dial___len__ rfl (by decide) rfl nv_Dial___len__ (fun _ _ _ _ _ _ us hl => match us, hl with | [_], _ => rfl) ?_
  intro f cdv A outer s H E hr hq tk po
  exact ds_one (ds_ret (de_len rfl n_len (dk_of (de_sl (de_dv (dv_fld c_Dial na_Dial_past (dv_var (pv 0)))) (dp_some (de_int)) (dp_none)))))
/-! ### Dial_undo -/
abbrev st_Dial_undo : Stmt := clsAt 9 (top 40)
def b_Dial_undo : Rho → SR := seqS (ifS (orT (notT (truF (callF m_is_integer (consA (var 1) (nilA))))) (tstF (bin ltD (var 1) (cst (.int (1 : Nat)))))) (raiseS "BadNumber" "value" (var 1)) (skipS)) (seqS (ifS (tstF (bin gtD (var 1) (lenV "Dial" m_Dial___len__ (varV 0)))) (raiseS "Nothing" "value" (var 1)) (skipS)) (sFldS "Dial" "past" (varV 0) (dV (sl3 (vD (fldV "Dial" "past" (varV 0))) (noP) (someP (bin subD (bin addD (lenV "Dial" m_Dial___len__ (varV 0)) (cst (.int (1 : Nat)))) (pkF 1)))))))
def m_Dial_undo : FnS := runS 2 2 b_Dial_undo
theorem sc_Dial_undo : FnScope ["self", "many", "store!"] ["self", "many"] (defScope st_Dial_undo) := ⟨rfl, rfl, rfl, by decide +kernel, rfl, by decide +kernel, by decide +kernel⟩
theorem nv_Dial_undo : ¬ Vis (defScope st_Dial_undo) "store!" := notVis rfl
theorem p_Dial_undo (D : ∃ fd, FunD K "undo" ("Dial" ++ "." ++ "undo") (defArgs st_Dial_undo) (defBody st_Dial_undo) (defScope st_Dial_undo) [] [("many", .int (1 : Nat))] (He.ma K (He.ga K "Dial") "undo") fd) (h_is_integer : Has P w K mg base "is_integer" ["value"] m_is_integer 1) (M_Dial___len__ : MethS P w K mg base "Dial" "__len__" ["self"] m_Dial___len__ 1) (c_Dial : Cls K (He.ga K "Dial")) (na_Dial_past : NoAttr K (He.ga K "Dial") "past") (x_Nothing : DWX.OwnX P K mg "Nothing" "value" "LookupError" "LookupError.__new__" "LookupError.__init__" DWX.leB (He.ga K "Nothing") (DWX.initAt K "Nothing")) (x_BadNumber : DWX.OwnX P K mg "BadNumber" "value" "ValueError" "ValueError.__new__" "ValueError.__init__" DWX.veB (He.ga K "BadNumber") (DWX.initAt K "BadNumber")) (n_len : mg "len" = none) : ∃ fd ds, Binds K fd ["self", "many"] ds ∧ Vals [.int (1 : Nat)] ds ∧ FnG P w K mg base (L2.CX P w) 3 (He.ma K (He.ga K "Dial") "undo") fd ["self", "many"] (spS ⟨K, mg⟩ m_Dial_undo) := by
  have nd := sc_Dial_undo.nd
  refine funSD_of (x := "undo") (qual := "Dial" ++ "." ++ "undo") (st := st_Dial_undo) (N := ["self", "many", "store!"]) (ps := ["self", "many"]) (k := 2) (n := 2) (y := "store!") (body := b_Dial_undo) D sc_Dial_undo rfl (by decide) rfl nv_Dial_undo rfl (fun D doc pm an cdv ct us ks hl hk => match us, ks, hl, hk with | [_], [_], _, _ => ⟨_, _, _, _, _, _, rfl, rfl, rfl⟩) ?_
  intro f cdv A outer s H E hr hq tk po
  exact ds_cons (ds_if (dt_w (dw_or (dt_not (dt_tru (dk_of (de_h h_is_integer hr hq (by decide) rfl (da_cons (de_var 1) (da_nil)))))) (dw_or1 (dt_cmp (op_lt) (opd_cmp _ _) (nomark _) (de_var 1) (dk_of (de_int)))))) (ds_one (ds_raise x_BadNumber hr rfl tk rfl (de_var 1))) (ds_nil)) (ds_cons (ds_if (dt_cmp (op_gt) (opd_cmp _ _) (nomark _) (de_var 1) (dk_of (de_lenO M_Dial___len__ hr hq (by decide) rfl n_len (dv_var (pv 0))))) (ds_one (ds_raise x_Nothing hr rfl tk rfl (de_var 1))) (ds_nil)) (ds_one (ds_fldS c_Dial na_Dial_past (dv_var (pv 0)) (dv_of (de_sl (de_dv (dv_fld c_Dial na_Dial_past (dv_var (pv 0)))) (dp_none) (dp_some (de_sub (de_add (de_lenO M_Dial___len__ hr hq (by decide) rfl n_len (dv_var (pv 0))) (dk_of (de_int))) (dk_var 1))))))))
/-! ### Desk_alone -/
abbrev st_Desk_alone : Stmt := clsAt 2 (top 72)
def b_Desk_alone : Rho → SR := seqS (ifS (tstF (bin eqD (var 1) (cst (.str "undo")))) (seqS (ifS (tstF (bin eqD (lenV "Dial" m_Dial___len__ (fldV "Desk" "own_dial" (varV 0))) (cst (.int (0 : Nat))))) (retS (cst (.str "nothing"))) (skipS)) (seqS (exprS (vD (methV "Dial" "undo" m_Dial_undo (fldV "Desk" "own_dial" (varV 0)) (consV (dV (cst (.int (1 : Nat)))) nilV)))) (retS (cst (.str "done"))))) (skipS)) (seqS (ifS (tstF (bin eqD (var 1) (cst (.str "show")))) (retS (callX m_fraction_text (consA (vD (propV "Dial" m_Dial_fraction (fldV "Desk" "own_dial" (varV 0)))) (nilA)))) (skipS)) (seqS (ifS (tstF (bin eqD (var 1) (cst (.str "digits")))) (retS (callX m_expansion_text (consA (vD (propV "Dial" m_Dial_base (fldV "Desk" "own_dial" (varV 0)))) (consA (vD (propV "Dial" m_Dial_fraction (fldV "Desk" "own_dial" (varV 0)))) (nilA))))) (skipS)) (retS (ifE (tstF (bin eqD (var 1) (cst (.str "moves")))) (un strD (lenV "Dial" m_Dial___len__ (fldV "Desk" "own_dial" (varV 0)))) (cst .non)))))
def m_Desk_alone : FnS := runS 2 2 b_Desk_alone
theorem sc_Desk_alone : FnScope ["self", "word", "store!"] ["self", "word"] (defScope st_Desk_alone) := ⟨rfl, rfl, rfl, by decide +kernel, rfl, by decide +kernel, by decide +kernel⟩
theorem nv_Desk_alone : ¬ Vis (defScope st_Desk_alone) "store!" := notVis rfl
theorem p_Desk_alone (D : IsMeth K "Desk" "alone" st_Desk_alone) (h_expansion_text : HasX P w K mg base "expansion_text" ["base", "fraction"] m_expansion_text 7) (h_fraction_text : HasX P w K mg base "fraction_text" ["fraction"] m_fraction_text 5) (M_Dial___len__ : MethS P w K mg base "Dial" "__len__" ["self"] m_Dial___len__ 1) (P_Dial_fraction : PropS P w K mg base "Dial" "fraction" ["self"] m_Dial_fraction 1) (P_Dial_base : PropS P w K mg base "Dial" "base" ["self"] m_Dial_base 1) (MD_Dial_undo : MethSD P w K mg base "Dial" "undo" ["self", "many"] (.int (1 : Nat)) (.int (1 : Nat)) m_Dial_undo 3) (c_Desk : Cls K (He.ga K "Desk")) (c_Dial : Cls K (He.ga K "Dial")) (na_Desk_own_dial : NoAttr K (He.ga K "Desk") "own_dial") (n_len : mg "len" = none) (n_str : mg "str" = none) (g_DONE : ∃ t, mg "DONE" = some (.str "done" t)) (g_NOTHING : ∃ t, mg "NOTHING" = some (.str "nothing" t)) : FunS P w K mg base (He.ma K (He.ga K "Desk") "alone") ["self", "word"] m_Desk_alone 8 := by
  obtain ⟨_, g_DONE⟩ := g_DONE
  obtain ⟨_, g_NOTHING⟩ := g_NOTHING
  have nd := sc_Desk_alone.nd
  refine funS_of (x := "alone") (qual := "Desk" ++ "." ++ "alone") (st := st_Desk_alone) (N := ["self", "word", "store!"]) (ps := ["self", "word"]) (k := 7) (n := 2) (y := "store!") (body := b_Desk_alone) D sc_Desk_alone rfl (by decide) rfl nv_Desk_alone (fun _ _ _ _ _ _ us hl => match us, hl with | [_, _], _ => rfl) ?_
  intro f cdv A outer s H E hr hq tk po
  exact ds_cons (ds_if (dt_cmp (opr_eq (u64 hr)) (opd_eq _) (nomark _) (de_var 1) (dk_of (de_str))) (ds_cons (ds_if (dt_cmp (opr_eq (u64 hr)) (opd_eq _) (nomark _) (de_lenO M_Dial___len__ hr hq (by decide) rfl n_len (dv_fld c_Desk na_Desk_own_dial (dv_var (pv 0)))) (dk_of (de_int))) (ds_one (ds_ret (de_gs rfl g_NOTHING))) (ds_nil)) (ds_cons (ds_expr (de_dv (dv_methD0 c_Dial MD_Dial_undo tk hr hq (by decide) (dv_fld c_Desk na_Desk_own_dial (dv_var (pv 0)))))) (ds_one (ds_ret (de_gs rfl g_DONE))))) (ds_nil)) (ds_cons (ds_if (dt_cmp (opr_eq (u64 hr)) (opd_eq _) (nomark _) (de_var 1) (dk_of (de_str))) (ds_one (ds_ret (de_hX h_fraction_text tk hr hq (by decide) rfl (da_cons (de_dv (dv_prop c_Dial P_Dial_fraction hr hq (by decide) (dv_fld c_Desk na_Desk_own_dial (dv_var (pv 0))))) (da_nil))))) (ds_nil)) (ds_cons (ds_if (dt_cmp (opr_eq (u64 hr)) (opd_eq _) (nomark _) (de_var 1) (dk_of (de_str))) (ds_one (ds_ret (de_hX h_expansion_text tk hr hq (by decide) rfl (da_cons (de_dv (dv_prop c_Dial P_Dial_base hr hq (by decide) (dv_fld c_Desk na_Desk_own_dial (dv_var (pv 0))))) (da_cons (de_dv (dv_prop c_Dial P_Dial_fraction hr hq (by decide) (dv_fld c_Desk na_Desk_own_dial (dv_var (pv 0))))) (da_nil)))))) (ds_nil)) (ds_one (ds_ret (de_if (dt_cmp (opr_eq (u64 hr)) (opd_eq _) (nomark _) (de_var 1) (dk_of (de_str))) (de_tostr rfl n_str (dk_of (de_lenO M_Dial___len__ hr hq (by decide) rfl n_len (dv_fld c_Desk na_Desk_own_dial (dv_var (pv 0)))))) (de_non))))))
/-! ### Desk_answered -/
abbrev st_Desk_answered : Stmt := clsAt 5 (top 72)
def b_Desk_answered : Rho → SR := seqS (ifS (tstF (bin eqD (un lenD (pkF 1)) (cst (.int (1 : Nat))))) (retS (vD (methV "Desk" "alone" m_Desk_alone (varV 0) (consV (dV (bin ixD (var 1) (cst (.int (0 : Nat))))) (nilV))))) (skipS)) (seqS (ifS (tstF (bin eqD (un lenD (pkF 1)) (cst (.int (2 : Nat))))) (seqS (setS 2 (vD (methV "Desk" "moved" m_Desk_moved (varV 0) (consV (dV (bin ixD (var 1) (cst (.int (0 : Nat))))) (consV (dV (bin ixD (var 1) (cst (.int (1 : Nat))))) (nilV)))))) (retS (ifE (tstF (bin notND (var 2) (cst .non))) (var 2) (vD (methV "Desk" "asked" m_Desk_asked (varV 0) (consV (dV (bin ixD (var 1) (cst (.int (0 : Nat))))) (consV (dV (callX m_number_in (consA (bin ixD (var 1) (cst (.int (1 : Nat)))) (nilA)))) (nilV)))))))) (skipS)) (seqS (ifS (andT (tstF (bin eqD (un lenD (pkF 1)) (cst (.int (3 : Nat))))) (tstF (bin eqD (bin ixD (var 1) (cst (.int (0 : Nat)))) (cst (.str "balanced"))))) (seqS (setS 3 (callX m_is_balanced (consA (vD (propV "Dial" m_Dial_base (fldV "Desk" "own_dial" (varV 0)))) (consA (callX m_number_in (consA (bin ixD (var 1) (cst (.int (1 : Nat)))) (nilA))) (consA (callX m_number_in (consA (bin ixD (var 1) (cst (.int (2 : Nat)))) (nilA))) (nilA)))))) (retS (ifE (truF (pkF 3)) (cst (.str "yes")) (cst (.str "not"))))) (skipS)) (retS (cst .non))))
def m_Desk_answered : FnS := runS 2 4 b_Desk_answered
theorem sc_Desk_answered : FnScope ["self", "words", "found", "held", "store!"] ["self", "words"] (defScope st_Desk_answered) := ⟨rfl, rfl, rfl, by decide +kernel, rfl, by decide +kernel, by decide +kernel⟩
theorem nv_Desk_answered : ¬ Vis (defScope st_Desk_answered) "store!" := notVis rfl
theorem p_Desk_answered (D : IsMeth K "Desk" "answered" st_Desk_answered) (h_number_in : HasX P w K mg base "number_in" ["word"] m_number_in 2) (h_is_balanced : HasX P w K mg base "is_balanced" ["base", "denominator", "cut"] m_is_balanced 6) (M_Desk_asked : MethS P w K mg base "Desk" "asked" ["self", "word", "number"] m_Desk_asked 9) (M_Desk_moved : MethS P w K mg base "Desk" "moved" ["self", "word", "text"] m_Desk_moved 6) (M_Desk_alone : MethS P w K mg base "Desk" "alone" ["self", "word"] m_Desk_alone 8) (P_Dial_base : PropS P w K mg base "Dial" "base" ["self"] m_Dial_base 1) (c_Desk : Cls K (He.ga K "Desk")) (c_Dial : Cls K (He.ga K "Dial")) (na_Desk_own_dial : NoAttr K (He.ga K "Desk") "own_dial") (n_len : mg "len" = none) (g_YES : ∃ t, mg "YES" = some (.str "yes" t)) (g_NOT : ∃ t, mg "NOT" = some (.str "not" t)) : FunS P w K mg base (He.ma K (He.ga K "Desk") "answered") ["self", "words"] m_Desk_answered 10 := by
  obtain ⟨_, g_YES⟩ := g_YES
  obtain ⟨_, g_NOT⟩ := g_NOT
  have nd := sc_Desk_answered.nd
  refine funS_of (x := "answered") (qual := "Desk" ++ "." ++ "answered") (st := st_Desk_answered) (N := ["self", "words", "found", "held", "store!"]) (ps := ["self", "words"]) (k := 9) (n := 4) (y := "store!") (body := b_Desk_answered) D sc_Desk_answered rfl (by decide) rfl nv_Desk_answered (fun _ _ _ _ _ _ us hl => match us, hl with | [_, _], _ => rfl) ?_
  intro f cdv A outer s H E hr hq tk po
  exact ds_cons (ds_if (dt_cmp (opr_eq (u64 hr)) (opd_eq _) (nomark _) (de_len rfl n_len (dk_var 1)) (dk_of (de_int))) (ds_one (ds_ret (de_dv (dv_meth c_Desk M_Desk_alone tk hr hq (by decide) (dv_var (pv 0)) (dva_cons (dv_of (de_ix (u1 hr) (de_var 1) (dk_of (de_int)) (fun _ _ => rfl))) (dva_nil)))))) (ds_nil)) (ds_cons (ds_if (dt_cmp (opr_eq (u64 hr)) (opd_eq _) (nomark _) (de_len rfl n_len (dk_var 1)) (dk_of (de_int))) (ds_cons (ds_set 2 nd (de_dv (dv_meth c_Desk M_Desk_moved tk hr hq (by decide) (dv_var (pv 0)) (dva_cons (dv_of (de_ix (u1 hr) (de_var 1) (dk_of (de_int)) (fun _ _ => rfl))) (dva_cons (dv_of (de_ix (u1 hr) (de_var 1) (dk_of (de_int)) (fun _ _ => rfl))) (dva_nil)))))) (ds_one (ds_ret (de_if (dt_cmp (op_notN) (opd_notN _) (nomark _) (de_var 2) (dk_of (de_non))) (de_var 2) (de_dv (dv_meth c_Desk M_Desk_asked tk hr hq (by decide) (dv_var (pv 0)) (dva_cons (dv_of (de_ix (u1 hr) (de_var 1) (dk_of (de_int)) (fun _ _ => rfl))) (dva_cons (dv_of (de_hX h_number_in tk hr hq (by decide) rfl (da_cons (de_ix (u1 hr) (de_var 1) (dk_of (de_int)) (fun _ _ => rfl)) (da_nil)))) (dva_nil))))))))) (ds_nil)) (ds_cons (ds_if (dt_w (dw_and (dt_cmp (opr_eq (u64 hr)) (opd_eq _) (nomark _) (de_len rfl n_len (dk_var 1)) (dk_of (de_int))) (dw_and1 (dt_cmp (opr_eq (u64 hr)) (opd_eq _) (nomark _) (de_ix (u1 hr) (de_var 1) (dk_of (de_int)) (fun _ _ => rfl)) (dk_of (de_str)))))) (ds_cons (ds_set 3 nd (de_hX h_is_balanced tk hr hq (by decide) rfl (da_cons (de_dv (dv_prop c_Dial P_Dial_base hr hq (by decide) (dv_fld c_Desk na_Desk_own_dial (dv_var (pv 0))))) (da_cons (de_hX h_number_in tk hr hq (by decide) rfl (da_cons (de_ix (u1 hr) (de_var 1) (dk_of (de_int)) (fun _ _ => rfl)) (da_nil))) (da_cons (de_hX h_number_in tk hr hq (by decide) rfl (da_cons (de_ix (u1 hr) (de_var 1) (dk_of (de_int)) (fun _ _ => rfl)) (da_nil))) (da_nil)))))) (ds_one (ds_ret (de_if (dt_tru (dk_var 3)) (de_gs rfl g_YES) (de_gs rfl g_NOT))))) (ds_nil)) (ds_one (ds_ret (de_non)))))
/-! ### Desk_say -/
abbrev st_Desk_say : Stmt := clsAt 6 (top 72)
def b_Desk_say : Rho → SR := seqS (ifS (notT (truF (un (isiD .str) (pkF 1)))) (raiseS "BadText" "place" (cst .non)) (skipS)) (seqS (tryT (setS 2 (vD (methV "Desk" "answered" m_Desk_answered (varV 0) (consV (dV (un (splitD " ") (var 1))) (nilV))))) (ctL ["BadBase", "BadDenominator", "BadFraction", "BadNumber", "BadText", "TooGreat", "Nothing"]) (retS (cst (.str "no")))) (retS (ifE (tstF (bin isND (var 2) (cst .non))) (cst (.str "no")) (var 2))))
def m_Desk_say : FnS := runS 2 3 b_Desk_say
theorem sc_Desk_say : FnScope ["self", "line", "found", "store!"] ["self", "line"] (defScope st_Desk_say) := ⟨rfl, rfl, rfl, by decide +kernel, rfl, by decide +kernel, by decide +kernel⟩
theorem nv_Desk_say : ¬ Vis (defScope st_Desk_say) "store!" := notVis rfl
theorem p_Desk_say (D : IsMeth K "Desk" "say" st_Desk_say) (M_Desk_answered : MethS P w K mg base "Desk" "answered" ["self", "words"] m_Desk_answered 10) (c_Desk : Cls K (He.ga K "Desk")) (x_BadText : DWX.OwnX P K mg "BadText" "place" "ValueError" "ValueError.__new__" "ValueError.__init__" DWX.veB (He.ga K "BadText") (DWX.initAt K "BadText")) (c_WheelError : mg "WheelError" = some (.ref (He.ga K "WheelError"))) (c_TooGreat : mg "TooGreat" = some (.ref (He.ga K "TooGreat"))) (c_Nothing : mg "Nothing" = some (.ref (He.ga K "Nothing"))) (ctd : CtOk ⟨K, mg⟩ (ctL ["BadBase", "BadDenominator", "BadFraction", "BadNumber", "BadText", "TooGreat", "Nothing"]) [He.ga K "WheelError", He.ga K "TooGreat", He.ga K "Nothing"]) (n_isinstance : mg "isinstance" = none) (n_str : mg "str" = none) (g_NO : ∃ t, mg "NO" = some (.str "no" t)) : FunS P w K mg base (He.ma K (He.ga K "Desk") "say") ["self", "line"] m_Desk_say 11 := by
  obtain ⟨_, g_NO⟩ := g_NO
  have nd := sc_Desk_say.nd
  refine funS_of (x := "say") (qual := "Desk" ++ "." ++ "say") (st := st_Desk_say) (N := ["self", "line", "found", "store!"]) (ps := ["self", "line"]) (k := 10) (n := 3) (y := "store!") (body := b_Desk_say) D sc_Desk_say rfl (by decide) rfl nv_Desk_say (fun _ _ _ _ _ _ us hl => match us, hl with | [_, _], _ => rfl) ?_
  intro f cdv A outer s H E hr hq tk po
  exact ds_cons (ds_if (dt_not (dt_tru (dk_of (de_isi .str (by decide) rfl n_isinstance rfl n_str (by decide +kernel) (dk_var 1))))) (ds_one (ds_raise x_BadText hr rfl tk rfl (de_non))) (ds_nil)) (ds_cons (ds_tryT ctd rfl rfl rfl c_WheelError rfl c_TooGreat rfl c_Nothing (fun W' pn xe tk' po' => ds_one (ds_set 2 nd (de_dv (dv_meth c_Desk M_Desk_answered tk' hr hq (by decide) (dv_var (pv 0)) (dva_cons (dv_of (de_split (by decide) (de_var 1))) (dva_nil)))))) (fun a oe pn => ds_one (ds_ret (de_gs rfl g_NO)))) (ds_one (ds_ret (de_if (dt_cmp (op_isN) (opd_isN _) (nomark _) (de_var 2) (dk_of (de_non))) (de_gs rfl g_NO) (de_var 2)))))
/-! ### Dial___eq__ -/
abbrev st_Dial___eq__ : Stmt := clsAt 13 (top 40)
def b_Dial___eq__ : Rho → SR := seqS (ifS (notT (truF (isOV "Dial" (varV 1)))) (retS (cst (.bl false))) (skipS)) (retS (andV (bin eqD (vD (fldV "Dial" "own_base" (varV 0))) (vD (fldV "Dial" "own_base" (varV 1)))) (bin eqD (vD (propV "Dial" m_Dial_fraction (varV 0))) (vD (propV "Dial" m_Dial_fraction (varV 1))))))
def m_Dial___eq__ : FnS := runS 2 2 b_Dial___eq__
theorem sc_Dial___eq__ : FnScope ["self", "other", "store!"] ["self", "other"] (defScope st_Dial___eq__) := ⟨rfl, rfl, rfl, by decide +kernel, rfl, by decide +kernel, by decide +kernel⟩
theorem nv_Dial___eq__ : ¬ Vis (defScope st_Dial___eq__) "store!" := notVis rfl
theorem p_Dial___eq__ (D : IsMeth K "Dial" "__eq__" st_Dial___eq__) (P_Dial_fraction : PropS P w K mg base "Dial" "fraction" ["self"] m_Dial_fraction 1) (c_Dial : Cls K (He.ga K "Dial")) (na_Dial_own_base : NoAttr K (He.ga K "Dial") "own_base") (ic_Dial : C8.InsC K (He.ga K "Dial")) (gc_Dial : mg "Dial" = some (.ref (He.ga K "Dial"))) (n_isinstance : mg "isinstance" = none) : FunS P w K mg base (He.ma K (He.ga K "Dial") "__eq__") ["self", "other"] m_Dial___eq__ 3 := by
  have nd := sc_Dial___eq__.nd
  refine funS_of (x := "__eq__") (qual := "Dial" ++ "." ++ "__eq__") (st := st_Dial___eq__) (N := ["self", "other", "store!"]) (ps := ["self", "other"]) (k := 2) (n := 2) (y := "store!") (body := b_Dial___eq__) D sc_Dial___eq__ rfl (by decide) rfl nv_Dial___eq__ (fun _ _ _ _ _ _ us hl => match us, hl with | [_, _], _ => rfl) ?_
  intro f cdv A outer s H E hr hq tk po
  exact ds_cons (ds_if (dt_not (dt_tru (dk_of (de_isO ic_Dial rfl n_isinstance rfl gc_Dial (dv_var (pv 1)))))) (ds_one (ds_ret (de_bl))) (ds_nil)) (ds_one (ds_ret (de_and (de_cmp (opr_eq (u64 hr)) (opd_eq _) (nomark _) (de_dv (dv_fld c_Dial na_Dial_own_base (dv_var (pv 0)))) (dk_of (de_dv (dv_fld c_Dial na_Dial_own_base (dv_var (pv 1)))))) (de_one (de_cmp (opr_eq (u64 hr)) (opd_eq _) (nomark _) (de_dv (dv_prop c_Dial P_Dial_fraction hr hq (by decide) (dv_var (pv 0)))) (dk_of (de_dv (dv_prop c_Dial P_Dial_fraction hr hq (by decide) (dv_var (pv 1))))))))))
/-! ### Desk_dial -/
abbrev st_Desk_dial : Stmt := clsAt 1 (top 72)
def b_Desk_dial : Rho → SR := retOS (vO (fldV "Desk" "own_dial" (varV 0)))
def m_Desk_dial : FnS := runS 1 1 b_Desk_dial
theorem sc_Desk_dial : FnScope ["self", "store!"] ["self"] (defScope st_Desk_dial) := ⟨rfl, rfl, rfl, by decide +kernel, rfl, by decide +kernel, by decide +kernel⟩
theorem nv_Desk_dial : ¬ Vis (defScope st_Desk_dial) "store!" := notVis rfl
theorem p_Desk_dial (D : IsGet K "Desk" "dial" st_Desk_dial) (c_Desk : Cls K (He.ga K "Desk")) (na_Desk_own_dial : NoAttr K (He.ga K "Desk") "own_dial") : FunS P w K mg base (gtA K "Desk" "dial") ["self"] m_Desk_dial 1 := by
  have nd := sc_Desk_dial.nd
  refine funS_of (x := "dial") (qual := "Desk" ++ "." ++ "dial") (st := st_Desk_dial) (N := ["self", "store!"]) (ps := ["self"]) (k := 0) (n := 1) (y := "store!") (body := b_Desk_dial) D sc_Desk_dial rfl (by decide) rfl nv_Desk_dial (fun _ _ _ _ _ _ us hl => match us, hl with | [_], _ => rfl) ?_
  intro f cdv A outer s H E hr hq tk po
  exact ds_one (ds_retO (do_dv (dv_fld c_Desk na_Desk_own_dial (dv_var (pv 0)))))
/-! ### Dial___init__ -/
abbrev st_Dial___init__ : Stmt := clsAt 0 (top 40)
def b_Dial___init__ : Rho → SR := seqS (sFldS "Dial" "own_base" (varV 0) (dV (callX m_need_base (consA (var 1) (nilA))))) (sFldS "Dial" "past" (varV 0) (dV (tupD (consA (callX m_need_fraction (consA (var 2) (nilA))) (nilA)))))
def m_Dial___init__ : FnS := runS 3 3 b_Dial___init__
theorem sc_Dial___init__ : FnScope ["self", "base", "fraction", "store!"] ["self", "base", "fraction"] (defScope st_Dial___init__) := ⟨rfl, rfl, rfl, by decide +kernel, rfl, by decide +kernel, by decide +kernel⟩
theorem nv_Dial___init__ : ¬ Vis (defScope st_Dial___init__) "store!" := notVis rfl
theorem p_Dial___init__ (D : IsMeth K "Dial" "__init__" st_Dial___init__) (h_need_fraction : HasX P w K mg base "need_fraction" ["value"] m_need_fraction 4) (h_need_base : HasX P w K mg base "need_base" ["value"] m_need_base 3) (c_Dial : Cls K (He.ga K "Dial")) (na_Dial_past : NoAttr K (He.ga K "Dial") "past") (na_Dial_own_base : NoAttr K (He.ga K "Dial") "own_base") : FunS P w K mg base (He.ma K (He.ga K "Dial") "__init__") ["self", "base", "fraction"] m_Dial___init__ 5 := by
  have nd := sc_Dial___init__.nd
  refine funS_of (x := "__init__") (qual := "Dial" ++ "." ++ "__init__") (st := st_Dial___init__) (N := ["self", "base", "fraction", "store!"]) (ps := ["self", "base", "fraction"]) (k := 4) (n := 3) (y := "store!") (body := b_Dial___init__) D sc_Dial___init__ rfl (by decide) rfl nv_Dial___init__ (fun _ _ _ _ _ _ us hl => match us, hl with | [_, _, _], _ => rfl) ?_
  intro f cdv A outer s H E hr hq tk po
  exact ds_cons (ds_fldS c_Dial na_Dial_own_base (dv_var (pv 0)) (dv_of (de_hX h_need_base tk hr hq (by decide) rfl (da_cons (de_var 1) (da_nil))))) (ds_one (ds_fldS c_Dial na_Dial_past (dv_var (pv 0)) (dv_of (de_tup (da_cons (de_hX h_need_fraction tk hr hq (by decide) rfl (da_cons (de_var 2) (da_nil))) (da_nil))))))
/-! ### Desk___init__ -/
abbrev st_Desk___init__ : Stmt := clsAt 0 (top 72)
def b_Desk___init__ : Rho → SR := sFldS "Desk" "own_dial" (varV 0) (mkV "Dial" m_Dial___init__ (consV (dV (var 1)) (consV (dV (tupD (consA (cst (.int (0 : Nat))) (consA (cst (.int (1 : Nat))) (nilA))))) (nilV))))
def m_Desk___init__ : FnS := runS 2 2 b_Desk___init__
theorem sc_Desk___init__ : FnScope ["self", "base", "store!"] ["self", "base"] (defScope st_Desk___init__) := ⟨rfl, rfl, rfl, by decide +kernel, rfl, by decide +kernel, by decide +kernel⟩
theorem nv_Desk___init__ : ¬ Vis (defScope st_Desk___init__) "store!" := notVis rfl
theorem p_Desk___init__ (D : IsMeth K "Desk" "__init__" st_Desk___init__) (mk_Dial : MkS P w K mg base "Dial" ["self", "base", "fraction"] m_Dial___init__ 5) (c_Desk : Cls K (He.ga K "Desk")) (na_Desk_own_dial : NoAttr K (He.ga K "Desk") "own_dial") : FunS P w K mg base (He.ma K (He.ga K "Desk") "__init__") ["self", "base"] m_Desk___init__ 7 := by
  have nd := sc_Desk___init__.nd
  refine funS_of (x := "__init__") (qual := "Desk" ++ "." ++ "__init__") (st := st_Desk___init__) (N := ["self", "base", "store!"]) (ps := ["self", "base"]) (k := 6) (n := 2) (y := "store!") (body := b_Desk___init__) D sc_Desk___init__ rfl (by decide) rfl nv_Desk___init__ (fun _ _ _ _ _ _ us hl => match us, hl with | [_, _], _ => rfl) ?_
  intro f cdv A outer s H E hr hq tk po
  exact ds_one (ds_fldS c_Desk na_Desk_own_dial (dv_var (pv 0)) (dv_mk mk_Dial tk hr hq (by decide) rfl (dva_cons (dv_of (de_var 1)) (dva_cons (dv_of (de_tup (da_cons (de_int) (da_cons (de_int) (da_nil))))) (dva_nil)))))
/-! ### _law_dial_right -/
abbrev st__law_dial_right : Stmt := top 78
def b__law_dial_right : Rho → SR := seqS (setOS 0 (vO (mkV "Desk" m_Desk___init__ (consV (dV (cst (.int (2 : Nat)))) (nilV))))) (seqS (setOS 1 (vO (propV "Desk" m_Desk_dial (varV 0)))) (seqS (exprS (vD (methV "Dial" "add" m_Dial_add (varV 1) (consV (dV (tupD (consA (cst (.int (1 : Nat))) (consA (cst (.int (3 : Nat))) (nilA))))) (nilV))))) (seqS (setS 2 (lstD (consA (vD (methV "Desk" "say" m_Desk_say (varV 0) (consV (dV (cst (.str "digits"))) (nilV)))) (consA (vD (methV "Desk" "say" m_Desk_say (varV 0) (consV (dV (cst (.str "turn 1"))) (nilV)))) (consA (vD (propV "Dial" m_Dial_fraction (varV 1))) (consA (vD (propV "Dial" m_Dial_base (varV 1))) (consA (lenV "Dial" m_Dial___len__ (varV 1)) (consA (eqOV "Dial" m_Dial___eq__ (propV "Desk" m_Desk_dial (varV 0)) (varV 1)) (nilA))))))))) (seqS (ifS (orT (tstF (bin neD (var 2) (lstD (consA (cst (.str "( 0 1 )")) (consA (cst (.str "done")) (consA (tupD (consA (cst (.int (2 : Nat))) (consA (cst (.int (3 : Nat))) (nilA)))) (consA (cst (.int (2 : Nat))) (consA (cst (.int (2 : Nat))) (consA (cst (.bl true)) (nilA)))))))))) (tstF (bin notND (vD (methV "Dial" "undo" m_Dial_undo (varV 1) (consV (dV (cst (.int (1 : Nat)))) nilV))) (cst .non)))) (retS (cst (.bl false))) (skipS)) (retS (bin eqD (lstD (consA (vD (methV "Desk" "say" m_Desk_say (varV 0) (consV (dV (cst (.str "show"))) (nilV)))) (consA (vD (methV "Desk" "say" m_Desk_say (varV 0) (consV (dV (cst (.str "undo"))) (nilV)))) (consA (vD (methV "Desk" "say" m_Desk_say (varV 0) (consV (dV (cst (.str "undo"))) (nilV)))) (consA (vD (propV "Dial" m_Dial_fraction (varV 1))) (nilA)))))) (lstD (consA (cst (.str "1/3")) (consA (cst (.str "done")) (consA (cst (.str "nothing")) (consA (tupD (consA (cst (.int (0 : Nat))) (consA (cst (.int (1 : Nat))) (nilA)))) (nilA))))))))))))
def m__law_dial_right : FnS := runS 0 3 b__law_dial_right
theorem sc__law_dial_right : FnScope ["live", "inner", "told", "store!"] [] (defScope st__law_dial_right) := ⟨rfl, rfl, rfl, by decide +kernel, rfl, by decide +kernel, by decide +kernel⟩
theorem nv__law_dial_right : ¬ Vis (defScope st__law_dial_right) "store!" := notVis rfl
theorem p__law_dial_right (D : IsDef K mg "_law_dial_right" st__law_dial_right) (M_Desk_say : MethS P w K mg base "Desk" "say" ["self", "line"] m_Desk_say 11) (M_Dial___eq__ : MethS P w K mg base "Dial" "__eq__" ["self", "other"] m_Dial___eq__ 3) (M_Dial___len__ : MethS P w K mg base "Dial" "__len__" ["self"] m_Dial___len__ 1) (M_Dial_add : MethS P w K mg base "Dial" "add" ["self", "other"] m_Dial_add 5) (P_Dial_fraction : PropS P w K mg base "Dial" "fraction" ["self"] m_Dial_fraction 1) (P_Desk_dial : PropS P w K mg base "Desk" "dial" ["self"] m_Desk_dial 1) (P_Dial_base : PropS P w K mg base "Dial" "base" ["self"] m_Dial_base 1) (MD_Dial_undo : MethSD P w K mg base "Dial" "undo" ["self", "many"] (.int (1 : Nat)) (.int (1 : Nat)) m_Dial_undo 3) (mk_Desk : MkS P w K mg base "Desk" ["self", "base"] m_Desk___init__ 7) (c_Dial : Cls K (He.ga K "Dial")) (c_Desk : Cls K (He.ga K "Desk")) (n_len : mg "len" = none) : HasS P w K mg base "_law_dial_right" [] m__law_dial_right 12 := by
  have nd := sc__law_dial_right.nd
  refine hasS (N := ["live", "inner", "told", "store!"]) (ps := []) (k := 11) (n := 3) (y := "store!") (body := b__law_dial_right) D sc__law_dial_right rfl (by decide) rfl nv__law_dial_right (fun _ _ _ _ _ _ us hl => match us, hl with | [], _ => rfl) ?_
  intro f cdv A outer s H E hr hq hc tk po
  exact ds_cons (ds_setO 0 nd (do_dv (dv_mk mk_Desk tk hr hq (by decide) rfl (dva_cons (dv_of (de_int)) (dva_nil))))) (ds_cons (ds_setO 1 nd (do_dv (dv_prop c_Desk P_Desk_dial hr hq (by decide) (dv_var (pv 0))))) (ds_cons (ds_expr (de_dv (dv_meth c_Dial M_Dial_add tk hr hq (by decide) (dv_var (pv 1)) (dva_cons (dv_of (de_tup (da_cons (de_int) (da_cons (de_int) (da_nil))))) (dva_nil))))) (ds_cons (ds_set 2 nd (de_lst (da_cons (de_dv (dv_meth c_Desk M_Desk_say tk hr hq (by decide) (dv_var (pv 0)) (dva_cons (dv_of (de_str)) (dva_nil)))) (da_cons (de_dv (dv_meth c_Desk M_Desk_say tk hr hq (by decide) (dv_var (pv 0)) (dva_cons (dv_of (de_str)) (dva_nil)))) (da_cons (de_dv (dv_prop c_Dial P_Dial_fraction hr hq (by decide) (dv_var (pv 1)))) (da_cons (de_dv (dv_prop c_Dial P_Dial_base hr hq (by decide) (dv_var (pv 1)))) (da_cons (de_lenO M_Dial___len__ hr hq (by decide) rfl n_len (dv_var (pv 1))) (da_cons (de_eqO M_Dial___eq__ hr hq (by decide) (dv_prop c_Desk P_Desk_dial hr hq (by decide) (dv_var (pv 0))) (dv_var (pv 1))) (da_nil))))))))) (ds_cons (ds_if (dt_w (dw_or (dt_cmp (opr_ne (u64 hr)) (opd_ne _) (nomark _) (de_var 2) (dk_of (de_lst (da_cons (de_str) (da_cons (de_str) (da_cons (de_tup (da_cons (de_int) (da_cons (de_int) (da_nil)))) (da_cons (de_int) (da_cons (de_int) (da_cons (de_bl) (da_nil)))))))))) (dw_or1 (dt_cmp (op_notN) (opd_notN _) (nomark _) (de_dv (dv_methD0 c_Dial MD_Dial_undo tk hr hq (by decide) (dv_var (pv 1)))) (dk_of (de_non)))))) (ds_one (ds_ret (de_bl))) (ds_nil)) (ds_one (ds_ret (de_cmp (opr_eq (u64 hr)) (opd_eq _) (nomark _) (de_lst (da_cons (de_dv (dv_meth c_Desk M_Desk_say tk hr hq (by decide) (dv_var (pv 0)) (dva_cons (dv_of (de_str)) (dva_nil)))) (da_cons (de_dv (dv_meth c_Desk M_Desk_say tk hr hq (by decide) (dv_var (pv 0)) (dva_cons (dv_of (de_str)) (dva_nil)))) (da_cons (de_dv (dv_meth c_Desk M_Desk_say tk hr hq (by decide) (dv_var (pv 0)) (dva_cons (dv_of (de_str)) (dva_nil)))) (da_cons (de_dv (dv_prop c_Dial P_Dial_fraction hr hq (by decide) (dv_var (pv 1)))) (da_nil)))))) (dk_of (de_lst (da_cons (de_str) (da_cons (de_str) (da_cons (de_str) (da_cons (de_tup (da_cons (de_int) (da_cons (de_int) (da_nil)))) (da_nil))))))))))))))
/-! ### _law_odd_right -/
abbrev st__law_odd_right : Stmt := top 77
def b__law_odd_right : Rho → SR := seqS (setOS 0 (vO (mkV "Desk" m_Desk___init__ (consV (dV (cst (.int (10 : Nat)))) (nilV))))) (seqS (ifS (orT (tstF (bin neD (vD (methV "Desk" "say" m_Desk_say (varV 0) (consV (dV (cst (.str "add 1/7"))) (nilV)))) (cst (.str "done")))) (tstF (bin neD (vD (methV "Desk" "say" m_Desk_say (varV 0) (consV (dV (cst (.str "scale 3"))) (nilV)))) (cst (.str "done"))))) (retS (cst (.bl false))) (skipS)) (seqS (setS 1 (lstD (consA (cst (.str "")) (consA (cst (.str " ")) (consA (cst (.str "show ")) (consA (cst (.str " show")) (consA (cst (.str "show 1")) (consA (cst (.str "Show")) (consA (cst (.str "digits x")) (consA (cst (.str "moves 0")) (consA (cst (.str "undo 1")) (consA (cst (.str "undo ")) (consA (cst (.str "add")) (consA (cst (.str "add 1")) (consA (cst (.str "add 2/4")) (nilA)))))))))))))))) (seqS (setS 1 (bin addD (var 1) (lstD (consA (cst (.str "add 1/7 ")) (consA (cst (.str "add 1/7 1")) (consA (cst (.str "add -1/7")) (consA (cst (.str "add 01/7")) (consA (cst (.str "add 7/7")) (consA (cst (.str "add 1/5001")) (consA (cst (.str "turn")) (consA (cst (.str "turn -1")) (consA (cst (.str "turn 01")) (nilA))))))))))))) (seqS (setS 1 (bin addD (var 1) (lstD (consA (cst (.str "turn 1 1")) (consA (cst (.str "turn x")) (consA (bin addD (cst (.str "turn 1")) (bin mulT (cst (.str "0")) (cst (.int (31 : Nat))))) (consA (bin addD (cst (.str "turn ")) (bin mulT (cst (.str "9")) (cst (.int (41 : Nat))))) (consA (cst (.str "scale")) (consA (cst (.str "scale 1.5")) (consA (cst (.str "scale  2")) (consA (cst (.str "scale 1/2")) (nilA)))))))))))) (seqS (setS 1 (bin addD (var 1) (lstD (consA (cst (.str "period")) (consA (cst (.str "period 0")) (consA (cst (.str "period 5001")) (consA (cst (.str "period 7 1")) (consA (cst (.str "period 1/7")) (consA (cst (.str "cuts")) (consA (cst (.str "cuts 0")) (consA (cst (.str "cuts 10")) (consA (cst (.str "least 10")) (nilA))))))))))))) (seqS (setS 1 (bin addD (var 1) (lstD (consA (cst (.str "wheels 10")) (consA (cst (.str "wheels")) (consA (cst (.str "balanced")) (consA (cst (.str "balanced 7")) (consA (cst (.str "balanced 7 0")) (consA (cst (.str "balanced 7 1")) (consA (cst (.str "balanced 7 2 3")) (nilA))))))))))) (seqS (setS 1 (bin addD (var 1) (lstD (consA (cst (.str "balanced 7 x")) (consA (cst (.str "balanced 10 2")) (consA (cst (.str "Balanced 7 2")) (consA (cst (.str "add 1/4999")) (consA (cst (.str "dial")) (consA (cst (.str "say")) (consA (cst (.str "(")) (consA (cst (.str "( 1 )")) (consA (cst (.str "1/7")) (consA (cst (.str "no")) (nilA)))))))))))))) (seqS (setS 1 (bin addD (var 1) (lstD (consA (cst (.str "show\n")) (consA (cst (.str "\nshow")) (consA (cst (.str "undo\n")) (consA (cst (.str "\nundo")) (consA (cst (.str "turn 1\n")) (consA (cst (.str "scale 2\n")) (nilA)))))))))) (seqS (forS (itF (var 1)) (tgN 2) (seqS (setS 3 (lstD (consA (vD (methV "Desk" "say" m_Desk_say (varV 0) (consV (dV (var 2)) (nilV)))) (consA (vD (methV "Desk" "say" m_Desk_say (varV 0) (consV (dV (cst (.str "show"))) (nilV)))) (consA (vD (methV "Desk" "say" m_Desk_say (varV 0) (consV (dV (cst (.str "moves"))) (nilV)))) (nilA)))))) (ifS (tstF (bin neD (var 3) (lstD (consA (cst (.str "no")) (consA (cst (.str "3/7")) (consA (cst (.str "2")) (nilA))))))) (retS (cst (.bl false))) (skipS)))) (retS (andV (bin eqD (vD (methV "Desk" "say" m_Desk_say (varV 0) (consV (dV (bin addD (cst (.str "turn 1")) (bin mulT (cst (.str "0")) (cst (.int (30 : Nat)))))) (nilV)))) (cst (.str "done"))) (bin eqD (vD (propV "Dial" m_Dial_fraction (propV "Desk" m_Desk_dial (varV 0)))) (tupD (consA (cst (.int (5 : Nat))) (consA (cst (.int (7 : Nat))) (nilA))))))))))))))))
def m__law_odd_right : FnS := runS 0 4 b__law_odd_right
theorem sc__law_odd_right : FnScope ["live", "odds", "odd", "told", "store!"] [] (defScope st__law_odd_right) := ⟨rfl, rfl, rfl, by decide +kernel, rfl, by decide +kernel, by decide +kernel⟩
theorem nv__law_odd_right : ¬ Vis (defScope st__law_odd_right) "store!" := notVis rfl
theorem p__law_odd_right (D : IsDef K mg "_law_odd_right" st__law_odd_right) (M_Desk_say : MethS P w K mg base "Desk" "say" ["self", "line"] m_Desk_say 11) (P_Desk_dial : PropS P w K mg base "Desk" "dial" ["self"] m_Desk_dial 1) (P_Dial_fraction : PropS P w K mg base "Dial" "fraction" ["self"] m_Dial_fraction 1) (mk_Desk : MkS P w K mg base "Desk" ["self", "base"] m_Desk___init__ 7) (c_Desk : Cls K (He.ga K "Desk")) (c_Dial : Cls K (He.ga K "Dial")) : HasS P w K mg base "_law_odd_right" [] m__law_odd_right 12 := by
  have nd := sc__law_odd_right.nd
  refine hasS (N := ["live", "odds", "odd", "told", "store!"]) (ps := []) (k := 11) (n := 4) (y := "store!") (body := b__law_odd_right) D sc__law_odd_right rfl (by decide) rfl nv__law_odd_right (fun _ _ _ _ _ _ us hl => match us, hl with | [], _ => rfl) ?_
  intro f cdv A outer s H E hr hq hc tk po
  exact ds_cons (ds_setO 0 nd (do_dv (dv_mk mk_Desk tk hr hq (by decide) rfl (dva_cons (dv_of (de_int)) (dva_nil))))) (ds_cons (ds_if (dt_w (dw_or (dt_cmp (opr_ne (u64 hr)) (opd_ne _) (nomark _) (de_dv (dv_meth c_Desk M_Desk_say tk hr hq (by decide) (dv_var (pv 0)) (dva_cons (dv_of (de_str)) (dva_nil)))) (dk_of (de_str))) (dw_or1 (dt_cmp (opr_ne (u64 hr)) (opd_ne _) (nomark _) (de_dv (dv_meth c_Desk M_Desk_say tk hr hq (by decide) (dv_var (pv 0)) (dva_cons (dv_of (de_str)) (dva_nil)))) (dk_of (de_str)))))) (ds_one (ds_ret (de_bl))) (ds_nil)) (ds_cons (ds_set 1 nd (de_lst (da_cons (de_str) (da_cons (de_str) (da_cons (de_str) (da_cons (de_str) (da_cons (de_str) (da_cons (de_str) (da_cons (de_str) (da_cons (de_str) (da_cons (de_str) (da_cons (de_str) (da_cons (de_str) (da_cons (de_str) (da_cons (de_str) (da_nil)))))))))))))))) (ds_cons (ds_set 1 nd (de_add (de_var 1) (dk_of (de_lst (da_cons (de_str) (da_cons (de_str) (da_cons (de_str) (da_cons (de_str) (da_cons (de_str) (da_cons (de_str) (da_cons (de_str) (da_cons (de_str) (da_cons (de_str) (da_nil)))))))))))))) (ds_cons (ds_set 1 nd (de_add (de_var 1) (dk_of (de_lst (da_cons (de_str) (da_cons (de_str) (da_cons (de_add (de_str) (dk_of (de_op opr_mulT (opd_mulT _) (de_str) (dk_of (de_int))))) (da_cons (de_add (de_str) (dk_of (de_op opr_mulT (opd_mulT _) (de_str) (dk_of (de_int))))) (da_cons (de_str) (da_cons (de_str) (da_cons (de_str) (da_cons (de_str) (da_nil))))))))))))) (ds_cons (ds_set 1 nd (de_add (de_var 1) (dk_of (de_lst (da_cons (de_str) (da_cons (de_str) (da_cons (de_str) (da_cons (de_str) (da_cons (de_str) (da_cons (de_str) (da_cons (de_str) (da_cons (de_str) (da_cons (de_str) (da_nil)))))))))))))) (ds_cons (ds_set 1 nd (de_add (de_var 1) (dk_of (de_lst (da_cons (de_str) (da_cons (de_str) (da_cons (de_str) (da_cons (de_str) (da_cons (de_str) (da_cons (de_str) (da_cons (de_str) (da_nil)))))))))))) (ds_cons (ds_set 1 nd (de_add (de_var 1) (dk_of (de_lst (da_cons (de_str) (da_cons (de_str) (da_cons (de_str) (da_cons (de_str) (da_cons (de_str) (da_cons (de_str) (da_cons (de_str) (da_cons (de_str) (da_cons (de_str) (da_cons (de_str) (da_nil))))))))))))))) (ds_cons (ds_set 1 nd (de_add (de_var 1) (dk_of (de_lst (da_cons (de_str) (da_cons (de_str) (da_cons (de_str) (da_cons (de_str) (da_cons (de_str) (da_cons (de_str) (da_nil))))))))))) (ds_cons (ds_for po rfl (di_all (de_var 1)) (dg_name 2 nd) (ds_cons (ds_set 3 nd (de_lst (da_cons (de_dv (dv_meth c_Desk M_Desk_say tk hr hq (by decide) (dv_var (pv 0)) (dva_cons (dv_of (de_var 2)) (dva_nil)))) (da_cons (de_dv (dv_meth c_Desk M_Desk_say tk hr hq (by decide) (dv_var (pv 0)) (dva_cons (dv_of (de_str)) (dva_nil)))) (da_cons (de_dv (dv_meth c_Desk M_Desk_say tk hr hq (by decide) (dv_var (pv 0)) (dva_cons (dv_of (de_str)) (dva_nil)))) (da_nil)))))) (ds_one (ds_if (dt_cmp (opr_ne (u64 hr)) (opd_ne _) (nomark _) (de_var 3) (dk_of (de_lst (da_cons (de_str) (da_cons (de_str) (da_cons (de_str) (da_nil))))))) (ds_one (ds_ret (de_bl))) (ds_nil))))) (ds_one (ds_ret (de_and (de_cmp (opr_eq (u64 hr)) (opd_eq _) (nomark _) (de_dv (dv_meth c_Desk M_Desk_say tk hr hq (by decide) (dv_var (pv 0)) (dva_cons (dv_of (de_add (de_str) (dk_of (de_op opr_mulT (opd_mulT _) (de_str) (dk_of (de_int)))))) (dva_nil)))) (dk_of (de_str))) (de_one (de_cmp (opr_eq (u64 hr)) (opd_eq _) (nomark _) (de_dv (dv_prop c_Dial P_Dial_fraction hr hq (by decide) (dv_prop c_Desk P_Desk_dial hr hq (by decide) (dv_var (pv 0))))) (dk_of (de_tup (da_cons (de_int) (da_cons (de_int) (da_nil)))))))))))))))))))
/-! ### _law_first_right -/
abbrev st__law_first_right : Stmt := top 76
def b__law_first_right : Rho → SR := seqS (setOS 0 (vO (mkV "Desk" m_Desk___init__ (consV (dV (cst (.int (10 : Nat)))) (nilV))))) (seqS (setS 1 (lstD (consA (cst (.str "show")) (consA (cst (.str "digits")) (consA (cst (.str "moves")) (consA (cst (.str "undo")) (consA (cst (.str "add 1/7")) (consA (cst (.str "show")) (consA (cst (.str "digits")) (consA (cst (.str "turn 1")) (consA (cst (.str "show")) (consA (cst (.str "turn 6")) (consA (cst (.str "show")) (consA (cst (.str "moves")) (nilA))))))))))))))) (seqS (setS 2 (lstD (consA (cst (.str "0/1")) (consA (cst (.str "( 0 )")) (consA (cst (.str "0")) (consA (cst (.str "nothing")) (consA (cst (.str "done")) (consA (cst (.str "1/7")) (consA (cst (.str "( 1 4 2 8 5 7 )")) (consA (cst (.str "done")) (consA (cst (.str "3/7")) (consA (cst (.str "done")) (consA (cst (.str "3/7")) (consA (cst (.str "3")) (nilA))))))))))))))) (seqS (setS 1 (bin addD (var 1) (lstD (consA (cst (.str "add 1/6")) (consA (cst (.str "digits")) (consA (cst (.str "scale 42")) (consA (cst (.str "show")) (consA (cst (.str "undo")) (consA (cst (.str "show")) (consA (cst (.str "undo")) (consA (cst (.str "undo")) (consA (cst (.str "show")) (consA (cst (.str "moves")) (nilA)))))))))))))) (seqS (setS 2 (bin addD (var 2) (lstD (consA (cst (.str "done")) (consA (cst (.str "5 ( 9 5 2 3 8 0 )")) (consA (cst (.str "done")) (consA (cst (.str "0/1")) (consA (cst (.str "done")) (consA (cst (.str "25/42")) (consA (cst (.str "done")) (consA (cst (.str "done")) (consA (cst (.str "3/7")) (consA (cst (.str "2")) (nilA)))))))))))))) (seqS (setS 1 (bin addD (var 1) (lstD (consA (cst (.str "period 7")) (consA (cst (.str "period 1")) (consA (cst (.str "period 60")) (consA (cst (.str "cuts 7")) (consA (cst (.str "least 7")) (consA (cst (.str "cuts 27")) (consA (cst (.str "cuts 1")) (consA (cst (.str "cuts 6")) (consA (cst (.str "wheels 13")) (nilA))))))))))))) (seqS (setS 2 (bin addD (var 2) (lstD (consA (cst (.str "6")) (consA (cst (.str "1")) (consA (cst (.str "1")) (consA (cst (.str "2 3 6")) (consA (cst (.str "2 3")) (consA (cst (.str "none")) (consA (cst (.str "none")) (consA (cst (.str "no")) (consA (cst (.str "2")) (nilA))))))))))))) (seqS (setS 1 (bin addD (var 1) (lstD (consA (cst (.str "balanced 7 2")) (consA (cst (.str "balanced 21 2")) (consA (cst (.str "balanced 21 3")) (consA (cst (.str "balanced 7 4")) (consA (cst (.str "balanced 6 2")) (consA (cst (.str "balanced 1 2")) (nilA)))))))))) (seqS (setS 2 (bin addD (var 2) (lstD (consA (cst (.str "yes")) (consA (cst (.str "not")) (consA (cst (.str "yes")) (consA (cst (.str "no")) (consA (cst (.str "no")) (consA (cst (.str "no")) (nilA)))))))))) (retS (bin eqD (frzR (lcO (itF (var 1)) (tgN 3) (yesT) (vD (methV "Desk" "say" m_Desk_say (varV 0) (consV (dV (var 3)) (nilV)))) [3])) (pkF 2)))))))))))
def m__law_first_right : FnS := runS 0 4 b__law_first_right
theorem sc__law_first_right : FnScope ["live", "lines", "due", "line", "store!"] [] (defScope st__law_first_right) := ⟨rfl, rfl, rfl, by decide +kernel, rfl, by decide +kernel, by decide +kernel⟩
theorem nv__law_first_right : ¬ Vis (defScope st__law_first_right) "store!" := notVis rfl
theorem p__law_first_right (D : IsDef K mg "_law_first_right" st__law_first_right) (M_Desk_say : MethS P w K mg base "Desk" "say" ["self", "line"] m_Desk_say 11) (mk_Desk : MkS P w K mg base "Desk" ["self", "base"] m_Desk___init__ 7) (c_Desk : Cls K (He.ga K "Desk")) : HasS P w K mg base "_law_first_right" [] m__law_first_right 12 := by
  have nd := sc__law_first_right.nd
  refine hasS (N := ["live", "lines", "due", "line", "store!"]) (ps := []) (k := 11) (n := 4) (y := "store!") (body := b__law_first_right) D sc__law_first_right rfl (by decide) rfl nv__law_first_right (fun _ _ _ _ _ _ us hl => match us, hl with | [], _ => rfl) ?_
  intro f cdv A outer s H E hr hq hc tk po
  exact ds_cons (ds_setO 0 nd (do_dv (dv_mk mk_Desk tk hr hq (by decide) rfl (dva_cons (dv_of (de_int)) (dva_nil))))) (ds_cons (ds_set 1 nd (de_lst (da_cons (de_str) (da_cons (de_str) (da_cons (de_str) (da_cons (de_str) (da_cons (de_str) (da_cons (de_str) (da_cons (de_str) (da_cons (de_str) (da_cons (de_str) (da_cons (de_str) (da_cons (de_str) (da_cons (de_str) (da_nil))))))))))))))) (ds_cons (ds_set 2 nd (de_lst (da_cons (de_str) (da_cons (de_str) (da_cons (de_str) (da_cons (de_str) (da_cons (de_str) (da_cons (de_str) (da_cons (de_str) (da_cons (de_str) (da_cons (de_str) (da_cons (de_str) (da_cons (de_str) (da_cons (de_str) (da_nil))))))))))))))) (ds_cons (ds_set 1 nd (de_add (de_var 1) (dk_of (de_lst (da_cons (de_str) (da_cons (de_str) (da_cons (de_str) (da_cons (de_str) (da_cons (de_str) (da_cons (de_str) (da_cons (de_str) (da_cons (de_str) (da_cons (de_str) (da_cons (de_str) (da_nil))))))))))))))) (ds_cons (ds_set 2 nd (de_add (de_var 2) (dk_of (de_lst (da_cons (de_str) (da_cons (de_str) (da_cons (de_str) (da_cons (de_str) (da_cons (de_str) (da_cons (de_str) (da_cons (de_str) (da_cons (de_str) (da_cons (de_str) (da_cons (de_str) (da_nil))))))))))))))) (ds_cons (ds_set 1 nd (de_add (de_var 1) (dk_of (de_lst (da_cons (de_str) (da_cons (de_str) (da_cons (de_str) (da_cons (de_str) (da_cons (de_str) (da_cons (de_str) (da_cons (de_str) (da_cons (de_str) (da_cons (de_str) (da_nil)))))))))))))) (ds_cons (ds_set 2 nd (de_add (de_var 2) (dk_of (de_lst (da_cons (de_str) (da_cons (de_str) (da_cons (de_str) (da_cons (de_str) (da_cons (de_str) (da_cons (de_str) (da_cons (de_str) (da_cons (de_str) (da_cons (de_str) (da_nil)))))))))))))) (ds_cons (ds_set 1 nd (de_add (de_var 1) (dk_of (de_lst (da_cons (de_str) (da_cons (de_str) (da_cons (de_str) (da_cons (de_str) (da_cons (de_str) (da_cons (de_str) (da_nil))))))))))) (ds_cons (ds_set 2 nd (de_add (de_var 2) (dk_of (de_lst (da_cons (de_str) (da_cons (de_str) (da_cons (de_str) (da_cons (de_str) (da_cons (de_str) (da_cons (de_str) (da_nil))))))))))) (ds_one (ds_ret (de_cmp (opr_eq (u64 hr)) (opd_eq _) (nomark _) (de_do (do_lc rfl nd (own := [("line", 3)]) (di_all (de_var 1)) (blkOk_by (by kernel_rfl)) (fun _ _ _ _ _ => dg_name 3 nd) (fun _ _ _ _ _ => dts_nil) (fun _ _ _ _ _ => de_dv (dv_meth c_Desk M_Desk_say takes0 hr hq (by decide) (dv_var (pv 0)) (dva_cons (dv_of (de_var 3)) (dva_nil)))) (by decide))) (dk_var 2))))))))))))
/-! ### _law_word -/
abbrev st__law_word : Stmt := top 74
def b__law_word : Rho → SR := seqS (setOS 1 (lstO (nilA))) (seqS (ifS (truF (un (isX (mtL [("BadBase", true), ("BadDenominator", false), ("BadFraction", false), ("BadNumber", false), ("BadText", false), ("TooGreat", false), ("Nothing", false)])) (pkF 0))) (appS 1 (tupD (consA (cst (.str "base")) (consA (un (fldX "value" ["BadBase", "BadDenominator", "BadFraction", "BadNumber", "Nothing"]) (pkF 0)) (nilA))))) (skipS)) (seqS (ifS (truF (un (isX (mtL [("BadBase", false), ("BadDenominator", true), ("BadFraction", false), ("BadNumber", false), ("BadText", false), ("TooGreat", false), ("Nothing", false)])) (pkF 0))) (appS 1 (tupD (consA (cst (.str "denominator")) (consA (un (fldX "value" ["BadBase", "BadDenominator", "BadFraction", "BadNumber", "Nothing"]) (pkF 0)) (nilA))))) (skipS)) (seqS (ifS (truF (un (isX (mtL [("BadBase", false), ("BadDenominator", false), ("BadFraction", true), ("BadNumber", false), ("BadText", false), ("TooGreat", false), ("Nothing", false)])) (pkF 0))) (appS 1 (tupD (consA (cst (.str "fraction")) (consA (un (fldX "value" ["BadBase", "BadDenominator", "BadFraction", "BadNumber", "Nothing"]) (pkF 0)) (nilA))))) (skipS)) (seqS (ifS (truF (un (isX (mtL [("BadBase", false), ("BadDenominator", false), ("BadFraction", false), ("BadNumber", false), ("BadText", false), ("TooGreat", false), ("Nothing", false)])) (pkF 0))) (appS 1 (tupD (consA (cst (.str "digits")) (consA (un (fldX "value" ["BadBase", "BadDenominator", "BadFraction", "BadNumber", "Nothing"]) (pkF 0)) (nilA))))) (skipS)) (seqS (ifS (truF (un (isX (mtL [("BadBase", false), ("BadDenominator", false), ("BadFraction", false), ("BadNumber", true), ("BadText", false), ("TooGreat", false), ("Nothing", false)])) (pkF 0))) (appS 1 (tupD (consA (cst (.str "number")) (consA (un (fldX "value" ["BadBase", "BadDenominator", "BadFraction", "BadNumber", "Nothing"]) (pkF 0)) (nilA))))) (skipS)) (seqS (ifS (truF (un (isX (mtL [("BadBase", false), ("BadDenominator", false), ("BadFraction", false), ("BadNumber", false), ("BadText", false), ("TooGreat", false), ("Nothing", false)])) (pkF 0))) (appS 1 (tupD (consA (cst (.str "paper")) (consA (un (fldX "part" []) (pkF 0)) (nilA))))) (skipS)) (seqS (ifS (truF (un (isX (mtL [("BadBase", false), ("BadDenominator", false), ("BadFraction", false), ("BadNumber", false), ("BadText", true), ("TooGreat", false), ("Nothing", false)])) (pkF 0))) (appS 1 (tupD (consA (cst (.str "text")) (consA (un (fldX "place" ["BadText"]) (pkF 0)) (nilA))))) (skipS)) (seqS (ifS (truF (un (isX (mtL [("BadBase", false), ("BadDenominator", false), ("BadFraction", false), ("BadNumber", false), ("BadText", false), ("TooGreat", true), ("Nothing", false)])) (pkF 0))) (appS 1 (tupD (consA (cst (.str "great")) (consA (un (fldX "most" ["TooGreat"]) (pkF 0)) (nilA))))) (skipS)) (seqS (ifS (truF (un (isX (mtL [("BadBase", false), ("BadDenominator", false), ("BadFraction", false), ("BadNumber", false), ("BadText", false), ("TooGreat", false), ("Nothing", true)])) (pkF 0))) (appS 1 (tupD (consA (cst (.str "nothing")) (consA (un (fldX "value" ["BadBase", "BadDenominator", "BadFraction", "BadNumber", "Nothing"]) (pkF 0)) (nilA))))) (skipS)) (retS (ifE (tstF (bin eqD (un lenD (pkF 1)) (cst (.int (1 : Nat))))) (binP ixD 1 (cst (.int (0 : Nat)))) (tupD (consA (cst (.str "other")) (consA (cst .non) (nilA)))))))))))))))
def m__law_word : Fn := runF 1 2 b__law_word
theorem sc__law_word : FnScope ["error", "found"] ["error"] (defScope st__law_word) := ⟨rfl, rfl, rfl, by decide +kernel, rfl, by decide +kernel, by decide +kernel⟩
theorem p__law_word (D : IsDef K mg "_law_word" st__law_word) (k_Nothing : KtOk K (mtL [("BadBase", false), ("BadDenominator", false), ("BadFraction", false), ("BadNumber", false), ("BadText", false), ("TooGreat", false), ("Nothing", true)]) (He.ga K "Nothing")) (k_TooGreat : KtOk K (mtL [("BadBase", false), ("BadDenominator", false), ("BadFraction", false), ("BadNumber", false), ("BadText", false), ("TooGreat", true), ("Nothing", false)]) (He.ga K "TooGreat")) (k_BadText : KtOk K (mtL [("BadBase", false), ("BadDenominator", false), ("BadFraction", false), ("BadNumber", false), ("BadText", true), ("TooGreat", false), ("Nothing", false)]) (He.ga K "BadText")) (k_BadPaper : KtOk K (mtL [("BadBase", false), ("BadDenominator", false), ("BadFraction", false), ("BadNumber", false), ("BadText", false), ("TooGreat", false), ("Nothing", false)]) (He.ga K "BadPaper")) (k_BadNumber : KtOk K (mtL [("BadBase", false), ("BadDenominator", false), ("BadFraction", false), ("BadNumber", true), ("BadText", false), ("TooGreat", false), ("Nothing", false)]) (He.ga K "BadNumber")) (k_BadDigits : KtOk K (mtL [("BadBase", false), ("BadDenominator", false), ("BadFraction", false), ("BadNumber", false), ("BadText", false), ("TooGreat", false), ("Nothing", false)]) (He.ga K "BadDigits")) (k_BadFraction : KtOk K (mtL [("BadBase", false), ("BadDenominator", false), ("BadFraction", true), ("BadNumber", false), ("BadText", false), ("TooGreat", false), ("Nothing", false)]) (He.ga K "BadFraction")) (k_BadDenominator : KtOk K (mtL [("BadBase", false), ("BadDenominator", true), ("BadFraction", false), ("BadNumber", false), ("BadText", false), ("TooGreat", false), ("Nothing", false)]) (He.ga K "BadDenominator")) (k_BadBase : KtOk K (mtL [("BadBase", true), ("BadDenominator", false), ("BadFraction", false), ("BadNumber", false), ("BadText", false), ("TooGreat", false), ("Nothing", false)]) (He.ga K "BadBase")) (c_Nothing : mg "Nothing" = some (.ref (He.ga K "Nothing"))) (c_TooGreat : mg "TooGreat" = some (.ref (He.ga K "TooGreat"))) (c_BadText : mg "BadText" = some (.ref (He.ga K "BadText"))) (c_BadPaper : mg "BadPaper" = some (.ref (He.ga K "BadPaper"))) (c_BadNumber : mg "BadNumber" = some (.ref (He.ga K "BadNumber"))) (c_BadDigits : mg "BadDigits" = some (.ref (He.ga K "BadDigits"))) (c_BadFraction : mg "BadFraction" = some (.ref (He.ga K "BadFraction"))) (c_BadDenominator : mg "BadDenominator" = some (.ref (He.ga K "BadDenominator"))) (c_BadBase : mg "BadBase" = some (.ref (He.ga K "BadBase"))) (f_value : FdOk K "value" ["BadBase", "BadDenominator", "BadFraction", "BadNumber", "Nothing"]) (f_most : FdOk K "most" ["TooGreat"]) (f_place : FdOk K "place" ["BadText"]) (f_part : FdOk K "part" []) (n_len : mg "len" = none) (n_isinstance : mg "isinstance" = none) : Has P w K mg base "_law_word" ["error"] m__law_word 1 := by
  have nd := sc__law_word.nd
  refine has0 (N := ["error", "found"]) (ps := ["error"]) (k := 0) (body := b__law_word) D sc__law_word (by decide) (fun _ _ _ _ _ _ us hl => match us, hl with | [_], _ => rfl) ?_
  intro f cdv A outer s H E hr hq hc
  exact ds_cons (ds_setO 1 nd (do_lst (da_nil))) (ds_cons (ds_if (dt_tru (dk_of (de_isX k_BadBase rfl n_isinstance rfl c_BadBase (dk_var 0)))) (ds_one (ds_app 1 (pv 1) (de_tup (da_cons (de_str) (da_cons (de_fldX f_value (dk_var 0)) (da_nil)))))) (ds_nil)) (ds_cons (ds_if (dt_tru (dk_of (de_isX k_BadDenominator rfl n_isinstance rfl c_BadDenominator (dk_var 0)))) (ds_one (ds_app 1 (pv 1) (de_tup (da_cons (de_str) (da_cons (de_fldX f_value (dk_var 0)) (da_nil)))))) (ds_nil)) (ds_cons (ds_if (dt_tru (dk_of (de_isX k_BadFraction rfl n_isinstance rfl c_BadFraction (dk_var 0)))) (ds_one (ds_app 1 (pv 1) (de_tup (da_cons (de_str) (da_cons (de_fldX f_value (dk_var 0)) (da_nil)))))) (ds_nil)) (ds_cons (ds_if (dt_tru (dk_of (de_isX k_BadDigits rfl n_isinstance rfl c_BadDigits (dk_var 0)))) (ds_one (ds_app 1 (pv 1) (de_tup (da_cons (de_str) (da_cons (de_fldX f_value (dk_var 0)) (da_nil)))))) (ds_nil)) (ds_cons (ds_if (dt_tru (dk_of (de_isX k_BadNumber rfl n_isinstance rfl c_BadNumber (dk_var 0)))) (ds_one (ds_app 1 (pv 1) (de_tup (da_cons (de_str) (da_cons (de_fldX f_value (dk_var 0)) (da_nil)))))) (ds_nil)) (ds_cons (ds_if (dt_tru (dk_of (de_isX k_BadPaper rfl n_isinstance rfl c_BadPaper (dk_var 0)))) (ds_one (ds_app 1 (pv 1) (de_tup (da_cons (de_str) (da_cons (de_fldX f_part (dk_var 0)) (da_nil)))))) (ds_nil)) (ds_cons (ds_if (dt_tru (dk_of (de_isX k_BadText rfl n_isinstance rfl c_BadText (dk_var 0)))) (ds_one (ds_app 1 (pv 1) (de_tup (da_cons (de_str) (da_cons (de_fldX f_place (dk_var 0)) (da_nil)))))) (ds_nil)) (ds_cons (ds_if (dt_tru (dk_of (de_isX k_TooGreat rfl n_isinstance rfl c_TooGreat (dk_var 0)))) (ds_one (ds_app 1 (pv 1) (de_tup (da_cons (de_str) (da_cons (de_fldX f_most (dk_var 0)) (da_nil)))))) (ds_nil)) (ds_cons (ds_if (dt_tru (dk_of (de_isX k_Nothing rfl n_isinstance rfl c_Nothing (dk_var 0)))) (ds_one (ds_app 1 (pv 1) (de_tup (da_cons (de_str) (da_cons (de_fldX f_value (dk_var 0)) (da_nil)))))) (ds_nil)) (ds_one (ds_ret (de_if (dt_cmp (opr_eq (u64 hr)) (opd_eq _) (nomark _) (de_len rfl n_len (dk_var 1)) (dk_of (de_int))) (de_ixP (u1 hr) (pv 1) (dk_of (de_int)) (fun _ _ => rfl)) (de_tup (da_cons (de_str) (da_cons (de_non) (da_nil))))))))))))))))
/-! ### _law_outcome -/
abbrev st__law_outcome : Stmt := top 75
theorem sc__law_outcome : FnScope ["call", "found", "error", "e"] ["call"] (defScope st__law_outcome) := ⟨rfl, rfl, rfl, by decide +kernel, rfl, by decide +kernel, by decide +kernel⟩
theorem og__law_outcome {X : Cx} {q : Str} {k : Nat} {C1 C2 C3 : Addr} (hw : Has X.prog X.w X.K X.mg X.base "_law_word" ["error"] m__law_word 1) (hjk : 1 ≤ k + 1) (m1 : X.mg "WheelError" = some (.ref C1)) (m2 : X.mg "Nothing" = some (.ref C2)) (m3 : X.mg "TooGreat" = some (.ref C3)) (g : Addr) (cdg : Value) :
    OutG X ["call", "found", "error", "e"] "_law_outcome" (defScope st__law_outcome) g cdg (defBody st__law_outcome) "call" q (k + 1) (TTo (gx X) [C1, C2, C3] m__law_word) := by
  intro f c' s H Q tl hr hq hact hc hT
  have nd := sc__law_outcome.nd
  obtain ⟨fw, fdw, mw1, kw, bw, G⟩ := hw
  refine ⟨_, pss_cons (ps_asg (pe_tup (pa_cons pe_non (pa_cons pe_non pa_nil))) (pg_tup (n := 2) rfl (pgs_cons (pg_name (i := 1) nd rfl (.inl rfl)) (pgs_cons (pg_name (i := 2) nd rfl (.inl rfl)) pgs_nil)))) (pss_try_keep (i := 3) (C1 := C1) (C2 := C2) (C3 := C3) rfl rfl nd rfl rfl rfl m1 rfl m2 rfl m3
    (fun W pn xe tk po => pss_one (ps_set (i := 1) nd rfl (.inl rfl) (hact W pn xe _ _ tk))) (fun a oe cls d pn hz hf => pss_one (ps_set (i := 2) nd rfl (.inl rfl) (pe_var (i := 3) rfl (.inl rfl))))
    (pss_one (ps_ret (pe_ifExp (pt_cmpR op_isN (pe_var (i := 2) rfl (.inl rfl)) pe_non (nomark _)) (pe_lst (pa_cons (pe_var (i := 1) rfl (.inl rfl)) pa_nil)) (DW.pe_callG G (hr.mono hjk) hq rfl mw1 kw bw pass0 (pa_cons (pe_var (i := 2) rfl (.inl rfl)) pa_nil) rfl rfl rfl)))) rfl), out_read rfl hc hT⟩
/-! ### law -/
abbrev st_law : Stmt := top 79
def b_law : Rho → SR := seqS (forS (itF (tupD (consA (cst .non) (consA (cst (.int (7 : Nat))) (consA (cst (.bl true)) (consA (tupD (nilA)) (consA (lstD (nilA)) (consA (frzR (dctO0)) (consA (tupD (consA (cst (.str "show")) (nilA))) (consA (lstD (consA (cst (.str "show")) (nilA))) (nilA))))))))))) (tgN 1) (ifS (tstF (bin neD (outSF (ctL ["BadBase", "BadDenominator", "BadFraction", "BadNumber", "BadText", "TooGreat", "Nothing"]) m__law_word (vD (methV "Desk" "say" m_Desk_say (mkV "Desk" m_Desk___init__ (consV (dV (cst (.int (10 : Nat)))) (nilV))) (consV (dV (var 1)) (nilV))))) (tupD (consA (cst (.str "text")) (consA (cst .non) (nilA)))))) (retS (cst (.bl false))) (skipS))) (seqS (forS (itF (tupD (consA (cst (.int (1 : Nat))) (consA (cst (.int (1001 : Nat))) (consA (cst .non) (consA (cst (.bl true)) (consA (cst (.str "10")) (consA (tupD (consA (cst (.int (10 : Nat))) (nilA))) (nilA))))))))) (tgN 1) (ifS (tstF (bin neD (un reprD (outSF (ctL ["BadBase", "BadDenominator", "BadFraction", "BadNumber", "BadText", "TooGreat", "Nothing"]) m__law_word (vD (mkV "Desk" m_Desk___init__ (consV (dV (var 1)) (nilV)))))) (un reprD (tupD (consA (cst (.str "base")) (consA (var 1) (nilA))))))) (retS (cst (.bl false))) (skipS))) (retS (andV (vD (callS m__law_first_right nilV)) (andV (vD (callS m__law_odd_right nilV)) (vD (callS m__law_dial_right nilV))))))
def m_law : Fn := runL0 1 2 b_law
theorem sc_law : FnScope ["script", "odd", "store!"] ["script"] (defScope st_law) := ⟨rfl, rfl, rfl, by decide +kernel, rfl, by decide +kernel, by decide +kernel⟩
theorem nv_law : ¬ Vis (defScope st_law) "store!" := notVis rfl
theorem p_law {f : Addr} {fd : FuncData} (F : FunD K "law" "law" (defArgs st_law) (defBody st_law) (defScope st_law) [] [] f fd) (h__law_dial_right : HasS P w K mg base "_law_dial_right" [] m__law_dial_right 12) (h__law_odd_right : HasS P w K mg base "_law_odd_right" [] m__law_odd_right 12) (h__law_first_right : HasS P w K mg base "_law_first_right" [] m__law_first_right 12) (h__law_word : Has P w K mg base "_law_word" ["error"] m__law_word 1) (M_Desk_say : MethS P w K mg base "Desk" "say" ["self", "line"] m_Desk_say 11) (mk_Desk : MkS P w K mg base "Desk" ["self", "base"] m_Desk___init__ 7) (c_Desk : Cls K (He.ga K "Desk")) (c_WheelError : mg "WheelError" = some (.ref (He.ga K "WheelError"))) (c_Nothing : mg "Nothing" = some (.ref (He.ga K "Nothing"))) (c_TooGreat : mg "TooGreat" = some (.ref (He.ga K "TooGreat"))) (D__law_outcome : IsDef K mg "_law_outcome" st__law_outcome) (ctk : CtOk ⟨K, mg⟩ (ctL ["BadBase", "BadDenominator", "BadFraction", "BadNumber", "BadText", "TooGreat", "Nothing"]) [He.ga K "WheelError", He.ga K "Nothing", He.ga K "TooGreat"]) (tnd : ((tT K).map (·.1)).Nodup) (tbl : LamX.TabB base mg (He.cT K ("law", none)).1 (He.cT K ("law", none)).2) (gsf : mg "law" = some (.ref (He.fAd K ("law", none)))) (hmf : mg "law" = some (.ref f)) (n_repr : mg "repr" = none) : FnG P w K mg base CX0 15 f fd ["script"] (spL ⟨K, mg⟩ m_law) := by
  have nd := sc_law.nd
  refine fnDL (N := ["script", "odd", "store!"]) (ps := ["script"]) (k := 14) (n := 2) (y := "store!") (body := b_law) F sc_law rfl (by decide) rfl nv_law ?_
  intro cdv A outer s H E hr hq hc
  have cde := code_of ⟨hmf, hc⟩ gsf
  exact ds_cons (ds_for PassesOwn.never rfl (di_all (de_tup (da_cons (de_non) (da_cons (de_int) (da_cons (de_bl) (da_cons (de_tup (da_nil)) (da_cons (de_lst (da_nil)) (da_cons (de_do (do_dct0)) (da_cons (de_tup (da_cons (de_str) (da_nil))) (da_cons (de_lst (da_cons (de_str) (da_nil))) (da_nil))))))))))) (dg_name 1 nd) (ds_one (ds_if (dt_cmp (opr_ne (u64 hr)) (opd_ne _) (nomark _) (de_outS (k := 12) ctk D__law_outcome rfl sc__law_outcome rfl (.inl rfl) (fun _ _ _ _ _ _ us hl => match us, hl with | [_], _ => rfl) (og__law_outcome h__law_word (by decide) c_WheelError c_Nothing c_TooGreat) tbl cde (List.mem_map.mpr ⟨"law", by decide, rfl⟩) (only_of tnd (List.mem_map.mpr ⟨"law", by decide, rfl⟩)) (hr.mono (by decide)) hq (lamN_by (by rfl)) (.no rfl (fun _ _ _ _ _ _ => rfl)) (fun A outer s H E f c' hr hq => de_dv (dv_meth c_Desk M_Desk_say (takes_of rfl rfl rfl rfl) hr hq (by decide) (dv_mk mk_Desk (takes_of rfl rfl rfl rfl) hr hq (by decide) rfl (dva_cons (dv_of (de_int)) (dva_nil))) (dva_cons (dv_of (de_var 1)) (dva_nil))))) (dk_of (de_tup (da_cons (de_str) (da_cons (de_non) (da_nil)))))) (ds_one (ds_ret (de_bl))) (ds_nil)))) (ds_cons (ds_for PassesOwn.never rfl (di_all (de_tup (da_cons (de_int) (da_cons (de_int) (da_cons (de_non) (da_cons (de_bl) (da_cons (de_str) (da_cons (de_tup (da_cons (de_int) (da_nil))) (da_nil))))))))) (dg_name 1 nd) (ds_one (ds_if (dt_cmp (opr_ne (u64 hr)) (opd_ne _) (nomark _) (de_repr (u64 hr) hq rfl n_repr (dk_of (de_outS (k := 12) ctk D__law_outcome rfl sc__law_outcome rfl (.inl rfl) (fun _ _ _ _ _ _ us hl => match us, hl with | [_], _ => rfl) (og__law_outcome h__law_word (by decide) c_WheelError c_Nothing c_TooGreat) tbl cde (List.mem_map.mpr ⟨"law", by decide, rfl⟩) (only_of tnd (List.mem_map.mpr ⟨"law", by decide, rfl⟩)) (hr.mono (by decide)) hq (lamN_by (by rfl)) (.no rfl (fun _ _ _ _ _ _ => rfl)) (fun A outer s H E f c' hr hq => de_dv (dv_mk mk_Desk (takes_of rfl rfl rfl rfl) hr hq (by decide) rfl (dva_cons (dv_of (de_var 1)) (dva_nil))))))) (dk_of (de_repr (u64 hr) hq rfl n_repr (dk_of (de_tup (da_cons (de_str) (da_cons (de_var 1) (da_nil)))))))) (ds_one (ds_ret (de_bl))) (ds_nil)))) (ds_one (ds_ret (de_and (de_dv (dv_h0 h__law_first_right takes0 hr hq (by decide) rfl)) (de_and (de_dv (dv_h0 h__law_odd_right takes0 hr hq (by decide) rfl)) (de_one (de_dv (dv_h0 h__law_dial_right takes0 hr hq (by decide) rfl))))))))
end
end LAW

set_option Elab.async false
set_option linter.all false
set_option maxRecDepth 100000
set_option maxHeartbeats 0
namespace LAW
open PySem DW
theorem law_true (ns : List Int) (hn : ns.length ≤ 63) : m_law [.scr ns] = .ok (.fr (.bl true)) := by kernel_rfl
end LAW

section
open PySem PySem.Spec PyProof.Rows L2 DW
namespace LAW
def dd_is_number_text : He.DefD := ⟨("is_number_text", none), "is_number_text", "is_number_text", defArgs st_is_number_text, defBody st_is_number_text, defScope st_is_number_text, [], []⟩
def dd_number_in : He.DefD := ⟨("number_in", none), "number_in", "number_in", defArgs st_number_in, defBody st_number_in, defScope st_number_in, [], []⟩
def dd_common_divisor : He.DefD := ⟨("common_divisor", none), "common_divisor", "common_divisor", defArgs st_common_divisor, defBody st_common_divisor, defScope st_common_divisor, [], []⟩
def dd_pure_part_of : He.DefD := ⟨("pure_part_of", none), "pure_part_of", "pure_part_of", defArgs st_pure_part_of, defBody st_pure_part_of, defScope st_pure_part_of, [], []⟩
def dd_period_of : He.DefD := ⟨("period_of", none), "period_of", "period_of", defArgs st_period_of, defBody st_period_of, defScope st_period_of, [], []⟩
def dd_power_rest : He.DefD := ⟨("power_rest", none), "power_rest", "power_rest", defArgs st_power_rest, defBody st_power_rest, defScope st_power_rest, [], []⟩
def dd_steps_of : He.DefD := ⟨("steps_of", none), "steps_of", "steps_of", defArgs st_steps_of, defBody st_steps_of, defScope st_steps_of, [], []⟩
def dd_is_balanced_by : He.DefD := ⟨("is_balanced_by", none), "is_balanced_by", "is_balanced_by", defArgs st_is_balanced_by, defBody st_is_balanced_by, defScope st_is_balanced_by, [], []⟩
def dd_is_integer : He.DefD := ⟨("is_integer", none), "is_integer", "is_integer", defArgs st_is_integer, defBody st_is_integer, defScope st_is_integer, [], []⟩
def dd_is_whole : He.DefD := ⟨("is_whole", none), "is_whole", "is_whole", defArgs st_is_whole, defBody st_is_whole, defScope st_is_whole, [], []⟩
def dd_need_cut : He.DefD := ⟨("need_cut", none), "need_cut", "need_cut", defArgs st_need_cut, defBody st_need_cut, defScope st_need_cut, [], []⟩
def dd_need_denominator : He.DefD := ⟨("need_denominator", none), "need_denominator", "need_denominator", defArgs st_need_denominator, defBody st_need_denominator, defScope st_need_denominator, [], []⟩
def dd_need_base : He.DefD := ⟨("need_base", none), "need_base", "need_base", defArgs st_need_base, defBody st_need_base, defScope st_need_base, [], []⟩
def dd_is_pure : He.DefD := ⟨("is_pure", none), "is_pure", "is_pure", defArgs st_is_pure, defBody st_is_pure, defScope st_is_pure, [], []⟩
def dd_need_pure : He.DefD := ⟨("need_pure", none), "need_pure", "need_pure", defArgs st_need_pure, defBody st_need_pure, defScope st_need_pure, [], []⟩
def dd_is_balanced : He.DefD := ⟨("is_balanced", none), "is_balanced", "is_balanced", defArgs st_is_balanced, defBody st_is_balanced, defScope st_is_balanced, [], []⟩
def dd_wheel_of : He.DefD := ⟨("wheel_of", none), "wheel_of", "wheel_of", defArgs st_wheel_of, defBody st_wheel_of, defScope st_wheel_of, [], []⟩
def dd_wheels : He.DefD := ⟨("wheels", none), "wheels", "wheels", defArgs st_wheels, defBody st_wheels, defScope st_wheels, [], []⟩
def dd_cuts_of : He.DefD := ⟨("cuts_of", none), "cuts_of", "cuts_of", defArgs st_cuts_of, defBody st_cuts_of, defScope st_cuts_of, [], []⟩
def dd_cuts : He.DefD := ⟨("cuts", none), "cuts", "cuts", defArgs st_cuts, defBody st_cuts, defScope st_cuts, [], []⟩
def dd_least_cuts : He.DefD := ⟨("least_cuts", none), "least_cuts", "least_cuts", defArgs st_least_cuts, defBody st_least_cuts, defScope st_least_cuts, [], []⟩
def dd_spaced : He.DefD := ⟨("spaced", none), "spaced", "spaced", defArgs st_spaced, defBody st_spaced, defScope st_spaced, [], []⟩
def dd_period : He.DefD := ⟨("period", none), "period", "period", defArgs st_period, defBody st_period, defScope st_period, [], []⟩
def dd_Dial_base : He.DefD := ⟨("Dial", some "base"), "base", "Dial" ++ "." ++ "base", defArgs st_Dial_base, defBody st_Dial_base, defScope st_Dial_base, [], []⟩
def dd_Desk_asked : He.DefD := ⟨("Desk", some "asked"), "asked", "Desk" ++ "." ++ "asked", defArgs st_Desk_asked, defBody st_Desk_asked, defScope st_Desk_asked, [], []⟩
def dd_is_fraction : He.DefD := ⟨("is_fraction", none), "is_fraction", "is_fraction", defArgs st_is_fraction, defBody st_is_fraction, defScope st_is_fraction, [], []⟩
def dd_need_fraction : He.DefD := ⟨("need_fraction", none), "need_fraction", "need_fraction", defArgs st_need_fraction, defBody st_need_fraction, defScope st_need_fraction, [], []⟩
def dd_run_size : He.DefD := ⟨("run_size", none), "run_size", "run_size", defArgs st_run_size, defBody st_run_size, defScope st_run_size, [], []⟩
def dd_read_fraction : He.DefD := ⟨("read_fraction", none), "read_fraction", "read_fraction", defArgs st_read_fraction, defBody st_read_fraction, defScope st_read_fraction, [], []⟩
def dd_need_place : He.DefD := ⟨("need_place", none), "need_place", "need_place", defArgs st_need_place, defBody st_need_place, defScope st_need_place, [], []⟩
def dd_lowest : He.DefD := ⟨("lowest", none), "lowest", "lowest", defArgs st_lowest, defBody st_lowest, defScope st_lowest, [], []⟩
def dd_Dial_show : He.DefD := ⟨("Dial", some "show"), "show", "Dial" ++ "." ++ "show", defArgs st_Dial_show, defBody st_Dial_show, defScope st_Dial_show, [], []⟩
def dd_Dial_fraction : He.DefD := ⟨("Dial", some "fraction"), "fraction", "Dial" ++ "." ++ "fraction", defArgs st_Dial_fraction, defBody st_Dial_fraction, defScope st_Dial_fraction, [], []⟩
def dd_Dial_scale : He.DefD := ⟨("Dial", some "scale"), "scale", "Dial" ++ "." ++ "scale", defArgs st_Dial_scale, defBody st_Dial_scale, defScope st_Dial_scale, [], []⟩
def dd_remainder_in : He.DefD := ⟨("remainder_in", none), "remainder_in", "remainder_in", defArgs st_remainder_in, defBody st_remainder_in, defScope st_remainder_in, [], []⟩
def dd_Dial_turn : He.DefD := ⟨("Dial", some "turn"), "turn", "Dial" ++ "." ++ "turn", defArgs st_Dial_turn, defBody st_Dial_turn, defScope st_Dial_turn, [], []⟩
def dd_Dial_add : He.DefD := ⟨("Dial", some "add"), "add", "Dial" ++ "." ++ "add", defArgs st_Dial_add, defBody st_Dial_add, defScope st_Dial_add, [], []⟩
def dd_Desk_moved : He.DefD := ⟨("Desk", some "moved"), "moved", "Desk" ++ "." ++ "moved", defArgs st_Desk_moved, defBody st_Desk_moved, defScope st_Desk_moved, [], []⟩
def dd_digits_after : He.DefD := ⟨("digits_after", none), "digits_after", "digits_after", defArgs st_digits_after, defBody st_digits_after, defScope st_digits_after, [], []⟩
def dd_head_size : He.DefD := ⟨("head_size", none), "head_size", "head_size", defArgs st_head_size, defBody st_head_size, defScope st_head_size, [], []⟩
def dd_expansion_of : He.DefD := ⟨("expansion_of", none), "expansion_of", "expansion_of", defArgs st_expansion_of, defBody st_expansion_of, defScope st_expansion_of, [], []⟩
def dd_expansion : He.DefD := ⟨("expansion", none), "expansion", "expansion", defArgs st_expansion, defBody st_expansion, defScope st_expansion, [], []⟩
def dd_expansion_text : He.DefD := ⟨("expansion_text", none), "expansion_text", "expansion_text", defArgs st_expansion_text, defBody st_expansion_text, defScope st_expansion_text, [], []⟩
def dd_fraction_text : He.DefD := ⟨("fraction_text", none), "fraction_text", "fraction_text", defArgs st_fraction_text, defBody st_fraction_text, defScope st_fraction_text, [], []⟩
def dd_Dial___len__ : He.DefD := ⟨("Dial", some "__len__"), "__len__", "Dial" ++ "." ++ "__len__", defArgs st_Dial___len__, defBody st_Dial___len__, defScope st_Dial___len__, [], []⟩
def dd_Dial_undo : He.DefD := ⟨("Dial", some "undo"), "undo", "Dial" ++ "." ++ "undo", defArgs st_Dial_undo, defBody st_Dial_undo, defScope st_Dial_undo, [], [("many", .int (1 : Nat))]⟩
def dd_Desk_alone : He.DefD := ⟨("Desk", some "alone"), "alone", "Desk" ++ "." ++ "alone", defArgs st_Desk_alone, defBody st_Desk_alone, defScope st_Desk_alone, [], []⟩
def dd_Desk_answered : He.DefD := ⟨("Desk", some "answered"), "answered", "Desk" ++ "." ++ "answered", defArgs st_Desk_answered, defBody st_Desk_answered, defScope st_Desk_answered, [], []⟩
def dd_Desk_say : He.DefD := ⟨("Desk", some "say"), "say", "Desk" ++ "." ++ "say", defArgs st_Desk_say, defBody st_Desk_say, defScope st_Desk_say, [], []⟩
def dd_Dial___eq__ : He.DefD := ⟨("Dial", some "__eq__"), "__eq__", "Dial" ++ "." ++ "__eq__", defArgs st_Dial___eq__, defBody st_Dial___eq__, defScope st_Dial___eq__, [], []⟩
def dd_Desk_dial : He.DefD := ⟨("Desk", some "dial"), "dial", "Desk" ++ "." ++ "dial", defArgs st_Desk_dial, defBody st_Desk_dial, defScope st_Desk_dial, [], []⟩
def dd_Dial___init__ : He.DefD := ⟨("Dial", some "__init__"), "__init__", "Dial" ++ "." ++ "__init__", defArgs st_Dial___init__, defBody st_Dial___init__, defScope st_Dial___init__, [], []⟩
def dd_Desk___init__ : He.DefD := ⟨("Desk", some "__init__"), "__init__", "Desk" ++ "." ++ "__init__", defArgs st_Desk___init__, defBody st_Desk___init__, defScope st_Desk___init__, [], []⟩
def dd__law_dial_right : He.DefD := ⟨("_law_dial_right", none), "_law_dial_right", "_law_dial_right", defArgs st__law_dial_right, defBody st__law_dial_right, defScope st__law_dial_right, [], []⟩
def dd__law_odd_right : He.DefD := ⟨("_law_odd_right", none), "_law_odd_right", "_law_odd_right", defArgs st__law_odd_right, defBody st__law_odd_right, defScope st__law_odd_right, [], []⟩
def dd__law_first_right : He.DefD := ⟨("_law_first_right", none), "_law_first_right", "_law_first_right", defArgs st__law_first_right, defBody st__law_first_right, defScope st__law_first_right, [], []⟩
def dd__law_word : He.DefD := ⟨("_law_word", none), "_law_word", "_law_word", defArgs st__law_word, defBody st__law_word, defScope st__law_word, [], []⟩
def dd__law_outcome : He.DefD := ⟨("_law_outcome", none), "_law_outcome", "_law_outcome", defArgs st__law_outcome, defBody st__law_outcome, defScope st__law_outcome, [], []⟩
def dd_law : He.DefD := ⟨("law", none), "law", "law", defArgs st_law, defBody st_law, defScope st_law, [], []⟩
def gd_Dial_base : GD := ⟨"Dial", "base", dd_Dial_base⟩
def gd_Dial_fraction : GD := ⟨"Dial", "fraction", dd_Dial_fraction⟩
def gd_Desk_dial : GD := ⟨"Desk", "dial", dd_Desk_dial⟩
def fnL : List He.DefD := [dd_is_number_text, dd_number_in, dd_common_divisor, dd_pure_part_of, dd_period_of, dd_power_rest, dd_steps_of, dd_is_balanced_by, dd_is_integer, dd_is_whole, dd_need_cut, dd_need_denominator, dd_need_base, dd_is_pure, dd_need_pure, dd_is_balanced, dd_wheel_of, dd_wheels, dd_cuts_of, dd_cuts, dd_least_cuts, dd_spaced, dd_period, dd_Desk_asked, dd_is_fraction, dd_need_fraction, dd_run_size, dd_read_fraction, dd_need_place, dd_lowest, dd_Dial_show, dd_Dial_scale, dd_remainder_in, dd_Dial_turn, dd_Dial_add, dd_Desk_moved, dd_digits_after, dd_head_size, dd_expansion_of, dd_expansion, dd_expansion_text, dd_fraction_text, dd_Dial___len__, dd_Dial_undo, dd_Desk_alone, dd_Desk_answered, dd_Desk_say, dd_Dial___eq__, dd_Dial___init__, dd_Desk___init__, dd__law_dial_right, dd__law_odd_right, dd__law_first_right, dd__law_word, dd__law_outcome, dd_law]
def gsL : List GD := [gd_Dial_base, gd_Dial_fraction, gd_Desk_dial]
def faL : List He.Fa := [.glo "is_number_text", .glo "number_in", .glo "common_divisor", .glo "pure_part_of", .glo "period_of", .glo "power_rest", .glo "steps_of", .glo "is_balanced_by", .glo "is_integer", .glo "is_whole", .glo "need_cut", .glo "need_denominator", .glo "need_base", .glo "is_pure", .glo "need_pure", .glo "is_balanced", .glo "wheel_of", .glo "wheels", .glo "cuts_of", .glo "cuts", .glo "least_cuts", .glo "spaced", .glo "period", .glo "is_fraction", .glo "need_fraction", .glo "run_size", .glo "read_fraction", .glo "need_place", .glo "lowest", .glo "remainder_in", .glo "digits_after", .glo "head_size", .glo "expansion_of", .glo "expansion", .glo "expansion_text", .glo "fraction_text", .glo "_law_dial_right", .glo "_law_odd_right", .glo "_law_first_right", .glo "_law_word", .glo "_law_outcome", .glo "law", .glo "Dial", .glo "Desk", .free "all", .free "len", .free "int", .free "sum", .free "isinstance", .free "bool", .free "tuple", .free "range", .free "str", .free "repr", .str "FIGURES" "0123456789", .int "MOST_FIGURES" 40, .int "MOST_DENOMINATOR" 5000, .int "MOST_BASE" 1000, .str "NONE" "none", .str "STROKE" "/", .int "MOST_PLACE" 1000000000000000000000000000000, .str "DONE" "done", .str "SHUT" ")", .str "OPEN" "(", .str "NOTHING" "nothing", .str "YES" "yes", .str "NOT" "not", .str "NO" "no", .cls "Dial", .cls "Desk", .noat "Dial" "own_base", .noat "Desk" "own_dial", .noat "Dial" "past", .meth "Dial" "show", .meth "Dial" "scale", .meth "Dial" "turn", .meth "Dial" "add", .meth "Dial" "__len__", .meth "Desk" "asked", .meth "Desk" "moved", .meth "Desk" "alone", .meth "Desk" "answered", .meth "Desk" "say", .meth "Dial" "__eq__", .meth "Dial" "undo", .mkr "Dial", .mkr "Desk"]
def names0 : List Str := ["_wall", "WheelError", "BadBase", "BadDenominator", "BadFraction", "BadDigits", "BadNumber", "BadPaper", "BadText", "TooGreat", "Nothing", "MOST_BASE", "MOST_DENOMINATOR", "is_integer", "is_whole", "need_base", "need_denominator", "common_divisor", "is_fraction", "need_fraction", "lowest", "pure_part_of", "is_pure", "period_of", "period", "head_size", "power_rest", "need_pure", "MOST_PLACE", "digits_after"]
def names1 : List Str := ["expansion_of", "expansion", "need_place", "remainder_in", "remainder_at", "digit_at", "Dial", "need_cut", "steps_of", "is_balanced_by", "is_balanced", "cuts_of", "cuts", "least_cuts", "FIGURES", "MOST_FIGURES", "STROKE", "OPEN", "SHUT", "is_number_text", "fraction_text", "run_size", "read_fraction", "expansion_text", "wheel_of", "wheels", "NO", "DONE", "NOTHING", "NONE"]
def names2 : List Str := ["YES", "NOT", "number_in", "spaced", "Desk", "_law_word", "_law_outcome", "_law_first_right", "_law_odd_right", "_law_dial_right"]
def names : List Str := names0 ++ names1 ++ names2
abbrev RR : PySem.W.OpenRow := PySem.W.OpenLaw.row PySem.Challenge.rw_wheelnines_k21_desks_by_hand
def dx_BadBase : DWX.XD := ⟨"BadBase", "value", DWX.clsInit (top 3), "ValueError", "ValueError.__new__", "ValueError.__init__", DWX.veB⟩
theorem tx_BadBase : DWX.TxtOk (DWX.clsInit (top 3)) "value" := ⟨_, _, _, _, _, _, _, _, _, _, _, _, _, _, rfl, rfl, rfl, fun _ => rfl⟩
def dx_BadDenominator : DWX.XD := ⟨"BadDenominator", "value", DWX.clsInit (top 4), "ValueError", "ValueError.__new__", "ValueError.__init__", DWX.veB⟩
theorem tx_BadDenominator : DWX.TxtOk (DWX.clsInit (top 4)) "value" := ⟨_, _, _, _, _, _, _, _, _, _, _, _, _, _, rfl, rfl, rfl, fun _ => rfl⟩
def dx_BadFraction : DWX.XD := ⟨"BadFraction", "value", DWX.clsInit (top 5), "ValueError", "ValueError.__new__", "ValueError.__init__", DWX.veB⟩
theorem tx_BadFraction : DWX.TxtOk (DWX.clsInit (top 5)) "value" := ⟨_, _, _, _, _, _, _, _, _, _, _, _, _, _, rfl, rfl, rfl, fun _ => rfl⟩
def dx_BadNumber : DWX.XD := ⟨"BadNumber", "value", DWX.clsInit (top 7), "ValueError", "ValueError.__new__", "ValueError.__init__", DWX.veB⟩
theorem tx_BadNumber : DWX.TxtOk (DWX.clsInit (top 7)) "value" := ⟨_, _, _, _, _, _, _, _, _, _, _, _, _, _, rfl, rfl, rfl, fun _ => rfl⟩
def dx_BadText : DWX.XD := ⟨"BadText", "place", DWX.clsInit (top 9), "ValueError", "ValueError.__new__", "ValueError.__init__", DWX.veB⟩
theorem tx_BadText : DWX.TxtOk (DWX.clsInit (top 9)) "place" := ⟨_, _, _, _, _, _, _, _, _, _, _, _, _, _, rfl, rfl, rfl, fun _ => rfl⟩
def dx_TooGreat : DWX.XD := ⟨"TooGreat", "most", DWX.clsInit (top 10), "OverflowError", "OverflowError.__new__", "OverflowError.__init__", DWX.oeB⟩
theorem tx_TooGreat : DWX.TxtOk (DWX.clsInit (top 10)) "most" := ⟨_, _, _, _, _, _, _, _, _, _, _, _, _, _, rfl, rfl, rfl, fun _ => rfl⟩
def dx_Nothing : DWX.XD := ⟨"Nothing", "value", DWX.clsInit (top 11), "LookupError", "LookupError.__new__", "LookupError.__init__", DWX.leB⟩
theorem tx_Nothing : DWX.TxtOk (DWX.clsInit (top 11)) "value" := ⟨_, _, _, _, _, _, _, _, _, _, _, _, _, _, rfl, rfl, rfl, fun _ => rfl⟩
def xsL : List DWX.XD := [dx_BadBase, dx_BadDenominator, dx_BadFraction, dx_BadNumber, dx_BadText, dx_TooGreat, dx_Nothing]
def tfL : List He.Defn := [("law", none)]
def tsL : List He.Tab := []
def fileL : Str := PySem.Challenge.pw_wheelnines_k21_desks_by_hand.main.file
theorem tf_mem {n : Str} (h : n ∈ DW.lamNames) : ((n, none) : He.Defn) ∈ tfL := by
  have e : tfL = DW.lamNames.map fun n => ((n, none) : He.Defn) := rfl
  rw [e]
  exact List.mem_map.mpr ⟨n, h, rfl⟩
def xcL : List Str := ["BadBase", "BadDenominator", "BadFraction", "BadNumber", "BadText", "TooGreat", "Nothing"]
def cnL : List Str := ["WheelError", "TooGreat", "Nothing", "BadText", "BadPaper", "BadNumber", "BadDigits", "BadFraction", "BadDenominator", "BadBase"]
def ctsL : List Str := ["WheelError", "Nothing", "TooGreat"]
def kitL : List (Str × Str × Bool) := [(("BadBase" : Str), ("Nothing" : Str), false), (("BadDenominator" : Str), ("Nothing" : Str), false), (("BadFraction" : Str), ("Nothing" : Str), false), (("BadNumber" : Str), ("Nothing" : Str), false), (("BadText" : Str), ("Nothing" : Str), false), (("TooGreat" : Str), ("Nothing" : Str), false), (("Nothing" : Str), ("Nothing" : Str), true), (("BadBase" : Str), ("TooGreat" : Str), false), (("BadDenominator" : Str), ("TooGreat" : Str), false), (("BadFraction" : Str), ("TooGreat" : Str), false), (("BadNumber" : Str), ("TooGreat" : Str), false), (("BadText" : Str), ("TooGreat" : Str), false), (("TooGreat" : Str), ("TooGreat" : Str), true), (("Nothing" : Str), ("TooGreat" : Str), false), (("BadBase" : Str), ("BadText" : Str), false), (("BadDenominator" : Str), ("BadText" : Str), false), (("BadFraction" : Str), ("BadText" : Str), false), (("BadNumber" : Str), ("BadText" : Str), false), (("BadText" : Str), ("BadText" : Str), true), (("TooGreat" : Str), ("BadText" : Str), false), (("Nothing" : Str), ("BadText" : Str), false), (("BadBase" : Str), ("BadPaper" : Str), false), (("BadDenominator" : Str), ("BadPaper" : Str), false), (("BadFraction" : Str), ("BadPaper" : Str), false), (("BadNumber" : Str), ("BadPaper" : Str), false), (("BadText" : Str), ("BadPaper" : Str), false), (("TooGreat" : Str), ("BadPaper" : Str), false), (("Nothing" : Str), ("BadPaper" : Str), false), (("BadBase" : Str), ("BadNumber" : Str), false), (("BadDenominator" : Str), ("BadNumber" : Str), false), (("BadFraction" : Str), ("BadNumber" : Str), false), (("BadNumber" : Str), ("BadNumber" : Str), true), (("BadText" : Str), ("BadNumber" : Str), false), (("TooGreat" : Str), ("BadNumber" : Str), false), (("Nothing" : Str), ("BadNumber" : Str), false), (("BadBase" : Str), ("BadDigits" : Str), false), (("BadDenominator" : Str), ("BadDigits" : Str), false), (("BadFraction" : Str), ("BadDigits" : Str), false), (("BadNumber" : Str), ("BadDigits" : Str), false), (("BadText" : Str), ("BadDigits" : Str), false), (("TooGreat" : Str), ("BadDigits" : Str), false), (("Nothing" : Str), ("BadDigits" : Str), false), (("BadBase" : Str), ("BadFraction" : Str), false), (("BadDenominator" : Str), ("BadFraction" : Str), false), (("BadFraction" : Str), ("BadFraction" : Str), true), (("BadNumber" : Str), ("BadFraction" : Str), false), (("BadText" : Str), ("BadFraction" : Str), false), (("TooGreat" : Str), ("BadFraction" : Str), false), (("Nothing" : Str), ("BadFraction" : Str), false), (("BadBase" : Str), ("BadDenominator" : Str), false), (("BadDenominator" : Str), ("BadDenominator" : Str), true), (("BadFraction" : Str), ("BadDenominator" : Str), false), (("BadNumber" : Str), ("BadDenominator" : Str), false), (("BadText" : Str), ("BadDenominator" : Str), false), (("TooGreat" : Str), ("BadDenominator" : Str), false), (("Nothing" : Str), ("BadDenominator" : Str), false), (("BadBase" : Str), ("BadBase" : Str), true), (("BadDenominator" : Str), ("BadBase" : Str), false), (("BadFraction" : Str), ("BadBase" : Str), false), (("BadNumber" : Str), ("BadBase" : Str), false), (("BadText" : Str), ("BadBase" : Str), false), (("TooGreat" : Str), ("BadBase" : Str), false), (("Nothing" : Str), ("BadBase" : Str), false)]
def ctB (xs ct : List Str) (K : PySem.W.Frag) : Bool := xs.all fun c => decide (PySem.W.exmAny K (.ref (He.ga K c)) ((ct.map (He.ga K)).map Value.ref) = some true)
theorem ctB_ok {xs ct : List Str} {K : PySem.W.Frag} (h : ctB xs ct K = true) : ∀ c ∈ xs, PySem.W.exmAny K (.ref (He.ga K c)) ((ct.map (He.ga K)).map Value.ref) = some true := fun c hc => of_decide_eq_true (List.all_eq_true.mp h c hc)
def exL : PySem.W.Frag → Bool := fun K => exB xcL cnL ctsL kitL K && (ctB xcL ["WheelError", "TooGreat", "Nothing"] K && (insCB K (He.ga K "Dial")))
abbrev hk : PySem.W.Hook := hookP 6 faL fnL tsL tfL fileL xsL exL gsL
def ob (s : PySem.W.SharedT) : AlP := obsP 6 faL fnL tsL tfL fileL xsL exL gsL (HandSHeadRun.getT s)
theorem ob_eq (s : PySem.W.SharedT) : ob s = hk.obs s.abs := obsP_eq (HandSHeadRun.getT_eq s)
theorem run (w : World) : HandSHeadRun.RunEq RR (PySem.W.view RR.prog [79]) hk ob 20000 names w := by
  intro os
  kernel_rfl
theorem facts {P : Program} {w : World} {K : PySem.W.Frag} {h : Heap} {mg : Str → Option Value} (X : K.In h) (G : h.Ns mainGlobals mg) (ce : SaysP faL fnL tsL tfL fileL xsL exL gsL w h K) (hfile : (P.main.file : Str) = fileL) (htop : (P.main.scope.names.lookup ("super" : Str)).isSome = false) (base : Heap) {f : Addr} {fd : FuncData} (F : FunD K "law" "law" (defArgs st_law) (defBody st_law) (defScope st_law) [] [] f fd) (hmf : mg "law" = some (.ref f)) (hbT : ∀ p ∈ tfL, LamX.TabB base mg (He.cT K p).1 (He.cT K p).2) : FnG P w K mg base CX0 15 f fd ["script"] (spL ⟨K, mg⟩ m_law) := by
  have c : He.SaysD faL fnL K := ce.e.t.d
  have ex0 : exL K = true := (He.ba ce.e.ex).1
  obtain ⟨eb0, ex1⟩ := He.ba ex0
  obtain ⟨ed0, ex2⟩ := He.ba ex1
  have ic0_Dial := ex2
  have eb := exB_ok eb0
  have i_BadBase : dx_BadBase ∈ xsL := List.mem_of_getElem? (i := 0) rfl
  have x_BadBase : DWX.OwnX P K mg "BadBase" "value" "ValueError" "ValueError.__new__" "ValueError.__init__" DWX.veB (He.ga K "BadBase") (DWX.initAt K "BadBase") := DWX.XD.own (d := dx_BadBase) X G (ce.e.ok _ i_BadBase) (ce.e.txt _ i_BadBase) tx_BadBase PySem.F.excBase_ValueError PySem.W.kxs_ValueError PySem.F.store_ValueError DWX.fld_value hfile htop
  have i_BadDenominator : dx_BadDenominator ∈ xsL := List.mem_of_getElem? (i := 1) rfl
  have x_BadDenominator : DWX.OwnX P K mg "BadDenominator" "value" "ValueError" "ValueError.__new__" "ValueError.__init__" DWX.veB (He.ga K "BadDenominator") (DWX.initAt K "BadDenominator") := DWX.XD.own (d := dx_BadDenominator) X G (ce.e.ok _ i_BadDenominator) (ce.e.txt _ i_BadDenominator) tx_BadDenominator PySem.F.excBase_ValueError PySem.W.kxs_ValueError PySem.F.store_ValueError DWX.fld_value hfile htop
  have i_BadFraction : dx_BadFraction ∈ xsL := List.mem_of_getElem? (i := 2) rfl
  have x_BadFraction : DWX.OwnX P K mg "BadFraction" "value" "ValueError" "ValueError.__new__" "ValueError.__init__" DWX.veB (He.ga K "BadFraction") (DWX.initAt K "BadFraction") := DWX.XD.own (d := dx_BadFraction) X G (ce.e.ok _ i_BadFraction) (ce.e.txt _ i_BadFraction) tx_BadFraction PySem.F.excBase_ValueError PySem.W.kxs_ValueError PySem.F.store_ValueError DWX.fld_value hfile htop
  have i_BadNumber : dx_BadNumber ∈ xsL := List.mem_of_getElem? (i := 3) rfl
  have x_BadNumber : DWX.OwnX P K mg "BadNumber" "value" "ValueError" "ValueError.__new__" "ValueError.__init__" DWX.veB (He.ga K "BadNumber") (DWX.initAt K "BadNumber") := DWX.XD.own (d := dx_BadNumber) X G (ce.e.ok _ i_BadNumber) (ce.e.txt _ i_BadNumber) tx_BadNumber PySem.F.excBase_ValueError PySem.W.kxs_ValueError PySem.F.store_ValueError DWX.fld_value hfile htop
  have i_BadText : dx_BadText ∈ xsL := List.mem_of_getElem? (i := 4) rfl
  have x_BadText : DWX.OwnX P K mg "BadText" "place" "ValueError" "ValueError.__new__" "ValueError.__init__" DWX.veB (He.ga K "BadText") (DWX.initAt K "BadText") := DWX.XD.own (d := dx_BadText) X G (ce.e.ok _ i_BadText) (ce.e.txt _ i_BadText) tx_BadText PySem.F.excBase_ValueError PySem.W.kxs_ValueError PySem.F.store_ValueError DWX.fld_place hfile htop
  have i_TooGreat : dx_TooGreat ∈ xsL := List.mem_of_getElem? (i := 5) rfl
  have x_TooGreat : DWX.OwnX P K mg "TooGreat" "most" "OverflowError" "OverflowError.__new__" "OverflowError.__init__" DWX.oeB (He.ga K "TooGreat") (DWX.initAt K "TooGreat") := DWX.XD.own (d := dx_TooGreat) X G (ce.e.ok _ i_TooGreat) (ce.e.txt _ i_TooGreat) tx_TooGreat PySem.F.excBase_OverflowError PySem.W.kxs_OverflowError PySem.F.store_OverflowError DWX.fld_most hfile htop
  have i_Nothing : dx_Nothing ∈ xsL := List.mem_of_getElem? (i := 6) rfl
  have x_Nothing : DWX.OwnX P K mg "Nothing" "value" "LookupError" "LookupError.__new__" "LookupError.__init__" DWX.leB (He.ga K "Nothing") (DWX.initAt K "Nothing") := DWX.XD.own (d := dx_Nothing) X G (ce.e.ok _ i_Nothing) (ce.e.txt _ i_Nothing) tx_Nothing PySem.F.excBase_LookupError PySem.W.kxs_LookupError PySem.F.store_LookupError DWX.fld_value hfile htop
  have c_WheelError : mg "WheelError" = some (.ref (He.ga K "WheelError")) := PySem.W.mg_of X G (eb.cn _ (List.mem_of_getElem? (i := 0) rfl))
  have c_TooGreat : mg "TooGreat" = some (.ref (He.ga K "TooGreat")) := PySem.W.mg_of X G (eb.cn _ (List.mem_of_getElem? (i := 1) rfl))
  have c_Nothing : mg "Nothing" = some (.ref (He.ga K "Nothing")) := PySem.W.mg_of X G (eb.cn _ (List.mem_of_getElem? (i := 2) rfl))
  have c_BadText : mg "BadText" = some (.ref (He.ga K "BadText")) := PySem.W.mg_of X G (eb.cn _ (List.mem_of_getElem? (i := 3) rfl))
  have c_BadPaper : mg "BadPaper" = some (.ref (He.ga K "BadPaper")) := PySem.W.mg_of X G (eb.cn _ (List.mem_of_getElem? (i := 4) rfl))
  have c_BadNumber : mg "BadNumber" = some (.ref (He.ga K "BadNumber")) := PySem.W.mg_of X G (eb.cn _ (List.mem_of_getElem? (i := 5) rfl))
  have c_BadDigits : mg "BadDigits" = some (.ref (He.ga K "BadDigits")) := PySem.W.mg_of X G (eb.cn _ (List.mem_of_getElem? (i := 6) rfl))
  have c_BadFraction : mg "BadFraction" = some (.ref (He.ga K "BadFraction")) := PySem.W.mg_of X G (eb.cn _ (List.mem_of_getElem? (i := 7) rfl))
  have c_BadDenominator : mg "BadDenominator" = some (.ref (He.ga K "BadDenominator")) := PySem.W.mg_of X G (eb.cn _ (List.mem_of_getElem? (i := 8) rfl))
  have c_BadBase : mg "BadBase" = some (.ref (He.ga K "BadBase")) := PySem.W.mg_of X G (eb.cn _ (List.mem_of_getElem? (i := 9) rfl))
  have k_Nothing : KtOk K (mtL [("BadBase", false), ("BadDenominator", false), ("BadFraction", false), ("BadNumber", false), ("BadText", false), ("TooGreat", false), ("Nothing", true)]) (He.ga K "Nothing") := kt_cons (eb.xc _ (List.mem_of_getElem? (i := 0) rfl)) (eb.kit ("BadBase", "Nothing", false) (List.mem_of_getElem? (i := 0) rfl)) (kt_cons (eb.xc _ (List.mem_of_getElem? (i := 1) rfl)) (eb.kit ("BadDenominator", "Nothing", false) (List.mem_of_getElem? (i := 1) rfl)) (kt_cons (eb.xc _ (List.mem_of_getElem? (i := 2) rfl)) (eb.kit ("BadFraction", "Nothing", false) (List.mem_of_getElem? (i := 2) rfl)) (kt_cons (eb.xc _ (List.mem_of_getElem? (i := 3) rfl)) (eb.kit ("BadNumber", "Nothing", false) (List.mem_of_getElem? (i := 3) rfl)) (kt_cons (eb.xc _ (List.mem_of_getElem? (i := 4) rfl)) (eb.kit ("BadText", "Nothing", false) (List.mem_of_getElem? (i := 4) rfl)) (kt_cons (eb.xc _ (List.mem_of_getElem? (i := 5) rfl)) (eb.kit ("TooGreat", "Nothing", false) (List.mem_of_getElem? (i := 5) rfl)) (kt_cons (eb.xc _ (List.mem_of_getElem? (i := 6) rfl)) (eb.kit ("Nothing", "Nothing", true) (List.mem_of_getElem? (i := 6) rfl)) (kt_nil)))))))
  have k_TooGreat : KtOk K (mtL [("BadBase", false), ("BadDenominator", false), ("BadFraction", false), ("BadNumber", false), ("BadText", false), ("TooGreat", true), ("Nothing", false)]) (He.ga K "TooGreat") := kt_cons (eb.xc _ (List.mem_of_getElem? (i := 0) rfl)) (eb.kit ("BadBase", "TooGreat", false) (List.mem_of_getElem? (i := 7) rfl)) (kt_cons (eb.xc _ (List.mem_of_getElem? (i := 1) rfl)) (eb.kit ("BadDenominator", "TooGreat", false) (List.mem_of_getElem? (i := 8) rfl)) (kt_cons (eb.xc _ (List.mem_of_getElem? (i := 2) rfl)) (eb.kit ("BadFraction", "TooGreat", false) (List.mem_of_getElem? (i := 9) rfl)) (kt_cons (eb.xc _ (List.mem_of_getElem? (i := 3) rfl)) (eb.kit ("BadNumber", "TooGreat", false) (List.mem_of_getElem? (i := 10) rfl)) (kt_cons (eb.xc _ (List.mem_of_getElem? (i := 4) rfl)) (eb.kit ("BadText", "TooGreat", false) (List.mem_of_getElem? (i := 11) rfl)) (kt_cons (eb.xc _ (List.mem_of_getElem? (i := 5) rfl)) (eb.kit ("TooGreat", "TooGreat", true) (List.mem_of_getElem? (i := 12) rfl)) (kt_cons (eb.xc _ (List.mem_of_getElem? (i := 6) rfl)) (eb.kit ("Nothing", "TooGreat", false) (List.mem_of_getElem? (i := 13) rfl)) (kt_nil)))))))
  have k_BadText : KtOk K (mtL [("BadBase", false), ("BadDenominator", false), ("BadFraction", false), ("BadNumber", false), ("BadText", true), ("TooGreat", false), ("Nothing", false)]) (He.ga K "BadText") := kt_cons (eb.xc _ (List.mem_of_getElem? (i := 0) rfl)) (eb.kit ("BadBase", "BadText", false) (List.mem_of_getElem? (i := 14) rfl)) (kt_cons (eb.xc _ (List.mem_of_getElem? (i := 1) rfl)) (eb.kit ("BadDenominator", "BadText", false) (List.mem_of_getElem? (i := 15) rfl)) (kt_cons (eb.xc _ (List.mem_of_getElem? (i := 2) rfl)) (eb.kit ("BadFraction", "BadText", false) (List.mem_of_getElem? (i := 16) rfl)) (kt_cons (eb.xc _ (List.mem_of_getElem? (i := 3) rfl)) (eb.kit ("BadNumber", "BadText", false) (List.mem_of_getElem? (i := 17) rfl)) (kt_cons (eb.xc _ (List.mem_of_getElem? (i := 4) rfl)) (eb.kit ("BadText", "BadText", true) (List.mem_of_getElem? (i := 18) rfl)) (kt_cons (eb.xc _ (List.mem_of_getElem? (i := 5) rfl)) (eb.kit ("TooGreat", "BadText", false) (List.mem_of_getElem? (i := 19) rfl)) (kt_cons (eb.xc _ (List.mem_of_getElem? (i := 6) rfl)) (eb.kit ("Nothing", "BadText", false) (List.mem_of_getElem? (i := 20) rfl)) (kt_nil)))))))
  have k_BadPaper : KtOk K (mtL [("BadBase", false), ("BadDenominator", false), ("BadFraction", false), ("BadNumber", false), ("BadText", false), ("TooGreat", false), ("Nothing", false)]) (He.ga K "BadPaper") := kt_cons (eb.xc _ (List.mem_of_getElem? (i := 0) rfl)) (eb.kit ("BadBase", "BadPaper", false) (List.mem_of_getElem? (i := 21) rfl)) (kt_cons (eb.xc _ (List.mem_of_getElem? (i := 1) rfl)) (eb.kit ("BadDenominator", "BadPaper", false) (List.mem_of_getElem? (i := 22) rfl)) (kt_cons (eb.xc _ (List.mem_of_getElem? (i := 2) rfl)) (eb.kit ("BadFraction", "BadPaper", false) (List.mem_of_getElem? (i := 23) rfl)) (kt_cons (eb.xc _ (List.mem_of_getElem? (i := 3) rfl)) (eb.kit ("BadNumber", "BadPaper", false) (List.mem_of_getElem? (i := 24) rfl)) (kt_cons (eb.xc _ (List.mem_of_getElem? (i := 4) rfl)) (eb.kit ("BadText", "BadPaper", false) (List.mem_of_getElem? (i := 25) rfl)) (kt_cons (eb.xc _ (List.mem_of_getElem? (i := 5) rfl)) (eb.kit ("TooGreat", "BadPaper", false) (List.mem_of_getElem? (i := 26) rfl)) (kt_cons (eb.xc _ (List.mem_of_getElem? (i := 6) rfl)) (eb.kit ("Nothing", "BadPaper", false) (List.mem_of_getElem? (i := 27) rfl)) (kt_nil)))))))
  have k_BadNumber : KtOk K (mtL [("BadBase", false), ("BadDenominator", false), ("BadFraction", false), ("BadNumber", true), ("BadText", false), ("TooGreat", false), ("Nothing", false)]) (He.ga K "BadNumber") := kt_cons (eb.xc _ (List.mem_of_getElem? (i := 0) rfl)) (eb.kit ("BadBase", "BadNumber", false) (List.mem_of_getElem? (i := 28) rfl)) (kt_cons (eb.xc _ (List.mem_of_getElem? (i := 1) rfl)) (eb.kit ("BadDenominator", "BadNumber", false) (List.mem_of_getElem? (i := 29) rfl)) (kt_cons (eb.xc _ (List.mem_of_getElem? (i := 2) rfl)) (eb.kit ("BadFraction", "BadNumber", false) (List.mem_of_getElem? (i := 30) rfl)) (kt_cons (eb.xc _ (List.mem_of_getElem? (i := 3) rfl)) (eb.kit ("BadNumber", "BadNumber", true) (List.mem_of_getElem? (i := 31) rfl)) (kt_cons (eb.xc _ (List.mem_of_getElem? (i := 4) rfl)) (eb.kit ("BadText", "BadNumber", false) (List.mem_of_getElem? (i := 32) rfl)) (kt_cons (eb.xc _ (List.mem_of_getElem? (i := 5) rfl)) (eb.kit ("TooGreat", "BadNumber", false) (List.mem_of_getElem? (i := 33) rfl)) (kt_cons (eb.xc _ (List.mem_of_getElem? (i := 6) rfl)) (eb.kit ("Nothing", "BadNumber", false) (List.mem_of_getElem? (i := 34) rfl)) (kt_nil)))))))
  have k_BadDigits : KtOk K (mtL [("BadBase", false), ("BadDenominator", false), ("BadFraction", false), ("BadNumber", false), ("BadText", false), ("TooGreat", false), ("Nothing", false)]) (He.ga K "BadDigits") := kt_cons (eb.xc _ (List.mem_of_getElem? (i := 0) rfl)) (eb.kit ("BadBase", "BadDigits", false) (List.mem_of_getElem? (i := 35) rfl)) (kt_cons (eb.xc _ (List.mem_of_getElem? (i := 1) rfl)) (eb.kit ("BadDenominator", "BadDigits", false) (List.mem_of_getElem? (i := 36) rfl)) (kt_cons (eb.xc _ (List.mem_of_getElem? (i := 2) rfl)) (eb.kit ("BadFraction", "BadDigits", false) (List.mem_of_getElem? (i := 37) rfl)) (kt_cons (eb.xc _ (List.mem_of_getElem? (i := 3) rfl)) (eb.kit ("BadNumber", "BadDigits", false) (List.mem_of_getElem? (i := 38) rfl)) (kt_cons (eb.xc _ (List.mem_of_getElem? (i := 4) rfl)) (eb.kit ("BadText", "BadDigits", false) (List.mem_of_getElem? (i := 39) rfl)) (kt_cons (eb.xc _ (List.mem_of_getElem? (i := 5) rfl)) (eb.kit ("TooGreat", "BadDigits", false) (List.mem_of_getElem? (i := 40) rfl)) (kt_cons (eb.xc _ (List.mem_of_getElem? (i := 6) rfl)) (eb.kit ("Nothing", "BadDigits", false) (List.mem_of_getElem? (i := 41) rfl)) (kt_nil)))))))
  have k_BadFraction : KtOk K (mtL [("BadBase", false), ("BadDenominator", false), ("BadFraction", true), ("BadNumber", false), ("BadText", false), ("TooGreat", false), ("Nothing", false)]) (He.ga K "BadFraction") := kt_cons (eb.xc _ (List.mem_of_getElem? (i := 0) rfl)) (eb.kit ("BadBase", "BadFraction", false) (List.mem_of_getElem? (i := 42) rfl)) (kt_cons (eb.xc _ (List.mem_of_getElem? (i := 1) rfl)) (eb.kit ("BadDenominator", "BadFraction", false) (List.mem_of_getElem? (i := 43) rfl)) (kt_cons (eb.xc _ (List.mem_of_getElem? (i := 2) rfl)) (eb.kit ("BadFraction", "BadFraction", true) (List.mem_of_getElem? (i := 44) rfl)) (kt_cons (eb.xc _ (List.mem_of_getElem? (i := 3) rfl)) (eb.kit ("BadNumber", "BadFraction", false) (List.mem_of_getElem? (i := 45) rfl)) (kt_cons (eb.xc _ (List.mem_of_getElem? (i := 4) rfl)) (eb.kit ("BadText", "BadFraction", false) (List.mem_of_getElem? (i := 46) rfl)) (kt_cons (eb.xc _ (List.mem_of_getElem? (i := 5) rfl)) (eb.kit ("TooGreat", "BadFraction", false) (List.mem_of_getElem? (i := 47) rfl)) (kt_cons (eb.xc _ (List.mem_of_getElem? (i := 6) rfl)) (eb.kit ("Nothing", "BadFraction", false) (List.mem_of_getElem? (i := 48) rfl)) (kt_nil)))))))
  have k_BadDenominator : KtOk K (mtL [("BadBase", false), ("BadDenominator", true), ("BadFraction", false), ("BadNumber", false), ("BadText", false), ("TooGreat", false), ("Nothing", false)]) (He.ga K "BadDenominator") := kt_cons (eb.xc _ (List.mem_of_getElem? (i := 0) rfl)) (eb.kit ("BadBase", "BadDenominator", false) (List.mem_of_getElem? (i := 49) rfl)) (kt_cons (eb.xc _ (List.mem_of_getElem? (i := 1) rfl)) (eb.kit ("BadDenominator", "BadDenominator", true) (List.mem_of_getElem? (i := 50) rfl)) (kt_cons (eb.xc _ (List.mem_of_getElem? (i := 2) rfl)) (eb.kit ("BadFraction", "BadDenominator", false) (List.mem_of_getElem? (i := 51) rfl)) (kt_cons (eb.xc _ (List.mem_of_getElem? (i := 3) rfl)) (eb.kit ("BadNumber", "BadDenominator", false) (List.mem_of_getElem? (i := 52) rfl)) (kt_cons (eb.xc _ (List.mem_of_getElem? (i := 4) rfl)) (eb.kit ("BadText", "BadDenominator", false) (List.mem_of_getElem? (i := 53) rfl)) (kt_cons (eb.xc _ (List.mem_of_getElem? (i := 5) rfl)) (eb.kit ("TooGreat", "BadDenominator", false) (List.mem_of_getElem? (i := 54) rfl)) (kt_cons (eb.xc _ (List.mem_of_getElem? (i := 6) rfl)) (eb.kit ("Nothing", "BadDenominator", false) (List.mem_of_getElem? (i := 55) rfl)) (kt_nil)))))))
  have k_BadBase : KtOk K (mtL [("BadBase", true), ("BadDenominator", false), ("BadFraction", false), ("BadNumber", false), ("BadText", false), ("TooGreat", false), ("Nothing", false)]) (He.ga K "BadBase") := kt_cons (eb.xc _ (List.mem_of_getElem? (i := 0) rfl)) (eb.kit ("BadBase", "BadBase", true) (List.mem_of_getElem? (i := 56) rfl)) (kt_cons (eb.xc _ (List.mem_of_getElem? (i := 1) rfl)) (eb.kit ("BadDenominator", "BadBase", false) (List.mem_of_getElem? (i := 57) rfl)) (kt_cons (eb.xc _ (List.mem_of_getElem? (i := 2) rfl)) (eb.kit ("BadFraction", "BadBase", false) (List.mem_of_getElem? (i := 58) rfl)) (kt_cons (eb.xc _ (List.mem_of_getElem? (i := 3) rfl)) (eb.kit ("BadNumber", "BadBase", false) (List.mem_of_getElem? (i := 59) rfl)) (kt_cons (eb.xc _ (List.mem_of_getElem? (i := 4) rfl)) (eb.kit ("BadText", "BadBase", false) (List.mem_of_getElem? (i := 60) rfl)) (kt_cons (eb.xc _ (List.mem_of_getElem? (i := 5) rfl)) (eb.kit ("TooGreat", "BadBase", false) (List.mem_of_getElem? (i := 61) rfl)) (kt_cons (eb.xc _ (List.mem_of_getElem? (i := 6) rfl)) (eb.kit ("Nothing", "BadBase", false) (List.mem_of_getElem? (i := 62) rfl)) (kt_nil)))))))
  have f_value : FdOk K "value" ["BadBase", "BadDenominator", "BadFraction", "BadNumber", "Nothing"] := fd_cons x_BadBase.xf x_BadBase.no (fd_cons x_BadDenominator.xf x_BadDenominator.no (fd_cons x_BadFraction.xf x_BadFraction.no (fd_cons x_BadNumber.xf x_BadNumber.no (fd_cons x_Nothing.xf x_Nothing.no (fd_nil)))))
  have f_most : FdOk K "most" ["TooGreat"] := fd_cons x_TooGreat.xf x_TooGreat.no (fd_nil)
  have f_place : FdOk K "place" ["BadText"] := fd_cons x_BadText.xf x_BadText.no (fd_nil)
  have f_part : FdOk K "part" [] := fd_nil
  have ctk : CtOk ⟨K, mg⟩ (ctL ["BadBase", "BadDenominator", "BadFraction", "BadNumber", "BadText", "TooGreat", "Nothing"]) [He.ga K "WheelError", He.ga K "Nothing", He.ga K "TooGreat"] := ct_cons x_BadBase.gC (eb.ct _ (List.mem_of_getElem? (i := 0) rfl)) (ct_cons x_BadDenominator.gC (eb.ct _ (List.mem_of_getElem? (i := 1) rfl)) (ct_cons x_BadFraction.gC (eb.ct _ (List.mem_of_getElem? (i := 2) rfl)) (ct_cons x_BadNumber.gC (eb.ct _ (List.mem_of_getElem? (i := 3) rfl)) (ct_cons x_BadText.gC (eb.ct _ (List.mem_of_getElem? (i := 4) rfl)) (ct_cons x_TooGreat.gC (eb.ct _ (List.mem_of_getElem? (i := 5) rfl)) (ct_cons x_Nothing.gC (eb.ct _ (List.mem_of_getElem? (i := 6) rfl)) (ct_nil)))))))
  have ctd : CtOk ⟨K, mg⟩ (ctL ["BadBase", "BadDenominator", "BadFraction", "BadNumber", "BadText", "TooGreat", "Nothing"]) [He.ga K "WheelError", He.ga K "TooGreat", He.ga K "Nothing"] := ct_cons x_BadBase.gC (ctB_ok ed0 _ (List.mem_of_getElem? (i := 0) rfl)) (ct_cons x_BadDenominator.gC (ctB_ok ed0 _ (List.mem_of_getElem? (i := 1) rfl)) (ct_cons x_BadFraction.gC (ctB_ok ed0 _ (List.mem_of_getElem? (i := 2) rfl)) (ct_cons x_BadNumber.gC (ctB_ok ed0 _ (List.mem_of_getElem? (i := 3) rfl)) (ct_cons x_BadText.gC (ctB_ok ed0 _ (List.mem_of_getElem? (i := 4) rfl)) (ct_cons x_TooGreat.gC (ctB_ok ed0 _ (List.mem_of_getElem? (i := 5) rfl)) (ct_cons x_Nothing.gC (ctB_ok ed0 _ (List.mem_of_getElem? (i := 6) rfl)) (ct_nil)))))))
  have tb_law := hbT (("law" : Str), none) (List.mem_of_getElem? (l := tfL) (i := 0) rfl)
  have gs_law : mg "law" = some (.ref (He.fAd K ("law", none))) := He.glo_ok X G (c.fact 41 (f := .glo "law") rfl)
  have D_is_number_text : IsDef K mg "is_number_text" st_is_number_text := by
    obtain ⟨fd, F⟩ := c.def_ 0 (d := dd_is_number_text) rfl
    exact ⟨_, fd, F, He.glo_ok X G (c.fact 0 (f := .glo "is_number_text") rfl)⟩
  have D_number_in : IsDef K mg "number_in" st_number_in := by
    obtain ⟨fd, F⟩ := c.def_ 1 (d := dd_number_in) rfl
    exact ⟨_, fd, F, He.glo_ok X G (c.fact 1 (f := .glo "number_in") rfl)⟩
  have D_common_divisor : IsDef K mg "common_divisor" st_common_divisor := by
    obtain ⟨fd, F⟩ := c.def_ 2 (d := dd_common_divisor) rfl
    exact ⟨_, fd, F, He.glo_ok X G (c.fact 2 (f := .glo "common_divisor") rfl)⟩
  have D_pure_part_of : IsDef K mg "pure_part_of" st_pure_part_of := by
    obtain ⟨fd, F⟩ := c.def_ 3 (d := dd_pure_part_of) rfl
    exact ⟨_, fd, F, He.glo_ok X G (c.fact 3 (f := .glo "pure_part_of") rfl)⟩
  have D_period_of : IsDef K mg "period_of" st_period_of := by
    obtain ⟨fd, F⟩ := c.def_ 4 (d := dd_period_of) rfl
    exact ⟨_, fd, F, He.glo_ok X G (c.fact 4 (f := .glo "period_of") rfl)⟩
  have D_power_rest : IsDef K mg "power_rest" st_power_rest := by
    obtain ⟨fd, F⟩ := c.def_ 5 (d := dd_power_rest) rfl
    exact ⟨_, fd, F, He.glo_ok X G (c.fact 5 (f := .glo "power_rest") rfl)⟩
  have D_steps_of : IsDef K mg "steps_of" st_steps_of := by
    obtain ⟨fd, F⟩ := c.def_ 6 (d := dd_steps_of) rfl
    exact ⟨_, fd, F, He.glo_ok X G (c.fact 6 (f := .glo "steps_of") rfl)⟩
  have D_is_balanced_by : IsDef K mg "is_balanced_by" st_is_balanced_by := by
    obtain ⟨fd, F⟩ := c.def_ 7 (d := dd_is_balanced_by) rfl
    exact ⟨_, fd, F, He.glo_ok X G (c.fact 7 (f := .glo "is_balanced_by") rfl)⟩
  have D_is_integer : IsDef K mg "is_integer" st_is_integer := by
    obtain ⟨fd, F⟩ := c.def_ 8 (d := dd_is_integer) rfl
    exact ⟨_, fd, F, He.glo_ok X G (c.fact 8 (f := .glo "is_integer") rfl)⟩
  have D_is_whole : IsDef K mg "is_whole" st_is_whole := by
    obtain ⟨fd, F⟩ := c.def_ 9 (d := dd_is_whole) rfl
    exact ⟨_, fd, F, He.glo_ok X G (c.fact 9 (f := .glo "is_whole") rfl)⟩
  have D_need_cut : IsDef K mg "need_cut" st_need_cut := by
    obtain ⟨fd, F⟩ := c.def_ 10 (d := dd_need_cut) rfl
    exact ⟨_, fd, F, He.glo_ok X G (c.fact 10 (f := .glo "need_cut") rfl)⟩
  have D_need_denominator : IsDef K mg "need_denominator" st_need_denominator := by
    obtain ⟨fd, F⟩ := c.def_ 11 (d := dd_need_denominator) rfl
    exact ⟨_, fd, F, He.glo_ok X G (c.fact 11 (f := .glo "need_denominator") rfl)⟩
  have D_need_base : IsDef K mg "need_base" st_need_base := by
    obtain ⟨fd, F⟩ := c.def_ 12 (d := dd_need_base) rfl
    exact ⟨_, fd, F, He.glo_ok X G (c.fact 12 (f := .glo "need_base") rfl)⟩
  have D_is_pure : IsDef K mg "is_pure" st_is_pure := by
    obtain ⟨fd, F⟩ := c.def_ 13 (d := dd_is_pure) rfl
    exact ⟨_, fd, F, He.glo_ok X G (c.fact 13 (f := .glo "is_pure") rfl)⟩
  have D_need_pure : IsDef K mg "need_pure" st_need_pure := by
    obtain ⟨fd, F⟩ := c.def_ 14 (d := dd_need_pure) rfl
    exact ⟨_, fd, F, He.glo_ok X G (c.fact 14 (f := .glo "need_pure") rfl)⟩
  have D_is_balanced : IsDef K mg "is_balanced" st_is_balanced := by
    obtain ⟨fd, F⟩ := c.def_ 15 (d := dd_is_balanced) rfl
    exact ⟨_, fd, F, He.glo_ok X G (c.fact 15 (f := .glo "is_balanced") rfl)⟩
  have D_wheel_of : IsDef K mg "wheel_of" st_wheel_of := by
    obtain ⟨fd, F⟩ := c.def_ 16 (d := dd_wheel_of) rfl
    exact ⟨_, fd, F, He.glo_ok X G (c.fact 16 (f := .glo "wheel_of") rfl)⟩
  have D_wheels : IsDef K mg "wheels" st_wheels := by
    obtain ⟨fd, F⟩ := c.def_ 17 (d := dd_wheels) rfl
    exact ⟨_, fd, F, He.glo_ok X G (c.fact 17 (f := .glo "wheels") rfl)⟩
  have D_cuts_of : IsDef K mg "cuts_of" st_cuts_of := by
    obtain ⟨fd, F⟩ := c.def_ 18 (d := dd_cuts_of) rfl
    exact ⟨_, fd, F, He.glo_ok X G (c.fact 18 (f := .glo "cuts_of") rfl)⟩
  have D_cuts : IsDef K mg "cuts" st_cuts := by
    obtain ⟨fd, F⟩ := c.def_ 19 (d := dd_cuts) rfl
    exact ⟨_, fd, F, He.glo_ok X G (c.fact 19 (f := .glo "cuts") rfl)⟩
  have D_least_cuts : IsDef K mg "least_cuts" st_least_cuts := by
    obtain ⟨fd, F⟩ := c.def_ 20 (d := dd_least_cuts) rfl
    exact ⟨_, fd, F, He.glo_ok X G (c.fact 20 (f := .glo "least_cuts") rfl)⟩
  have D_spaced : IsDef K mg "spaced" st_spaced := by
    obtain ⟨fd, F⟩ := c.def_ 21 (d := dd_spaced) rfl
    exact ⟨_, fd, F, He.glo_ok X G (c.fact 21 (f := .glo "spaced") rfl)⟩
  have D_period : IsDef K mg "period" st_period := by
    obtain ⟨fd, F⟩ := c.def_ 22 (d := dd_period) rfl
    exact ⟨_, fd, F, He.glo_ok X G (c.fact 22 (f := .glo "period") rfl)⟩
  have D_Desk_asked : IsMeth K "Desk" "asked" st_Desk_asked := c.def_ 23 (d := dd_Desk_asked) rfl
  have D_is_fraction : IsDef K mg "is_fraction" st_is_fraction := by
    obtain ⟨fd, F⟩ := c.def_ 24 (d := dd_is_fraction) rfl
    exact ⟨_, fd, F, He.glo_ok X G (c.fact 23 (f := .glo "is_fraction") rfl)⟩
  have D_need_fraction : IsDef K mg "need_fraction" st_need_fraction := by
    obtain ⟨fd, F⟩ := c.def_ 25 (d := dd_need_fraction) rfl
    exact ⟨_, fd, F, He.glo_ok X G (c.fact 24 (f := .glo "need_fraction") rfl)⟩
  have D_run_size : IsDef K mg "run_size" st_run_size := by
    obtain ⟨fd, F⟩ := c.def_ 26 (d := dd_run_size) rfl
    exact ⟨_, fd, F, He.glo_ok X G (c.fact 25 (f := .glo "run_size") rfl)⟩
  have D_read_fraction : IsDef K mg "read_fraction" st_read_fraction := by
    obtain ⟨fd, F⟩ := c.def_ 27 (d := dd_read_fraction) rfl
    exact ⟨_, fd, F, He.glo_ok X G (c.fact 26 (f := .glo "read_fraction") rfl)⟩
  have D_need_place : IsDef K mg "need_place" st_need_place := by
    obtain ⟨fd, F⟩ := c.def_ 28 (d := dd_need_place) rfl
    exact ⟨_, fd, F, He.glo_ok X G (c.fact 27 (f := .glo "need_place") rfl)⟩
  have D_lowest : IsDef K mg "lowest" st_lowest := by
    obtain ⟨fd, F⟩ := c.def_ 29 (d := dd_lowest) rfl
    exact ⟨_, fd, F, He.glo_ok X G (c.fact 28 (f := .glo "lowest") rfl)⟩
  have D_Dial_show : IsMeth K "Dial" "show" st_Dial_show := c.def_ 30 (d := dd_Dial_show) rfl
  have D_Dial_scale : IsMeth K "Dial" "scale" st_Dial_scale := c.def_ 31 (d := dd_Dial_scale) rfl
  have D_remainder_in : IsDef K mg "remainder_in" st_remainder_in := by
    obtain ⟨fd, F⟩ := c.def_ 32 (d := dd_remainder_in) rfl
    exact ⟨_, fd, F, He.glo_ok X G (c.fact 29 (f := .glo "remainder_in") rfl)⟩
  have D_Dial_turn : IsMeth K "Dial" "turn" st_Dial_turn := c.def_ 33 (d := dd_Dial_turn) rfl
  have D_Dial_add : IsMeth K "Dial" "add" st_Dial_add := c.def_ 34 (d := dd_Dial_add) rfl
  have D_Desk_moved : IsMeth K "Desk" "moved" st_Desk_moved := c.def_ 35 (d := dd_Desk_moved) rfl
  have D_digits_after : IsDef K mg "digits_after" st_digits_after := by
    obtain ⟨fd, F⟩ := c.def_ 36 (d := dd_digits_after) rfl
    exact ⟨_, fd, F, He.glo_ok X G (c.fact 30 (f := .glo "digits_after") rfl)⟩
  have D_head_size : IsDef K mg "head_size" st_head_size := by
    obtain ⟨fd, F⟩ := c.def_ 37 (d := dd_head_size) rfl
    exact ⟨_, fd, F, He.glo_ok X G (c.fact 31 (f := .glo "head_size") rfl)⟩
  have D_expansion_of : IsDef K mg "expansion_of" st_expansion_of := by
    obtain ⟨fd, F⟩ := c.def_ 38 (d := dd_expansion_of) rfl
    exact ⟨_, fd, F, He.glo_ok X G (c.fact 32 (f := .glo "expansion_of") rfl)⟩
  have D_expansion : IsDef K mg "expansion" st_expansion := by
    obtain ⟨fd, F⟩ := c.def_ 39 (d := dd_expansion) rfl
    exact ⟨_, fd, F, He.glo_ok X G (c.fact 33 (f := .glo "expansion") rfl)⟩
  have D_expansion_text : IsDef K mg "expansion_text" st_expansion_text := by
    obtain ⟨fd, F⟩ := c.def_ 40 (d := dd_expansion_text) rfl
    exact ⟨_, fd, F, He.glo_ok X G (c.fact 34 (f := .glo "expansion_text") rfl)⟩
  have D_fraction_text : IsDef K mg "fraction_text" st_fraction_text := by
    obtain ⟨fd, F⟩ := c.def_ 41 (d := dd_fraction_text) rfl
    exact ⟨_, fd, F, He.glo_ok X G (c.fact 35 (f := .glo "fraction_text") rfl)⟩
  have D_Dial___len__ : IsMeth K "Dial" "__len__" st_Dial___len__ := c.def_ 42 (d := dd_Dial___len__) rfl
  have D_Dial_undo : ∃ fd, FunD K "undo" ("Dial" ++ "." ++ "undo") (defArgs st_Dial_undo) (defBody st_Dial_undo) (defScope st_Dial_undo) [] [("many", .int (1 : Nat))] (He.ma K (He.ga K "Dial") "undo") fd := c.def_ 43 (d := dd_Dial_undo) rfl
  have D_Desk_alone : IsMeth K "Desk" "alone" st_Desk_alone := c.def_ 44 (d := dd_Desk_alone) rfl
  have D_Desk_answered : IsMeth K "Desk" "answered" st_Desk_answered := c.def_ 45 (d := dd_Desk_answered) rfl
  have D_Desk_say : IsMeth K "Desk" "say" st_Desk_say := c.def_ 46 (d := dd_Desk_say) rfl
  have D_Dial___eq__ : IsMeth K "Dial" "__eq__" st_Dial___eq__ := c.def_ 47 (d := dd_Dial___eq__) rfl
  have D_Dial___init__ : IsMeth K "Dial" "__init__" st_Dial___init__ := c.def_ 48 (d := dd_Dial___init__) rfl
  have D_Desk___init__ : IsMeth K "Desk" "__init__" st_Desk___init__ := c.def_ 49 (d := dd_Desk___init__) rfl
  have D__law_dial_right : IsDef K mg "_law_dial_right" st__law_dial_right := by
    obtain ⟨fd, F⟩ := c.def_ 50 (d := dd__law_dial_right) rfl
    exact ⟨_, fd, F, He.glo_ok X G (c.fact 36 (f := .glo "_law_dial_right") rfl)⟩
  have D__law_odd_right : IsDef K mg "_law_odd_right" st__law_odd_right := by
    obtain ⟨fd, F⟩ := c.def_ 51 (d := dd__law_odd_right) rfl
    exact ⟨_, fd, F, He.glo_ok X G (c.fact 37 (f := .glo "_law_odd_right") rfl)⟩
  have D__law_first_right : IsDef K mg "_law_first_right" st__law_first_right := by
    obtain ⟨fd, F⟩ := c.def_ 52 (d := dd__law_first_right) rfl
    exact ⟨_, fd, F, He.glo_ok X G (c.fact 38 (f := .glo "_law_first_right") rfl)⟩
  have D__law_word : IsDef K mg "_law_word" st__law_word := by
    obtain ⟨fd, F⟩ := c.def_ 53 (d := dd__law_word) rfl
    exact ⟨_, fd, F, He.glo_ok X G (c.fact 39 (f := .glo "_law_word") rfl)⟩
  have D__law_outcome : IsDef K mg "_law_outcome" st__law_outcome := by
    obtain ⟨fd, F⟩ := c.def_ 54 (d := dd__law_outcome) rfl
    exact ⟨_, fd, F, He.glo_ok X G (c.fact 40 (f := .glo "_law_outcome") rfl)⟩
  have i_Dial_base : gd_Dial_base ∈ gsL := List.mem_of_getElem? (i := 0) rfl
  have D_Dial_base : IsGet K "Dial" "base" st_Dial_base := GD.get (ce.ok i_Dial_base) (ce.gt _ i_Dial_base)
  have pr_Dial_base : PropOf K (He.ga K "Dial") "base" (prA K "Dial" "base") (gtA K "Dial" "base") := GD.prop (ce.ok i_Dial_base)
  have i_Dial_fraction : gd_Dial_fraction ∈ gsL := List.mem_of_getElem? (i := 1) rfl
  have D_Dial_fraction : IsGet K "Dial" "fraction" st_Dial_fraction := GD.get (ce.ok i_Dial_fraction) (ce.gt _ i_Dial_fraction)
  have pr_Dial_fraction : PropOf K (He.ga K "Dial") "fraction" (prA K "Dial" "fraction") (gtA K "Dial" "fraction") := GD.prop (ce.ok i_Dial_fraction)
  have i_Desk_dial : gd_Desk_dial ∈ gsL := List.mem_of_getElem? (i := 2) rfl
  have D_Desk_dial : IsGet K "Desk" "dial" st_Desk_dial := GD.get (ce.ok i_Desk_dial) (ce.gt _ i_Desk_dial)
  have pr_Desk_dial : PropOf K (He.ga K "Desk") "dial" (prA K "Desk" "dial") (gtA K "Desk" "dial") := GD.prop (ce.ok i_Desk_dial)
  have n_all : mg "all" = none := He.free_ok X G (c.fact 44 (f := .free "all") rfl)
  have n_len : mg "len" = none := He.free_ok X G (c.fact 45 (f := .free "len") rfl)
  have n_int : mg "int" = none := He.free_ok X G (c.fact 46 (f := .free "int") rfl)
  have n_sum : mg "sum" = none := He.free_ok X G (c.fact 47 (f := .free "sum") rfl)
  have n_isinstance : mg "isinstance" = none := He.free_ok X G (c.fact 48 (f := .free "isinstance") rfl)
  have n_bool : mg "bool" = none := He.free_ok X G (c.fact 49 (f := .free "bool") rfl)
  have n_tuple : mg "tuple" = none := He.free_ok X G (c.fact 50 (f := .free "tuple") rfl)
  have n_range : mg "range" = none := He.free_ok X G (c.fact 51 (f := .free "range") rfl)
  have n_str : mg "str" = none := He.free_ok X G (c.fact 52 (f := .free "str") rfl)
  have n_repr : mg "repr" = none := He.free_ok X G (c.fact 53 (f := .free "repr") rfl)
  have g_FIGURES : ∃ t, mg "FIGURES" = some (.str "0123456789" t) := He.str_ok X G (c.fact 54 (f := .str "FIGURES" "0123456789") rfl)
  have g_MOST_FIGURES : ∃ t, mg "MOST_FIGURES" = some (.int 40 t) := He.int_ok X G (c.fact 55 (f := .int "MOST_FIGURES" 40) rfl)
  have g_MOST_DENOMINATOR : ∃ t, mg "MOST_DENOMINATOR" = some (.int 5000 t) := He.int_ok X G (c.fact 56 (f := .int "MOST_DENOMINATOR" 5000) rfl)
  have g_MOST_BASE : ∃ t, mg "MOST_BASE" = some (.int 1000 t) := He.int_ok X G (c.fact 57 (f := .int "MOST_BASE" 1000) rfl)
  have g_NONE : ∃ t, mg "NONE" = some (.str "none" t) := He.str_ok X G (c.fact 58 (f := .str "NONE" "none") rfl)
  have g_STROKE : ∃ t, mg "STROKE" = some (.str "/" t) := He.str_ok X G (c.fact 59 (f := .str "STROKE" "/") rfl)
  have g_MOST_PLACE : ∃ t, mg "MOST_PLACE" = some (.int 1000000000000000000000000000000 t) := He.int_ok X G (c.fact 60 (f := .int "MOST_PLACE" 1000000000000000000000000000000) rfl)
  have g_DONE : ∃ t, mg "DONE" = some (.str "done" t) := He.str_ok X G (c.fact 61 (f := .str "DONE" "done") rfl)
  have g_SHUT : ∃ t, mg "SHUT" = some (.str ")" t) := He.str_ok X G (c.fact 62 (f := .str "SHUT" ")") rfl)
  have g_OPEN : ∃ t, mg "OPEN" = some (.str "(" t) := He.str_ok X G (c.fact 63 (f := .str "OPEN" "(") rfl)
  have g_NOTHING : ∃ t, mg "NOTHING" = some (.str "nothing" t) := He.str_ok X G (c.fact 64 (f := .str "NOTHING" "nothing") rfl)
  have g_YES : ∃ t, mg "YES" = some (.str "yes" t) := He.str_ok X G (c.fact 65 (f := .str "YES" "yes") rfl)
  have g_NOT : ∃ t, mg "NOT" = some (.str "not" t) := He.str_ok X G (c.fact 66 (f := .str "NOT" "not") rfl)
  have g_NO : ∃ t, mg "NO" = some (.str "no" t) := He.str_ok X G (c.fact 67 (f := .str "NO" "no") rfl)
  have c_Dial : Cls K (He.ga K "Dial") := He.cls_ok (c.fact 68 (f := .cls "Dial") rfl)
  have c_Desk : Cls K (He.ga K "Desk") := He.cls_ok (c.fact 69 (f := .cls "Desk") rfl)
  have ic_Dial : C8.InsC K (He.ga K "Dial") := insCB_ok c_Dial ic0_Dial
  have gc_Dial : mg "Dial" = some (.ref (He.ga K "Dial")) := He.glo_ok X G (c.fact 42 (f := .glo "Dial") rfl)
  have na_Dial_own_base : NoAttr K (He.ga K "Dial") "own_base" := He.noat_ok (c.fact 70 (f := .noat "Dial" "own_base") rfl)
  have na_Desk_own_dial : NoAttr K (He.ga K "Desk") "own_dial" := He.noat_ok (c.fact 71 (f := .noat "Desk" "own_dial") rfl)
  have na_Dial_past : NoAttr K (He.ga K "Dial") "past" := He.noat_ok (c.fact 72 (f := .noat "Dial" "past") rfl)
  have me_Dial_show : Meth K (He.ga K "Dial") "show" (He.ma K (He.ga K "Dial") "show") := He.meth_ok (c.fact 73 (f := .meth "Dial" "show") rfl)
  have me_Dial_scale : Meth K (He.ga K "Dial") "scale" (He.ma K (He.ga K "Dial") "scale") := He.meth_ok (c.fact 74 (f := .meth "Dial" "scale") rfl)
  have me_Dial_turn : Meth K (He.ga K "Dial") "turn" (He.ma K (He.ga K "Dial") "turn") := He.meth_ok (c.fact 75 (f := .meth "Dial" "turn") rfl)
  have me_Dial_add : Meth K (He.ga K "Dial") "add" (He.ma K (He.ga K "Dial") "add") := He.meth_ok (c.fact 76 (f := .meth "Dial" "add") rfl)
  have me_Dial___len__ : Meth K (He.ga K "Dial") "__len__" (He.ma K (He.ga K "Dial") "__len__") := He.meth_ok (c.fact 77 (f := .meth "Dial" "__len__") rfl)
  have me_Desk_asked : Meth K (He.ga K "Desk") "asked" (He.ma K (He.ga K "Desk") "asked") := He.meth_ok (c.fact 78 (f := .meth "Desk" "asked") rfl)
  have me_Desk_moved : Meth K (He.ga K "Desk") "moved" (He.ma K (He.ga K "Desk") "moved") := He.meth_ok (c.fact 79 (f := .meth "Desk" "moved") rfl)
  have me_Desk_alone : Meth K (He.ga K "Desk") "alone" (He.ma K (He.ga K "Desk") "alone") := He.meth_ok (c.fact 80 (f := .meth "Desk" "alone") rfl)
  have me_Desk_answered : Meth K (He.ga K "Desk") "answered" (He.ma K (He.ga K "Desk") "answered") := He.meth_ok (c.fact 81 (f := .meth "Desk" "answered") rfl)
  have me_Desk_say : Meth K (He.ga K "Desk") "say" (He.ma K (He.ga K "Desk") "say") := He.meth_ok (c.fact 82 (f := .meth "Desk" "say") rfl)
  have me_Dial___eq__ : Meth K (He.ga K "Dial") "__eq__" (He.ma K (He.ga K "Dial") "__eq__") := He.meth_ok (c.fact 83 (f := .meth "Dial" "__eq__") rfl)
  have me_Dial_undo : Meth K (He.ga K "Dial") "undo" (He.ma K (He.ga K "Dial") "undo") := He.meth_ok (c.fact 84 (f := .meth "Dial" "undo") rfl)
  have h_is_number_text := p_is_number_text (P := P) (w := w) (mg := mg) (base := base) D_is_number_text n_all n_len g_FIGURES g_MOST_FIGURES
  have h_number_in := p_number_in (P := P) (w := w) (mg := mg) (base := base) D_number_in h_is_number_text x_BadText n_int
  have h_common_divisor := p_common_divisor (P := P) (w := w) (mg := mg) (base := base) D_common_divisor
  have h_pure_part_of := p_pure_part_of (P := P) (w := w) (mg := mg) (base := base) D_pure_part_of h_common_divisor
  have h_period_of := p_period_of (P := P) (w := w) (mg := mg) (base := base) D_period_of h_pure_part_of
  have h_power_rest := p_power_rest (P := P) (w := w) (mg := mg) (base := base) D_power_rest
  have h_steps_of := p_steps_of (P := P) (w := w) (mg := mg) (base := base) D_steps_of h_period_of h_power_rest n_len
  have h_is_balanced_by := p_is_balanced_by (P := P) (w := w) (mg := mg) (base := base) D_is_balanced_by h_steps_of n_sum
  have h_is_integer := p_is_integer (P := P) (w := w) (mg := mg) (base := base) D_is_integer n_isinstance n_bool n_int
  have h_is_whole := p_is_whole (P := P) (w := w) (mg := mg) (base := base) D_is_whole h_is_integer
  have h_need_cut := p_need_cut (P := P) (w := w) (mg := mg) (base := base) D_need_cut h_is_whole h_period_of x_BadNumber
  have h_need_denominator := p_need_denominator (P := P) (w := w) (mg := mg) (base := base) D_need_denominator h_is_whole x_BadDenominator g_MOST_DENOMINATOR
  have h_need_base := p_need_base (P := P) (w := w) (mg := mg) (base := base) D_need_base h_is_whole x_BadBase g_MOST_BASE
  have h_is_pure := p_is_pure (P := P) (w := w) (mg := mg) (base := base) D_is_pure h_common_divisor
  have h_need_pure := p_need_pure (P := P) (w := w) (mg := mg) (base := base) D_need_pure h_need_denominator h_need_base h_is_pure x_BadDenominator
  have h_is_balanced := p_is_balanced (P := P) (w := w) (mg := mg) (base := base) D_is_balanced h_is_balanced_by h_need_cut h_need_pure
  have h_wheel_of := p_wheel_of (P := P) (w := w) (mg := mg) (base := base) D_wheel_of
  have h_wheels := p_wheels (P := P) (w := w) (mg := mg) (base := base) D_wheels h_common_divisor h_wheel_of h_need_pure n_tuple n_range
  have h_cuts_of := p_cuts_of (P := P) (w := w) (mg := mg) (base := base) D_cuts_of h_is_balanced_by h_period_of n_range
  have h_cuts := p_cuts (P := P) (w := w) (mg := mg) (base := base) D_cuts h_need_pure h_cuts_of n_tuple
  have h_least_cuts := p_least_cuts (P := P) (w := w) (mg := mg) (base := base) D_least_cuts h_cuts n_tuple
  have h_spaced := p_spaced (P := P) (w := w) (mg := mg) (base := base) D_spaced n_str g_NONE
  have h_period := p_period (P := P) (w := w) (mg := mg) (base := base) D_period h_need_denominator h_need_base h_period_of
  have h_Dial_base := p_Dial_base (P := P) (w := w) (mg := mg) (base := base) D_Dial_base c_Dial na_Dial_own_base
  have P_Dial_base : PropS P w K mg base "Dial" "base" ["self"] m_Dial_base 1 := ⟨prA K "Dial" "base", gtA K "Dial" "base", pr_Dial_base, h_Dial_base⟩
  have h_Desk_asked := p_Desk_asked (P := P) (w := w) (mg := mg) (base := base) D_Desk_asked h_wheels h_least_cuts h_spaced h_cuts h_period P_Dial_base c_Desk c_Dial na_Desk_own_dial n_len n_str
  have M_Desk_asked : MethS P w K mg base "Desk" "asked" ["self", "word", "number"] m_Desk_asked 9 := ⟨me_Desk_asked, h_Desk_asked⟩
  have h_is_fraction := p_is_fraction (P := P) (w := w) (mg := mg) (base := base) D_is_fraction h_common_divisor h_is_whole n_len n_isinstance n_tuple g_MOST_DENOMINATOR
  have h_need_fraction := p_need_fraction (P := P) (w := w) (mg := mg) (base := base) D_need_fraction h_is_fraction x_BadFraction
  have h_run_size := p_run_size (P := P) (w := w) (mg := mg) (base := base) D_run_size n_len g_FIGURES
  have h_read_fraction := p_read_fraction (P := P) (w := w) (mg := mg) (base := base) D_read_fraction h_need_fraction h_is_number_text h_run_size x_BadText n_int n_isinstance n_str g_STROKE
  have h_need_place := p_need_place (P := P) (w := w) (mg := mg) (base := base) D_need_place h_is_whole x_BadNumber
  have h_lowest := p_lowest (P := P) (w := w) (mg := mg) (base := base) D_lowest h_common_divisor
  have h_Dial_show := p_Dial_show (P := P) (w := w) (mg := mg) (base := base) D_Dial_show h_lowest c_Dial na_Dial_past x_TooGreat g_MOST_DENOMINATOR
  have M_Dial_show : MethS P w K mg base "Dial" "show" ["self", "numerator", "denominator"] m_Dial_show 3 := ⟨me_Dial_show, h_Dial_show⟩
  have h_Dial_fraction := p_Dial_fraction (P := P) (w := w) (mg := mg) (base := base) D_Dial_fraction c_Dial na_Dial_past
  have P_Dial_fraction : PropS P w K mg base "Dial" "fraction" ["self"] m_Dial_fraction 1 := ⟨prA K "Dial" "fraction", gtA K "Dial" "fraction", pr_Dial_fraction, h_Dial_fraction⟩
  have h_Dial_scale := p_Dial_scale (P := P) (w := w) (mg := mg) (base := base) D_Dial_scale h_need_place M_Dial_show P_Dial_fraction c_Dial g_MOST_PLACE
  have M_Dial_scale : MethS P w K mg base "Dial" "scale" ["self", "times"] m_Dial_scale 4 := ⟨me_Dial_scale, h_Dial_scale⟩
  have h_remainder_in := p_remainder_in (P := P) (w := w) (mg := mg) (base := base) D_remainder_in h_power_rest
  have h_Dial_turn := p_Dial_turn (P := P) (w := w) (mg := mg) (base := base) D_Dial_turn h_need_place h_remainder_in M_Dial_show P_Dial_fraction c_Dial na_Dial_own_base g_MOST_PLACE
  have M_Dial_turn : MethS P w K mg base "Dial" "turn" ["self", "many"] m_Dial_turn 4 := ⟨me_Dial_turn, h_Dial_turn⟩
  have h_Dial_add := p_Dial_add (P := P) (w := w) (mg := mg) (base := base) D_Dial_add h_need_fraction M_Dial_show P_Dial_fraction c_Dial
  have M_Dial_add : MethS P w K mg base "Dial" "add" ["self", "other"] m_Dial_add 5 := ⟨me_Dial_add, h_Dial_add⟩
  have h_Desk_moved := p_Desk_moved (P := P) (w := w) (mg := mg) (base := base) D_Desk_moved h_number_in h_read_fraction M_Dial_scale M_Dial_turn M_Dial_add c_Desk c_Dial na_Desk_own_dial g_DONE
  have M_Desk_moved : MethS P w K mg base "Desk" "moved" ["self", "word", "text"] m_Desk_moved 6 := ⟨me_Desk_moved, h_Desk_moved⟩
  have h_digits_after := p_digits_after (P := P) (w := w) (mg := mg) (base := base) D_digits_after n_tuple n_range
  have h_head_size := p_head_size (P := P) (w := w) (mg := mg) (base := base) D_head_size h_common_divisor h_need_denominator h_need_base
  have h_expansion_of := p_expansion_of (P := P) (w := w) (mg := mg) (base := base) D_expansion_of h_period_of h_digits_after h_head_size
  have h_expansion := p_expansion (P := P) (w := w) (mg := mg) (base := base) D_expansion h_need_fraction h_need_base h_expansion_of
  have h_expansion_text := p_expansion_text (P := P) (w := w) (mg := mg) (base := base) D_expansion_text h_expansion n_str g_SHUT g_OPEN
  have h_fraction_text := p_fraction_text (P := P) (w := w) (mg := mg) (base := base) D_fraction_text h_need_fraction g_STROKE
  have h_Dial___len__ := p_Dial___len__ (P := P) (w := w) (mg := mg) (base := base) D_Dial___len__ c_Dial na_Dial_past n_len
  have M_Dial___len__ : MethS P w K mg base "Dial" "__len__" ["self"] m_Dial___len__ 1 := ⟨me_Dial___len__, h_Dial___len__⟩
  have h_Dial_undo := p_Dial_undo (P := P) (w := w) (mg := mg) (base := base) D_Dial_undo h_is_integer M_Dial___len__ c_Dial na_Dial_past x_Nothing x_BadNumber n_len
  have MD_Dial_undo : MethSD P w K mg base "Dial" "undo" ["self", "many"] (.int (1 : Nat)) (.int (1 : Nat)) m_Dial_undo 3 := ⟨me_Dial_undo, h_Dial_undo, fun _ => .int _⟩
  have h_Desk_alone := p_Desk_alone (P := P) (w := w) (mg := mg) (base := base) D_Desk_alone h_expansion_text h_fraction_text M_Dial___len__ P_Dial_fraction P_Dial_base MD_Dial_undo c_Desk c_Dial na_Desk_own_dial n_len n_str g_DONE g_NOTHING
  have M_Desk_alone : MethS P w K mg base "Desk" "alone" ["self", "word"] m_Desk_alone 8 := ⟨me_Desk_alone, h_Desk_alone⟩
  have h_Desk_answered := p_Desk_answered (P := P) (w := w) (mg := mg) (base := base) D_Desk_answered h_number_in h_is_balanced M_Desk_asked M_Desk_moved M_Desk_alone P_Dial_base c_Desk c_Dial na_Desk_own_dial n_len g_YES g_NOT
  have M_Desk_answered : MethS P w K mg base "Desk" "answered" ["self", "words"] m_Desk_answered 10 := ⟨me_Desk_answered, h_Desk_answered⟩
  have h_Desk_say := p_Desk_say (P := P) (w := w) (mg := mg) (base := base) D_Desk_say M_Desk_answered c_Desk x_BadText c_WheelError c_TooGreat c_Nothing ctd n_isinstance n_str g_NO
  have M_Desk_say : MethS P w K mg base "Desk" "say" ["self", "line"] m_Desk_say 11 := ⟨me_Desk_say, h_Desk_say⟩
  have h_Dial___eq__ := p_Dial___eq__ (P := P) (w := w) (mg := mg) (base := base) D_Dial___eq__ P_Dial_fraction c_Dial na_Dial_own_base ic_Dial gc_Dial n_isinstance
  have M_Dial___eq__ : MethS P w K mg base "Dial" "__eq__" ["self", "other"] m_Dial___eq__ 3 := ⟨me_Dial___eq__, h_Dial___eq__⟩
  have h_Desk_dial := p_Desk_dial (P := P) (w := w) (mg := mg) (base := base) D_Desk_dial c_Desk na_Desk_own_dial
  have P_Desk_dial : PropS P w K mg base "Desk" "dial" ["self"] m_Desk_dial 1 := ⟨prA K "Desk" "dial", gtA K "Desk" "dial", pr_Desk_dial, h_Desk_dial⟩
  have h_Dial___init__ := p_Dial___init__ (P := P) (w := w) (mg := mg) (base := base) D_Dial___init__ h_need_fraction h_need_base c_Dial na_Dial_past na_Dial_own_base
  have mk_Dial : MkS P w K mg base "Dial" ["self", "base", "fraction"] m_Dial___init__ 5 := ⟨He.glo_ok X G (c.fact 42 (f := .glo "Dial") rfl), He.mkr_ok (c.fact 85 (f := .mkr "Dial") rfl), h_Dial___init__⟩
  have h_Desk___init__ := p_Desk___init__ (P := P) (w := w) (mg := mg) (base := base) D_Desk___init__ mk_Dial c_Desk na_Desk_own_dial
  have mk_Desk : MkS P w K mg base "Desk" ["self", "base"] m_Desk___init__ 7 := ⟨He.glo_ok X G (c.fact 43 (f := .glo "Desk") rfl), He.mkr_ok (c.fact 86 (f := .mkr "Desk") rfl), h_Desk___init__⟩
  have h__law_dial_right := p__law_dial_right (P := P) (w := w) (mg := mg) (base := base) D__law_dial_right M_Desk_say M_Dial___eq__ M_Dial___len__ M_Dial_add P_Dial_fraction P_Desk_dial P_Dial_base MD_Dial_undo mk_Desk c_Dial c_Desk n_len
  have h__law_odd_right := p__law_odd_right (P := P) (w := w) (mg := mg) (base := base) D__law_odd_right M_Desk_say P_Desk_dial P_Dial_fraction mk_Desk c_Desk c_Dial
  have h__law_first_right := p__law_first_right (P := P) (w := w) (mg := mg) (base := base) D__law_first_right M_Desk_say mk_Desk c_Desk
  have h__law_word := p__law_word (P := P) (w := w) (mg := mg) (base := base) D__law_word k_Nothing k_TooGreat k_BadText k_BadPaper k_BadNumber k_BadDigits k_BadFraction k_BadDenominator k_BadBase c_Nothing c_TooGreat c_BadText c_BadPaper c_BadNumber c_BadDigits c_BadFraction c_BadDenominator c_BadBase f_value f_most f_place f_part n_len n_isinstance
  have h_law := p_law (P := P) (w := w) (mg := mg) (base := base) F h__law_dial_right h__law_odd_right h__law_first_right h__law_word M_Desk_say mk_Desk c_Desk c_WheelError c_Nothing c_TooGreat D__law_outcome ctk eb.nd tb_law gs_law hmf n_repr
  exact h_law
end LAW
end
open PySem PySem.W PySem.Calls PyProof.Rows
set_option maxRecDepth 100000 in
set_option maxHeartbeats 0 in
theorem PySem.Challenge.cw_wheelnines_k21_desks_by_hand_holds : PySem.Challenge.rw_wheelnines_k21_desks_by_hand.Holds := by
  w_on; o_law
  refine HandSHeadRun.head_any (r := OpenLaw.row PySem.Challenge.rw_wheelnines_k21_desks_by_hand) (q := view (OpenLaw.row PySem.Challenge.rw_wheelnines_k21_desks_by_hand).prog [79]) (H := LAW.hk) (ob := LAW.ob) (M := 20000) (loose := LAW.names) (d := HandSHeadRun.topDef (OpenLaw.row PySem.Challenge.rw_wheelnines_k21_desks_by_hand).prog 79) (kwd := []) LAW.ob_eq
    (by kernel_rfl) (fun s => by kernel_rfl) LAW.run (by kernel_rfl) (by kernel_rfl) (by kernel_rfl) (by rfl) (by first | assumption | decide +kernel) (by decide +kernel) ⟨rfl, rfl, rfl, rfl, rfl, by decide +kernel⟩ ?hw ?hc
  case hw => w_witness2
  case hc =>
    refine DW.walkT (l := PySem.Challenge.rw_wheelnines_k21_desks_by_hand) (n := 63) (k := 15) (x := "script") (CX := L2.CX0) rfl (by decide) (by kernel_rfl) ⟨rfl, by decide, by decide⟩ ?F (fun _ _ _ _ z => z)
    intro w mg fa h Y G hmg0
    obtain ⟨K, KX, ce⟩ := Y
    have c := ce.e.t.d
    have hmg : mg ("law" : PySem.Str) = some (.ref fa) := by
      have e : (HandSHeadRun.topDef (OpenLaw.row PySem.Challenge.rw_wheelnines_k21_desks_by_hand).prog 79).name = ("law" : PySem.Str) := by kernel_rfl
      rw [← e]
      exact hmg0
    obtain ⟨fd, F⟩ := c.def_ 55 (d := LAW.dd_law) rfl
    have hga : mg ("law" : PySem.Str) = some (.ref (He.fAd K ("law", none))) := He.glo_ok KX G (c.fact 41 (f := .glo "law") rfl)
    rw [hmg] at hga
    have hfa : fa = He.fAd K ("law", none) := by cases hga; rfl
    have b := L2.FunD.bindsA (ps := ["script"]) F fun _ _ _ _ _ _ us hl => match us, hl with | [_], _ => rfl
    rw [hfa]
    exact ⟨K, fd, DW.spL ⟨K, mg⟩ LAW.m_law, LAW.tfL.map (He.cT K), KX, fun p hp => by
      obtain ⟨q, hq, e⟩ := List.mem_map.mp hp
      rw [← e]
      exact ce.e.empty q hq, fun p hp => by
      obtain ⟨q, hq, e⟩ := List.mem_map.mp hp
      rw [← e]
      exact ce.e.out q hq, fun p hp => by
      obtain ⟨q, hq, e⟩ := List.mem_map.mp hp
      rw [← e]
      exact ce.e.hd q hq, fun s v => b s [v] rfl, fun H a ns hl hT hS => DW.law_spL LAW.law_true H a ns hl hS (fun p hp => by
      obtain ⟨n, hn, e⟩ := List.mem_map.mp hp
      rw [← e]
      exact hT (He.cT K (n, none)) (List.mem_map.mpr ⟨(n, none), LAW.tf_mem hn, rfl⟩)), fun base _ _ hT => LAW.facts (P := (PySem.Challenge.rw_wheelnines_k21_desks_by_hand).prog) (w := w) KX G ce rfl (by kernel_rfl) base F (hfa ▸ hmg) (fun p hp => hT _ (List.mem_map.mpr ⟨p, hp, rfl⟩))⟩

