import PyProof.Rows.All
import Wide.All
import OpenK.AllK
import Wide.FinOn
import HandS.ExcInit
import HandS.ForMost
import HandS.IsInst
import HandS.Deep
import HandS.Lambda
import KE.DataEq
import HandS.TupAny
import HandS.Defaults
import HandS.SortInts
import HandS.Zip
import HandS.Conv
import KE.SortData
import KE.DataCmp
import KE.DataMinMax
import HandS.WordsExc
import HandS.HeadHook2
import HandS.HeadHook4
import HandS.TryMany
import HandS.ExcField
import HandS.ExcIs
import PyProof.ReprRoads
import PyProof.CallFns
import KE.KExcIs
import HandS.Dict
import HandS.HeadEnd
import HandS.HeadWalk
import KE.KNestM
import HandS.Head0
import HandS.Head1
import HandS.Head2
import PySem.Challenge.RW_toldahead_k74_seventh_stage_refused
set_option Elab.async false
set_option linter.all false
set_option pp.deepTerms false
set_option pp.proofs false
set_option pp.maxSteps 400
set_option maxRecDepth 100000
set_option maxHeartbeats 4000000
namespace Mir
open PySem PySem.Spec PyProof.Rows L2

/-! ### the lambdas of the text -/
structure LamC where
  qual : Str
  params : Arguments
  body : Expr
  scope : Scope
class Tab where
  tab : Nat → LamC
  K : PySem.W.Frag
  cls : Nat → Addr
variable [Tab]
def lamD (n : Nat) (ds : List PyData) : PyData := .dict [(.int n, .list ds)]
/-- an exception that is kept: its class by number, its value -/
def excD (n : Nat) (d : PyData) : PyData := .dict [(.bool true, .list [.int n, d])]
/-- the free names of a scope, the last first -/
def freeN : List (Str × NameKind) → List Str → List Str
  | [], acc => acc
  | (n, k) :: r, acc => if k == .free then freeN r (n :: acc) else freeN r acc
/-- an object that stays as it is -/
def objO (a : Addr) (o : Obj) : HO := .ext fun h => h.get? a = some o
/-- the lambda's own object -/
def lamO (f c' : Addr) (n : Nat) (cl : List (Str × Addr)) : HO := .ext fun h => ∃ pm ctv, h.get? f = some (PySem.W.kla_obj "<lambda>" (Tab.tab n).qual (Tab.tab n).params (Tab.tab n).body (Tab.tab n).scope cl pm c' ctv)
inductive CellsAt (H : Hp) : List (Str × Addr) → List V → Prop
  | nil : CellsAt H [] []
  | cons {y : Str} {a : Addr} {cl : List (Str × Addr)} {o : Obj} {u : Value} {v : V} {vs : List V} : H a = some (objO a o) → o.data = .cell (some u) → RelV v u → CellsAt H cl vs → CellsAt H ((y, a) :: cl) (v :: vs)
theorem CellsAt.mono {H H' : Hp} (e : Same H H') : ∀ {cl : List (Str × Addr)} {vs : List V}, CellsAt H cl vs → CellsAt H' cl vs
  | _, _, .nil => .nil
  | _, _, .cons h1 h2 h3 t => .cons (e _ _ h1) h2 h3 (CellsAt.mono e t)
/-- an opaque thing: a list of two ints, none below 0 -/
def potO (a : Addr) : HO := .ext fun h => ∃ (i j : Int) (t u : Tok) (n : Nat), 0 ≤ i ∧ 0 ≤ j ∧ h.get? a = some { cls := .type "list", data := .seq #[.int i t, .int j u] n }
def potD : PyData := .dict [(.none, .none)]
/-- another: the script -/
def scrD (ns : List Int) : PyData := .dict [(.none, .list (ns.map .int))]
theorem SqL.same {K : PySem.W.Frag} {H H' : Hp} {a : Addr} {xs : List V} (e : Same H H') (h : SqL K H a xs) : SqL K H' a xs := by
  rcases h with h | h
  · exact .inl (h.imp (e _ _) fun ⟨o, z⟩ => ⟨o, e _ _ z⟩)
  · exact .inr h
/-! ### data as the heap bears it -/
mutual
inductive Rp (H : Hp) : V → PyData → Prop
  | dct {a : Addr} : H a = some (.dK []) → Rp H (.ref a) (.dict [])
  | pot {a : Addr} : H a = some (potO a) → Rp H (.ref a) potD
  | scr {a : Addr} {ns : List Int} : SqL Tab.K H a (ns.map V.int) → Rp H (.ref a) (scrD ns)
  | lam {f c' : Addr} {n : Nat} {cl : List (Str × Addr)} {vs : List V} {ds : List PyData} : H f = some (lamO f c' n cl) → H c' = some (LamX.CodeO c' (Tab.tab n).qual) → CellsAt H cl vs → cl.map (·.1) = freeN (Tab.tab n).scope.names [] → (∀ x y c, cl.lookup x = some c → cl.lookup y = some c → x = y) → Rps H vs ds → Rp H (.ref f) (lamD n ds)
  | exc {a dx : Addr} {n : Nat} {v : V} {d : PyData} : H a = some (exo a (Tab.cls n) (some dx)) → H dx = some (exd dx [("value", v)]) → Rp H v d → Rp H (.ref a) (excD n d)
  | non : Rp H .non .none
  | bl (b : Bool) : Rp H (.bl b) (.bool b)
  | int (i : Int) : Rp H (.int i) (.int i)
  | str (x : Str) : Rp H (.str x) (.str x)
  | lst {a : Addr} {xs : List V} {ds : List PyData} : H a = some (.lst xs) → Rps H xs ds → Rp H (.ref a) (.list ds)
  | tup {a : Addr} {xs : List V} {ds : List PyData} : H a = some (.tup xs) → Rps H xs ds → Rp H (.ref a) (.tuple ds)
inductive Rps (H : Hp) : List V → List PyData → Prop
  | nil : Rps H [] []
  | cons {v : V} {vs : List V} {d : PyData} {ds : List PyData} : Rp H v d → Rps H vs ds → Rps H (v :: vs) (d :: ds)
end
mutual
theorem Rp.mono {H H' : Hp} (e : Same H H') : ∀ {d : PyData} {v : V}, Rp H v d → Rp H' v d
  | .none, _, h => by cases h; exact .non
  | .bool b, _, h => by cases h; exact .bl b
  | .int i, _, h => by cases h; exact .int i
  | .str x, _, h => by cases h; exact .str x
  | .list ds, _, h => by cases h with | lst h1 h2 => exact .lst (e _ _ h1) (Rps.mono e h2)
  | .tuple ds, _, h => by cases h with | tup h1 h2 => exact .tup (e _ _ h1) (Rps.mono e h2)
  | .dict [], _, h => by cases h with | dct h1 => exact .dct (e _ _ h1)
  | .dict ((.none, .none) :: ps), _, h => by cases h with | pot h1 => exact .pot (e _ _ h1)
  | .dict ((.none, .list ds) :: ps), _, h => by cases h with | scr h2 => exact .scr (SqL.same e h2)
  | .dict ((.int (.ofNat n), .list ds) :: ps), _, h => by cases h with | lam h1 h2 h3 h5 h6 h4 => exact .lam (e _ _ h1) (e _ _ h2) (h3.mono e) h5 h6 (Rps.mono e h4)
  | .dict ((.bool true, .list [.int (.ofNat n), d]) :: ps), _, h => by cases h with | exc h1 h2 h3 => exact .exc (e _ _ h1) (e _ _ h2) (Rp.mono e h3)
theorem Rps.mono {H H' : Hp} (e : Same H H') : ∀ {ds : List PyData} {vs : List V}, Rps H vs ds → Rps H' vs ds
  | [], _, h => by cases h; exact .nil
  | d :: ds, _, h => by cases h with | cons h1 h2 => exact .cons (Rp.mono e h1) (Rps.mono e h2)
end
mutual
theorem Rp.dp {K : PySem.W.Frag} {H : Hp} : ∀ {d : PyData} {v : V}, Rp H v d → d.plain = true → Dp K H v d
  | .none, _, h, _ => by cases h; exact .non
  | .bool b, _, h, _ => by cases h; exact .bl b
  | .int i, _, h, _ => by cases h; exact .int i
  | .str x, _, h, _ => by cases h; exact .str x
  | .list ds, _, h, p => by cases h with | lst h1 h2 => exact .lst (SqL.of h1) (Rps.dp h2 (by simpa only [PyData.plain] using p))
  | .tuple ds, _, h, p => by cases h with | tup h1 h2 => exact .tup (SqT.of h1) (Rps.dp h2 (by simpa only [PyData.plain] using p))
  | .dict _, _, h, p => by cases p
theorem Rps.dp {K : PySem.W.Frag} {H : Hp} : ∀ {ds : List PyData} {vs : List V}, Rps H vs ds → PyData.plainAll ds = true → DpAll K H vs ds
  | [], _, h, _ => by cases h; exact .nil
  | d :: ds, _, h, p => by
    cases h with
    | cons h1 h2 =>
      simp only [PyData.plainAll, Bool.and_eq_true] at p
      exact .cons (Rp.dp h1 p.1) (Rps.dp h2 p.2)
end
theorem plain_sh {d : PyData} (h : SeqAt.shaped d = true) : d.plain = true := PyData.plain_of_canLay0 d (SeqAt.canLay_of_shaped h)
theorem Rps.length {H : Hp} : ∀ {ds : List PyData} {vs : List V}, Rps H vs ds → vs.length = ds.length
  | [], _, h => by cases h; rfl
  | d :: ds, _, h => by cases h with | cons h1 h2 => rw [List.length_cons, List.length_cons, Rps.length h2]
theorem Rps.append {H : Hp} : ∀ {ds es : List PyData} {vs us : List V}, Rps H vs ds → Rps H us es → Rps H (vs ++ us) (ds ++ es)
  | [], _, _, _, h, q => by cases h; exact q
  | d :: ds, _, _, _, h, q => by cases h with | cons h1 h2 => exact .cons h1 (Rps.append h2 q)
theorem Rps.get {H : Hp} : ∀ {ds : List PyData} {vs : List V} {i : Nat} {d : PyData}, Rps H vs ds → ds[i]? = some d → ∃ v, vs[i]? = some v ∧ Rp H v d
  | [], _, _, _, h, e => by simp at e
  | x :: ds, _, 0, d, h, e => by cases h with | cons h1 h2 => simp at e; subst e; exact ⟨_, rfl, h1⟩
  | x :: ds, _, i + 1, d, h, e => by
    cases h with
    | cons h1 h2 =>
      obtain ⟨v, e1, r⟩ := Rps.get (i := i) h2 (by simpa using e)
      exact ⟨v, by simpa using e1, r⟩
theorem Rps.take {H : Hp} : ∀ (n : Nat) {ds : List PyData} {vs : List V}, Rps H vs ds → Rps H (vs.take n) (ds.take n)
  | 0, _, _, _ => .nil
  | n + 1, [], _, h => by cases h; exact .nil
  | n + 1, d :: ds, _, h => by cases h with | cons h1 h2 => exact .cons h1 (Rps.take n h2)
theorem Rps.drop {H : Hp} : ∀ (n : Nat) {ds : List PyData} {vs : List V}, Rps H vs ds → Rps H (vs.drop n) (ds.drop n)
  | 0, _, _, h => h
  | n + 1, [], _, h => by cases h; exact .nil
  | n + 1, d :: ds, _, h => by cases h with | cons h1 h2 => exact Rps.drop n h2
theorem Rps.set {H : Hp} {v : V} {d : PyData} (r : Rp H v d) : ∀ (i : Nat) {ds : List PyData} {vs : List V}, Rps H vs ds → Rps H (vs.set i v) (ds.set i d)
  | _, [], _, h => by cases h; exact .nil
  | 0, x :: ds, _, h => by cases h with | cons h1 h2 => exact .cons r h2
  | i + 1, x :: ds, _, h => by cases h with | cons h1 h2 => exact .cons h1 (Rps.set r i h2)

/-! ### values, cells, outcomes -/
inductive D where
  | p (d : PyData)
  | own (k : Nat)
/-- a list of the run's own (ours), one that has gone into other data (gone), one lent by the caller or walked (lent) -/
inductive Mu where
  | ours | gone | lent | lock
  deriving DecidableEq
inductive Cell where
  | lst (m : Mu) (xs : List PyData)
abbrev Own := List Cell
abbrev Env := List (Option D)
inductive R (α : Type) where
  | ok (a : α) (o : Own)
  | bad
  | exc (k : Nat) (d : PyData)
  | draw (n : Nat) (k : Nat → R α)
abbrev M (α : Type) := Env → Own → R α
def R.bind {α β : Type} : R α → (α → Own → R β) → R β
  | .ok a o, f => f a o
  | .bad, _ => .bad
  | .exc k d, _ => .exc k d
  | .draw n k, f => .draw n fun d => (k d).bind f

/-! ### the relation -/
structure C where
  fz : Hp
  rho : List Addr
  lk : List (Nat × List PyData)
/-- of a whole run of a def: the heap at the entry, what of it is lent for good -/
structure G where
  H0 : Hp
  fz0 : Hp
  ln : List Addr
  E : XK
  cls : Nat → Addr
  T : List (Addr × Str)
/-- no table -/
def Ntb (H : Hp) : Prop := ∀ b ps, H b ≠ some (.tbl ps)
/-- what is wanted of an exception: its class by number, its own value -/
def G.XOk (g : G) (k : Nat) (d : PyData) : Prop := ∀ (H' : Hp) (dx : Addr) (v : V), Same g.H0 H' → LamX.Tabs g.T H' → g.H0 dx = none → H' dx = some (.xd [("value", v)]) → Rp H' v d → g.E (.ref (g.cls k)) (some dx) H'
def Post {α : Type} (g : G) : R α → (α → Own → Prop) → Prop
  | .ok a o, Q => Q a o
  | .bad, _ => False
  | .exc k d, _ => g.XOk k d
  | .draw n k, Q => ∀ d, d < n → Post g (k d) Q
theorem Post.mono {α : Type} {g : G} {Q Q' : α → Own → Prop} (h : ∀ a o, Q a o → Q' a o) : ∀ {r : R α}, Post g r Q → Post g r Q'
  | .ok a o, q => h a o q
  | .bad, q => q
  | .exc k d, q => q
  | .draw n k, q => fun d hd => Post.mono h (q d hd)
theorem Post.bind {α β : Type} {g : G} {f : α → Own → R β} {Q : β → Own → Prop} : ∀ {r : R α}, Post g (r.bind f) Q → Post g r fun a o => Post g (f a o) Q
  | .ok a o, q => q
  | .bad, q => q
  | .exc k d, q => q
  | .draw n k, q => fun d hd => Post.bind (q d hd)
structure Grow (c c' : C) : Prop where
  fz : Same c.fz c'.fz
  rho : ∃ l, c'.rho = c.rho ++ l
structure Step (c c' : C) : Prop extends Grow c c' where
  lk : c'.lk = c.lk
theorem Grow.refl (c : C) : Grow c c := ⟨Same.refl _, [], by simp⟩
theorem Grow.trans {a b c : C} (x : Grow a b) (y : Grow b c) : Grow a c := by
  obtain ⟨x1, l, x2⟩ := x
  obtain ⟨y1, m, y2⟩ := y
  exact ⟨x1.trans y1, l ++ m, by rw [y2, x2, List.append_assoc]⟩
theorem Step.refl (c : C) : Step c c := ⟨Grow.refl c, rfl⟩
theorem Step.trans {a b c : C} (x : Step a b) (y : Step b c) : Step a c := ⟨x.toGrow.trans y.toGrow, y.lk.trans x.lk⟩
def RelD (c : C) (v : V) : D → Prop
  | .p d => Rp c.fz v d
  | .own k => ∃ a, c.rho[k]? = some a ∧ v = .ref a
theorem RelD.grow {c c' : C} (h : Grow c c') {v : V} : ∀ {d : D}, RelD c v d → RelD c' v d
  | .p _, r => Rp.mono h.fz r
  | .own k, ⟨a, e, r⟩ => by
    obtain ⟨l, hl⟩ := h.rho
    have : k < c.rho.length := (List.getElem?_eq_some_iff.mp e).1
    exact ⟨a, by rw [hl, List.getElem?_append_left this]; exact e, r⟩
theorem RelD.step {c c' : C} (h : Step c c') {v : V} {d : D} (r : RelD c v d) : RelD c' v d := r.grow h.toGrow
inductive CellOk (g : G) (c : C) (H : Hp) (a : Addr) : Cell → Prop
  | ours {xs : List PyData} {vs : List V} : H a = some (.lst vs) → Rps c.fz vs xs → g.H0 a = none → c.fz a = none → CellOk g c H a (.lst .ours xs)
  | lock {xs : List PyData} {vs : List V} : H a = some (.lst vs) → Rps c.fz vs xs → g.H0 a = none → c.fz a = none → CellOk g c H a (.lst .lock xs)
  | gone {xs : List PyData} {vs : List V} : c.fz a = some (.lst vs) → Rps c.fz vs xs → CellOk g c H a (.lst .gone xs)
  | lent {xs : List PyData} {vs : List V} : H a = some (.lst vs) → Rps c.fz vs xs → a ∈ g.ln → CellOk g c H a (.lst .lent xs)
structure RelH (g : G) (c : C) (own : Own) (H : Hp) : Prop where
  fz : Same c.fz H
  same : Same g.H0 H
  lnH : ∀ a ∈ g.ln, ∃ o, g.H0 a = some o
  nt0 : Ntb g.H0
  ntf : Ntb c.fz
  tabs : LamX.Tabs g.T H
  base : Same g.fz0 c.fz
  low : ∀ (a : Addr) (us : List V), g.H0 a = some (.lst us) → g.fz0 a = none → c.fz a = none
  len : c.rho.length = own.length
  nd : c.rho.Nodup
  lks : ∀ (k : Nat) (xs : List PyData), (k, xs) ∈ c.lk → ∃ m, own[k]? = some (.lst m xs) ∧ m ≠ .ours
  cells : ∀ (k : Nat) (a : Addr) (cell : Cell), c.rho[k]? = some a → own[k]? = some cell → CellOk g c H a cell
def RelE (c : C) (env : Env) (σ : L2.St) : Prop := env.length = σ.length ∧ ∀ (i : Nat) d, env[i]? = some (some d) → ∃ v, σ[i]? = some (some v) ∧ RelD c v d
theorem RelE.grow {c c' : C} (h : Grow c c') {env : Env} {σ : L2.St} (r : RelE c env σ) : RelE c' env σ := ⟨r.1, fun i d e => by
  obtain ⟨v, e1, q⟩ := r.2 i d e
  exact ⟨v, e1, q.grow h⟩⟩
theorem RelE.step {c c' : C} (h : Step c c') {env : Env} {σ : L2.St} (r : RelE c env σ) : RelE c' env σ := r.grow h.toGrow

theorem Ntb.upd {H : Hp} {p : Addr} {o : HO} (h : Ntb H) (n : ∀ ps, o ≠ .tbl ps) : Ntb (upd H p o) := fun b ps e => by
  by_cases hb : b = p
  · subst hb
    rw [upd_same] at e
    exact n ps (Option.some.inj e)
  · rw [upd_ne hb] at e
    exact h b ps e
/-- the tables stay where something else is written -/
theorem tabs_poke {T : List (Addr × Str)} {H : Hp} {p : Addr} {o : HO} (t : LamX.Tabs T H) (h : ∀ u, H p = some u → (∀ ps, u ≠ .tbl ps) ∧ ∀ φ, u ≠ .ext φ) : LamX.Tabs T (upd H p o) := fun q hq => by
  obtain ⟨ps, h1, h2, h3⟩ := t q hq
  have n1 : q.1 ≠ p := fun e => (h _ (e ▸ h1)).1 ps rfl
  refine ⟨ps, by rw [upd_ne n1]; exact h1, h2, fun pos cv hc => ?_⟩
  obtain ⟨c, e1, e2⟩ := h3 pos cv hc
  have n2 : c ≠ p := fun e => (h _ (e ▸ e2)).2 _ rfl
  exact ⟨c, e1, by rw [upd_ne n2]; exact e2⟩
theorem tabs_lst {T : List (Addr × Str)} {H : Hp} {p : Addr} {o : HO} {vs : List V} (t : LamX.Tabs T H) (h : H p = some (.lst vs)) : LamX.Tabs T (upd H p o) := tabs_poke t fun u e => by
  rw [h] at e
  cases e
  exact ⟨fun ps z => (by cases z), fun φ z => (by cases z)⟩
/-! ### readings made of a run -/
abbrev PQ (g : G) (c : C) (Q : VK) : D → Own → Prop := fun d own' => ∀ c' H' v, Step c c' → RelH g c' own' H' → RelD c' v d → Q v H'
def tE (g : G) (m : M D) : TE := fun σ H Q => ∃ c env own, RelH g c own H ∧ RelE c env σ ∧ Post g (m env own) (PQ g c Q)
def tT (g : G) (m : M Bool) : TT := fun σ H Q => ∃ c env own, RelH g c own H ∧ RelE c env σ ∧ Post g (m env own) fun b own' => ∀ c' H', Step c c' → RelH g c' own' H' → Q b H'
def rM (g : G) (op : D → D → Own → R D) : R2 := fun x y H Q => ∃ c own dx dy, RelH g c own H ∧ RelD c x dx ∧ RelD c y dy ∧ Post g (op dx dy own) (PQ g c Q)
/-- going on behind an expression -/
theorem tE.go {g : G} {c : C} {env : Env} {own : Own} {σ : L2.St} {H : Hp} {m : M D} {β : Type} {f : D → Own → R β} {P : β → Own → Prop} {Q : VK} (r : RelH g c own H) (e : RelE c env σ) (h : Post g ((m env own).bind f) P)
    (hQ : ∀ d own' c' H' v, Step c c' → RelH g c' own' H' → RelE c' env σ → RelD c' v d → Post g (f d own') P → Q v H') : tE g m σ H Q :=
  ⟨c, env, own, r, e, Post.mono (fun d own' q c' H' v s r' rd => hQ d own' c' H' v s r' (e.step s) rd q) (Post.bind h)⟩
theorem tT.go {g : G} {c : C} {env : Env} {own : Own} {σ : L2.St} {H : Hp} {m : M Bool} {β : Type} {f : Bool → Own → R β} {P : β → Own → Prop} {Q : Bool → Hp → Prop} (r : RelH g c own H) (e : RelE c env σ) (h : Post g ((m env own).bind f) P)
    (hQ : ∀ d own' c' H', Step c c' → RelH g c' own' H' → RelE c' env σ → Post g (f d own') P → Q d H') : tT g m σ H Q :=
  ⟨c, env, own, r, e, Post.mono (fun d own' q c' H' s r' => hQ d own' c' H' s r' (e.step s) q) (Post.bind h)⟩
theorem pe_imp {X : Cx} {e : Expr} {t t' : TE} (h : PE X e t) (i : ∀ σ H Q, t' σ H Q → t σ H Q) : PE X e t' := ⟨fun pins s σ H Q I q => h.run pins s σ H Q I (i σ H Q q)⟩
theorem pt_imp {X : Cx} {e : Expr} {t t' : TT} (h : PT X e t) (i : ∀ σ H Q, t' σ H Q → t σ H Q) : PT X e t' := ⟨fun pins s σ H Q I q => h.run pins s σ H Q I (i σ H Q q)⟩

/-! ### names, constants -/
section
variable {X : Cx} {g : G}
def mVar (i : Nat) : M D := fun env own => match env[i]? with
  | some (some d) => .ok d own
  | _ => .bad
theorem me_var (i : Nat) {x : Str} {pos : Pos} (hN : X.N[i]? = some x := by rfl) (hv : Vis X.env.scope x := by first | exact Or.inl rfl | exact Or.inr (Or.inl rfl) | exact Or.inr (Or.inr rfl)) (hd : (x == ("__debug__" : Str)) = false := by decide)
    (hcd : (x == ("__classdict__" : Str)) = false := by decide) : PE X (.Name x pos) (tE g (mVar i)) := by
  refine pe_imp (pe_var hN hv hd hcd) fun σ H Q h => ?_
  obtain ⟨c, env, own, r, e, h⟩ := h
  unfold mVar at h
  split at h
  · rename_i d hd
    obtain ⟨v, e1, rd⟩ := e.2 i d hd
    exact ⟨v, e1, h c H v (Step.refl c) r rd⟩
  · exact h.elim
def mC (d : PyData) : M D := fun _ own => .ok (.p d) own
theorem me_int {i j pos} : PE X (.Constant (.int i) j pos) (tE g (mC (.int i))) := pe_imp pe_int fun σ H Q ⟨c, env, own, r, e, h⟩ => h c H _ (Step.refl c) r (.int i)
theorem me_bl {i j pos} : PE X (.Constant (.bool i) j pos) (tE g (mC (.bool i))) := pe_imp pe_bl fun σ H Q ⟨c, env, own, r, e, h⟩ => h c H _ (Step.refl c) r (.bl i)
theorem me_str {i j pos} : PE X (.Constant (.str i) j pos) (tE g (mC (.str i))) := pe_imp pe_str fun σ H Q ⟨c, env, own, r, e, h⟩ => h c H _ (Step.refl c) r (.str i)
theorem me_non {j pos} : PE X (.Constant .none j pos) (tE g (mC .none)) := pe_imp pe_non fun σ H Q ⟨c, env, own, r, e, h⟩ => h c H _ (Step.refl c) r .non
/-- a module's constant: an int -/
theorem me_glob {x : Str} {i : Int} {pos : Pos} (hg : Gl X x) (hm : ∃ u, X.mg x = some u ∧ RelV (.int i) u) (hd : (x == ("__debug__" : Str)) = false := by decide) : PE X (.Name x pos) (tE g (mC (.int i))) := by
  obtain ⟨u, h1, h2⟩ := hm
  exact pe_imp (pe_glob hg h1 h2 hd) fun σ H Q ⟨c, env, own, r, e, h⟩ => h c H _ (Step.refl c) r (.int i)
theorem me_globS {x : Str} {i : Str} {pos : Pos} (hg : Gl X x) (hm : ∃ u, X.mg x = some u ∧ RelV (.str i) u) (hd : (x == ("__debug__" : Str)) = false := by decide) : PE X (.Name x pos) (tE g (mC (.str i))) := by
  obtain ⟨u, h1, h2⟩ := hm
  exact pe_imp (pe_glob hg h1 h2 hd) fun σ H Q ⟨c, env, own, r, e, h⟩ => h c H _ (Step.refl c) r (.str i)

/-! ### two places -/
def m2 (op : D → D → Own → R D) (ma mb : M D) : M D := fun env own => (ma env own).bind fun x o1 => (mb env o1).bind fun y o2 => op x y o2
theorem tOp_of {op : D → D → Own → R D} {ma mb : M D} {σ : L2.St} {H : Hp} {Q : VK} (h : tE g (m2 op ma mb) σ H Q) : tOp (rM g op) (tE g ma) (tE g mb) σ H Q := by
  obtain ⟨c, env, own, r, e, h⟩ := h
  refine tE.go r e h fun x o1 c1 H1 v1 s1 r1 e1 d1 h1 => ?_
  refine tE.go r1 e1 h1 fun y o2 c2 H2 v2 s2 r2 e2 d2 h2 => ?_
  exact ⟨c2, o2, x, y, r2, d1.step s2, d2, Post.mono (fun d o q c3 H3 v s3 => q c3 H3 v ((s1.trans s2).trans s3)) h2⟩
theorem me_op {op : Operator} {f : D → D → Own → R D} {a b : Expr} {ma mb : M D} {pos : Pos} (ho : OpR X (binaryOp op) (rM g f)) (ha : PE X a (tE g ma)) (hb : PE X b (tE g mb)) : PE X (.BinOp a op b pos) (tE g (m2 f ma mb)) :=
  pe_imp (pe_op ho ha hb) fun _ _ _ h => tOp_of h
theorem me_cmp {op : CmpOp} {f : D → D → Own → R D} {a b : Expr} {ma mb : M D} {pos : Pos} (ho : OpR X (compareOp op) (rM g f)) (ha : PE X a (tE g ma)) (hb : PE X b (tE g mb)) (hm : behindInMarks op b = false := by first | exact nomark _ | rfl) :
    PE X (.Compare a [op] [b] pos) (tE g (m2 f ma mb)) :=
  pe_imp (pe_cmpR ho ha hb hm) fun _ _ _ h => tOp_of h
def asB : R D → R Bool := fun r => r.bind fun d o => match d with
  | .p (.bool b) => .ok b o
  | _ => .bad
def mAsB (m : M D) : M Bool := fun env own => asB (m env own)
theorem asB_of {g : G} {m : M D} {σ : L2.St} {H : Hp} {Q : Bool → Hp → Prop} (h : tT g (mAsB m) σ H Q) : tE g m σ H fun x H1 => ∃ b, x = .bl b ∧ Q b H1 := by
  obtain ⟨c, env, own, r, e, h⟩ := h
  refine tE.go r e h fun x o1 c1 H1 v1 s1 r1 e1 d1 h1 => ?_
  split at h1
  · rename_i b
    cases d1
    exact ⟨b, rfl, h1 c1 H1 s1 r1⟩
  · exact h1.elim
/-- a comparison as a test -/
theorem mt_cmp {op : CmpOp} {f : D → D → Own → R D} {a b : Expr} {ma mb : M D} {pos : Pos} (ho : OpR X (compareOp op) (rM g f)) (ha : PE X a (tE g ma)) (hb : PE X b (tE g mb)) (hm : behindInMarks op b = false := by first | exact nomark _ | rfl) :
    PT X (.Compare a [op] [b] pos) (tT g (mAsB (m2 f ma mb))) := by
  refine pt_imp (pt_cmpR ho ha hb hm) fun σ H Q h => ?_
  have h2 := asB_of h
  exact tOp_of h2
end
end Mir

set_option maxRecDepth 100000
set_option maxHeartbeats 4000000
namespace Mir
variable [Tab]
open PySem PySem.Spec PyProof.Rows L2

theorem nd_ix {α : Type} {N : List α} (hN : N.Nodup) {i j : Nat} {x : α} (a : N[i]? = some x) (b : N[j]? = some x) : i = j := by
  obtain ⟨h1, e1⟩ := List.getElem?_eq_some_iff.mp a
  obtain ⟨h2, e2⟩ := List.getElem?_eq_some_iff.mp b
  exact (List.getElem_inj hN).mp (e1.trans e2.symm)
/-! ### cells, lists as data -/
section
variable {g : G} {c : C} {own : Own} {H : Hp} {v : V} {d : D}
theorem RelH.cell (r : RelH g c own H) {k : Nat} {a : Addr} (e : c.rho[k]? = some a) : ∃ cell, own[k]? = some cell ∧ CellOk g c H a cell := by
  have hk : k < own.length := by rw [← r.len]; exact (List.getElem?_eq_some_iff.mp e).1
  exact ⟨own[k], List.getElem?_eq_getElem hk, r.cells k a _ e (List.getElem?_eq_getElem hk)⟩
theorem CellOk.list {a : Addr} {m : Mu} {xs : List PyData} (fz : Same c.fz H) (h : CellOk g c H a (.lst m xs)) : ∃ vs, H a = some (.lst vs) ∧ Rps c.fz vs xs := by
  cases h with
  | ours h1 h2 _ _ => exact ⟨_, h1, h2⟩
  | gone h1 h2 => exact ⟨_, fz _ _ h1, h2⟩
  | lent h1 h2 _ => exact ⟨_, h1, h2⟩
  | lock h1 h2 _ _ => exact ⟨_, h1, h2⟩
theorem RelH.taken (r : RelH g c own H) {a : Addr} (h : a ∈ c.rho) : ∃ o, H a = some o := by
  obtain ⟨k, hk, e⟩ := List.getElem_of_mem h
  obtain ⟨cell, _, q⟩ := r.cell (List.getElem?_eq_some_iff.mpr ⟨hk, e⟩)
  cases q with
  | ours h1 _ _ _ => exact ⟨_, h1⟩
  | gone h1 _ => exact ⟨_, r.fz _ _ h1⟩
  | lent h1 _ _ => exact ⟨_, h1⟩
  | lock h1 _ _ _ => exact ⟨_, h1⟩
def lv (d : D) (own : Own) : Option (List PyData) := match d with
  | .p d => match d with
    | .list xs => some xs
    | _ => none
  | .own k => match own[k]? with
    | some (.lst _ xs) => some xs
    | none => none
theorem lv_ok {xs : List PyData} (r : RelH g c own H) (rd : RelD c v d) (h : lv d own = some xs) : ∃ a vs, v = .ref a ∧ H a = some (.lst vs) ∧ Rps c.fz vs xs := by
  cases d with
  | p d =>
    cases d with
    | list ys =>
      cases h
      cases rd with
      | lst h1 h2 => exact ⟨_, _, rfl, r.fz _ _ h1, h2⟩
    | _ => cases h
  | own k =>
    obtain ⟨a, e, rfl⟩ := rd
    obtain ⟨cell, e1, q⟩ := r.cell e
    unfold lv at h
    simp only [e1] at h
    cases cell with
    | lst m ys =>
      cases h
      obtain ⟨vs, h1, h2⟩ := q.list r.fz
      exact ⟨a, vs, rfl, h1, h2⟩
def dv (d : D) (own : Own) : Option PyData := match d with
  | .p d => some d
  | .own k => match own[k]? with
    | some (.lst _ xs) => some (.list xs)
    | none => none
theorem dv_ok {K : PySem.W.Frag} {x : PyData} (r : RelH g c own H) (rd : RelD c v d) (h : dv d own = some x) (hp : x.plain = true) : Dp K H v x := by
  cases d with
  | p d => cases h; exact (Rp.mono r.fz rd).dp hp
  | own k =>
    obtain ⟨a, e, rfl⟩ := rd
    obtain ⟨cell, e1, q⟩ := r.cell e
    unfold dv at h
    simp only [e1] at h
    cases cell with
    | lst m ys =>
      cases h
      obtain ⟨vs, h1, h2⟩ := q.list r.fz
      exact .lst (SqL.of h1) ((Rps.mono r.fz h2).dp (by simpa only [PyData.plain] using hp))
/-- list or tuple: its items -/
def sv (d : D) (own : Own) : Option (List PyData) := match d with
  | .p d => match d with
    | .list xs => some xs
    | .tuple xs => some xs
    | _ => none
  | .own k => match own[k]? with
    | some (.lst _ xs) => some xs
    | none => none
theorem sv_ok {xs : List PyData} (r : RelH g c own H) (rd : RelD c v d) (h : sv d own = some xs) : ∃ a vs, v = .ref a ∧ (H a = some (.lst vs) ∨ H a = some (.tup vs)) ∧ Rps c.fz vs xs := by
  cases d with
  | p d =>
    cases d with
    | list ys =>
      cases h
      cases rd with
      | lst h1 h2 => exact ⟨_, _, rfl, .inl (r.fz _ _ h1), h2⟩
    | tuple ys =>
      cases h
      cases rd with
      | tup h1 h2 => exact ⟨_, _, rfl, .inr (r.fz _ _ h1), h2⟩
    | _ => cases h
  | own k =>
    obtain ⟨a, e, rfl⟩ := rd
    obtain ⟨cell, e1, q⟩ := r.cell e
    unfold sv at h
    simp only [e1] at h
    cases cell with
    | lst m ys =>
      cases h
      obtain ⟨vs, h1, h2⟩ := q.list r.fz
      exact ⟨a, vs, rfl, .inl h1, h2⟩

theorem same_new {H : Hp} {p : Addr} {o : HO} (h : H p = none) : Same H (upd H p o) := fun b x e => by
  rw [upd_ne (ne_of_none e h)]
  exact e
theorem RelH.h0 (r : RelH g c own H) {p : Addr} (hp : H p = none) : g.H0 p = none := Same.free r.same hp
theorem RelH.fz0 (r : RelH g c own H) {p : Addr} (hp : H p = none) : c.fz p = none := Same.free r.fz hp
theorem CellOk.up {c' : C} {H' : Hp} {a : Addr} {cell : Cell} (h : CellOk g c H a cell) (s : Same c.fz c'.fz) (hH : ∀ o, H a = some o → H' a = some o) (hn : c.fz a = none → c'.fz a = none) : CellOk g c' H' a cell := by
  cases h with
  | ours h1 h2 h3 h4 => exact .ours (hH _ h1) (Rps.mono s h2) h3 (hn h4)
  | gone h1 h2 => exact .gone (s _ _ h1) (Rps.mono s h2)
  | lent h1 h2 h3 => exact .lent (hH _ h1) (Rps.mono s h2) h3
  | lock h1 h2 h3 h4 => exact .lock (hH _ h1) (Rps.mono s h2) h3 (hn h4)
/-- a new list of the run's own -/
theorem RelH.new {p : Addr} {vs : List V} {xs : List PyData} (r : RelH g c own H) (hp : H p = none) (q : Rps c.fz vs xs) :
    ∃ c', Step c c' ∧ RelH g c' (own ++ [.lst .ours xs]) (upd H p (.lst vs)) ∧ RelD c' (.ref p) (.own own.length) := by
  have hpr : p ∉ c.rho := fun h => by
    obtain ⟨o, e⟩ := r.taken h
    rw [hp] at e; cases e
  refine ⟨⟨c.fz, c.rho ++ [p], c.lk⟩, ⟨⟨Same.refl _, [p], rfl⟩, rfl⟩, ⟨r.fz.trans (same_new hp), r.same.trans (same_new hp), r.lnH, r.nt0, r.ntf, r.tabs.ext (same_new hp), r.base, r.low, by simp [r.len], ?_, fun k ys hk => ?_, fun k a cell h1 h2 => ?_⟩, ⟨p, by simp [← r.len], rfl⟩⟩
  · exact List.nodup_append.mpr ⟨r.nd, by simp, fun a ha b hb e => hpr (by simp at hb; subst hb; subst e; exact ha)⟩
  · obtain ⟨m, e, n⟩ := r.lks k ys hk
    exact ⟨m, by rw [List.getElem?_append_left (List.getElem?_eq_some_iff.mp e).1]; exact e, n⟩
  · by_cases hk : k < own.length
    · rw [List.getElem?_append_left (by rw [r.len]; exact hk)] at h1
      rw [List.getElem?_append_left hk] at h2
      exact (r.cells k a cell h1 h2).up (Same.refl _) (fun o e => same_new hp _ _ e) fun e => e
    · rw [List.getElem?_append_right (by rw [r.len]; omega)] at h1
      rw [List.getElem?_append_right (by omega)] at h2
      rw [r.len] at h1
      have z : k - own.length = 0 := by
        have := (List.getElem?_eq_some_iff.mp h2).1
        simp at this
        omega
      rw [z] at h1 h2
      simp at h1 h2
      subst h1 h2
      exact .ours upd_same q (r.h0 hp) (r.fz0 hp)
/-- a new tuple: data from now on -/
theorem RelH.newT {p : Addr} {vs : List V} {xs : List PyData} (r : RelH g c own H) (hp : H p = none) (q : Rps c.fz vs xs) :
    ∃ c', Step c c' ∧ RelH g c' own (upd H p (.tup vs)) ∧ RelD c' (.ref p) (.p (.tuple xs)) := by
  have hf := r.fz0 hp
  have s : Same c.fz (upd c.fz p (.tup vs)) := same_new hf
  refine ⟨⟨upd c.fz p (.tup vs), c.rho, c.lk⟩, ⟨⟨s, [], by simp⟩, rfl⟩, ⟨fun b o (e : upd c.fz p (.tup vs) b = some o) => ?_, r.same.trans (same_new hp), r.lnH, r.nt0, r.ntf.upd (fun ps z => by cases z), r.tabs.ext (same_new hp), r.base.trans s, fun a o h1 h2 => ?_, r.len, r.nd, r.lks, fun k a cell h1 h2 => ?_⟩, .tup upd_same (Rps.mono s q)⟩
  · by_cases hb : b = p
    · subst hb; rw [upd_same] at e ⊢; exact e
    · rw [upd_ne hb] at e ⊢; exact r.fz _ _ e
  · have : a ≠ p := fun e => by subst e; rw [r.h0 hp] at h1; cases h1
    show upd c.fz p (.tup vs) a = none
    rw [upd_ne this]
    exact r.low a o h1 h2
  · have ha : a ≠ p := fun e => by
      obtain ⟨o, z⟩ := r.taken (List.mem_of_getElem? h1)
      subst e; rw [hp] at z; cases z
    refine (r.cells k a cell h1 h2).up s (fun o e => same_new hp _ _ e) fun e => ?_
    show upd c.fz p (.tup vs) a = none
    rw [upd_ne ha]
    exact e
/-- an own list goes into other data -/
def freeze (d : D) (own : Own) : Option (PyData × Own) := match d with
  | .p d => some (d, own)
  | .own k => match own[k]? with
    | some (.lst .ours xs) => some (.list xs, own.set k (.lst .gone xs))
    | some (.lst .gone xs) => some (.list xs, own)
    | _ => none
theorem freeze_ok {x : PyData} {own' : Own} (r : RelH g c own H) (rd : RelD c v d) (h : freeze d own = some (x, own')) : ∃ c', Step c c' ∧ RelH g c' own' H ∧ Rp c'.fz v x := by
  cases d with
  | p d => cases h; exact ⟨c, Step.refl c, r, rd⟩
  | own k =>
    obtain ⟨a, e, rfl⟩ := rd
    obtain ⟨cell, e1, q⟩ := r.cell e
    unfold freeze at h
    simp only [e1] at h
    cases cell with
    | lst m ys =>
      cases q with
      | @ours xs vs h1 h2 h3 h4 =>
        cases h
        have s : Same c.fz (upd c.fz a (.lst vs)) := same_new h4
        refine ⟨⟨upd c.fz a (.lst vs), c.rho, c.lk⟩, ⟨⟨s, [], by simp⟩, rfl⟩, ⟨fun b o (z : upd c.fz a (.lst vs) b = some o) => ?_, r.same, r.lnH, r.nt0, r.ntf.upd (fun ps z => by cases z), r.tabs, r.base.trans s, fun b o z1 z2 => ?_, by simp [r.len], r.nd, fun j ys hj => ?_, fun j b cell z1 z2 => ?_⟩, .lst upd_same (Rps.mono s h2)⟩
        · by_cases hb : b = a
          · subst hb; rw [upd_same] at z; rw [← z]; exact h1
          · rw [upd_ne hb] at z; exact r.fz _ _ z
        · have : b ≠ a := fun e => by subst e; rw [h3] at z1; cases z1
          show upd c.fz a (.lst vs) b = none
          rw [upd_ne this]
          exact r.low b o z1 z2
        · obtain ⟨m, e2, n⟩ := r.lks j ys hj
          have : k ≠ j := fun eq => by
            subst eq
            rw [e1] at e2
            cases e2
            exact n rfl
          exact ⟨m, by rw [List.getElem?_set_ne this]; exact e2, n⟩
        · by_cases hj : j = k
          · subst hj
            rw [e] at z1
            cases z1
            rw [List.getElem?_set_self (List.getElem?_eq_some_iff.mp e1).1] at z2
            cases z2
            exact .gone upd_same (Rps.mono s h2)
          · rw [List.getElem?_set_ne (Ne.symm hj)] at z2
            have ne : b ≠ a := fun eq => hj (nd_ix r.nd (eq ▸ z1) e)
            refine (r.cells j b cell z1 z2).up s (fun o e => e) fun e => ?_
            show upd c.fz a (.lst vs) b = none
            rw [upd_ne ne]
            exact e
      | gone h1 h2 => cases h; exact ⟨c, Step.refl c, r, .lst h1 h2⟩
      | lent => cases h
      | lock => cases h
def freezeAll : List D → Own → Option (List PyData × Own)
  | [], own => some ([], own)
  | d :: ds, own => match freeze d own with
    | none => none
    | some (x, o1) => match freezeAll ds o1 with
      | none => none
      | some (xs, o2) => some (x :: xs, o2)
inductive RelDs (c : C) : List V → List D → Prop
  | nil : RelDs c [] []
  | cons {v : V} {vs : List V} {d : D} {ds : List D} : RelD c v d → RelDs c vs ds → RelDs c (v :: vs) (d :: ds)
theorem RelDs.step {c c' : C} (h : Step c c') : ∀ {vs : List V} {ds : List D}, RelDs c vs ds → RelDs c' vs ds
  | _, _, .nil => .nil
  | _, _, .cons r t => .cons (r.step h) (RelDs.step h t)
theorem RelDs.length {c : C} : ∀ {vs : List V} {ds : List D}, RelDs c vs ds → vs.length = ds.length
  | _, _, .nil => rfl
  | _, _, .cons r t => by rw [List.length_cons, List.length_cons, RelDs.length t]
theorem freezeAll_ok {H : Hp} {g : G} : ∀ {ds : List D} {c : C} {own : Own} {vs : List V} {xs : List PyData} {own' : Own}, RelH g c own H → RelDs c vs ds → freezeAll ds own = some (xs, own') → ∃ c', Step c c' ∧ RelH g c' own' H ∧ Rps c'.fz vs xs
  | [], c, own, _, _, _, r, .nil, h => by cases h; exact ⟨c, Step.refl c, r, .nil⟩
  | d :: ds, c, own, _, xs, own', r, .cons rd t, h => by
    unfold freezeAll at h
    cases h1 : freeze d own with
    | none => simp only [h1] at h; cases h
    | some p =>
      obtain ⟨x, o1⟩ := p
      simp only [h1] at h
      obtain ⟨c1, s1, r1, q1⟩ := freeze_ok r rd h1
      cases h2 : freezeAll ds o1 with
      | none => simp only [h2] at h; cases h
      | some p2 =>
        obtain ⟨ys, o2⟩ := p2
        simp only [h2] at h
        cases h
        obtain ⟨c2, s2, r2, q2⟩ := freezeAll_ok r1 (t.step s1) h2
        exact ⟨c2, s1.trans s2, r2, .cons (Rp.mono s2.fz q1) q2⟩
end

/-! ### operators -/
section
variable {X : Cx} {g : G}
def sz : Nat := 16777216
theorem sz_eq : sz = sizeLine := by unfold sz sizeLine; decide
def oAdd : D → D → Own → R D := fun x y own => match x, y with
  | .p (.int i), .p (.int j) => .ok (.p (.int (i + j))) own
  | .p (.tuple xs), .p (.tuple ys) => match Nat.ble (xs.length + ys.length) sz with
    | true => .ok (.p (.tuple (xs ++ ys))) own
    | false => .bad
  | x, y => match lv x own, lv y own with
    | some xs, some ys => match Nat.ble (xs.length + ys.length) sz with
      | true => .ok (.own own.length) (own ++ [.lst .ours (xs ++ ys)])
      | false => .bad
    | _, _ => .bad
theorem ble_le {n : Nat} (h : Nat.ble n sz = true) : n ≤ sizeLine := by rw [← sz_eq]; exact Nat.le_of_ble_eq_true h
theorem OpR.or {f : Value → Value → Sem Value} {r r' : R2} (h : OpR X f r) (h' : OpR X f r') : OpR X f fun x y H Q => r x y H Q ∨ r' x y H Q := fun pins s σ H x y v u Q I rx ry q => q.elim (h pins s σ H x y v u Q I rx ry) (h' pins s σ H x y v u Q I rx ry)
theorem OpR.imp {f : Value → Value → Sem Value} {r r' : R2} (h : OpR X f r) (i : ∀ x y H Q, r' x y H Q → r x y H Q) : OpR X f r' := fun pins s σ H x y v u Q I rx ry q => h pins s σ H x y v u Q I rx ry (i _ _ _ _ q)
theorem Rps.nil_iff {H : Hp} {ds : List PyData} {vs : List V} (r : Rps H vs ds) : vs = [] ↔ ds = [] := by
  cases r <;> simp
theorem or_add : OpR X (binaryOp .Add) (rM g oAdd) := by
  refine OpR.imp (OpR.or op_add (OpR.or op_catA op_cat)) fun x y H Q h => ?_
  obtain ⟨c, own, dx, dy, r, rx, ry, h⟩ := h
  unfold oAdd at h
  split at h
  · cases rx; cases ry
    exact .inl ⟨_, _, rfl, rfl, h c H _ (Step.refl c) r (.int _)⟩
  · rename_i xs ys
    split at h
    · rename_i hz
      cases rx with
      | @tup a vs _ h1 h2 =>
        cases ry with
        | @tup b us _ h3 h4 =>
          refine .inr (.inl ⟨a, b, vs, us, rfl, rfl, SqT.of (r.fz _ _ h1), SqT.of (r.fz _ _ h3), by rw [h2.length, h4.length]; exact ble_le hz, fun e => ?_, fun _ e => ?_, fun _ _ p hp => ?_⟩)
          · have : xs = [] := h2.nil_iff.mp e
            subst this
            exact h c H _ (Step.refl c) r (.tup h3 h4)
          · have : ys = [] := h4.nil_iff.mp e
            subst this
            rw [List.append_nil] at h
            exact h c H _ (Step.refl c) r (.tup h1 h2)
          · obtain ⟨c', s, r', q⟩ := r.newT hp (h2.append h4)
            exact h c' _ _ s r' q
    · exact h.elim
  · split at h
    · rename_i xs ys e1 e2
      split at h
      · rename_i hz
        obtain ⟨a, vs, rfl, h1, h2⟩ := lv_ok r rx e1
        obtain ⟨b, us, rfl, h3, h4⟩ := lv_ok r ry e2
        refine .inr (.inr ⟨a, b, vs, us, rfl, rfl, h1, h3, by rw [h2.length, h4.length]; exact ble_le hz, fun p hp => ?_⟩)
        obtain ⟨c', s, r', q⟩ := r.new hp (h2.append h4)
        exact h c' _ _ s r' q
      · exact h.elim
    · exact h.elim
def oSub : D → D → Own → R D := fun x y own => match x, y with
  | .p (.int i), .p (.int j) => .ok (.p (.int (i - j))) own
  | _, _ => .bad
theorem or_sub : OpR X (binaryOp .Sub) (rM g oSub) := by
  refine OpR.imp op_sub fun x y H Q h => ?_
  obtain ⟨c, own, dx, dy, r, rx, ry, h⟩ := h
  unfold oSub at h
  split at h
  · cases rx; cases ry
    exact ⟨_, _, rfl, rfl, h c H _ (Step.refl c) r (.int _)⟩
  · exact h.elim
/-- a factor below 2^64; or a list repeated -/
def oMul : D → D → Own → R D := fun x y own => match x, y with
  | .p (.int i), .p (.int j) => match Nat.blt i.natAbs 18446744073709551616 with
    | true => .ok (.p (.int (i * j))) own
    | false => match Nat.blt j.natAbs 18446744073709551616 with
      | true => .ok (.p (.int (i * j))) own
      | false => .bad
  | x, .p (.int k) => match lv x own with
    | some xs => match Nat.blt k.natAbs 10000000 && Nat.ble (xs.length * k.toNat) sz with
      | true => .ok (.own own.length) (own ++ [.lst .ours (List.replicate k.toNat xs).flatten])
      | false => .bad
    | none => .bad
  | _, _ => .bad
theorem Rps.rep {H : Hp} {ds : List PyData} {vs : List V} (r : Rps H vs ds) : ∀ n : Nat, Rps H (List.replicate n vs).flatten (List.replicate n ds).flatten
  | 0 => .nil
  | n + 1 => by
    rw [List.replicate_succ, List.replicate_succ, List.flatten_cons, List.flatten_cons]
    exact r.append (Rps.rep r n)
theorem nblt {a b : Nat} (h : Nat.blt a b = true) : a < b := Nat.le_of_ble_eq_true h
theorem or_mul : OpR X (binaryOp .Mult) (rM g oMul) := by
  refine OpR.imp (OpR.or op_mul op_rep) fun x y H Q h => ?_
  obtain ⟨c, own, dx, dy, r, rx, ry, h⟩ := h
  unfold oMul at h
  split at h
  · rename_i i j
    cases rx; cases ry
    split at h
    · rename_i hz
      have := nblt hz
      exact .inl ⟨_, _, rfl, rfl, .inl ⟨by omega, by omega⟩, h c H _ (Step.refl c) r (.int _)⟩
    · split at h
      · rename_i hz
        have := nblt hz
        exact .inl ⟨_, _, rfl, rfl, .inr ⟨by omega, by omega⟩, h c H _ (Step.refl c) r (.int _)⟩
      · exact h.elim
  · rename_i k _
    split at h
    · rename_i xs e1
      split at h
      · rename_i hz
        rw [Bool.and_eq_true] at hz
        have h1 := nblt hz.1
        have h2 := ble_le hz.2
        obtain ⟨a, vs, rfl, h3, h4⟩ := lv_ok r rx e1
        cases ry
        refine .inr ⟨a, k, vs, rfl, rfl, h3, by omega, by omega, by rw [h4.length]; exact h2, fun p hp => ?_⟩
        obtain ⟨c', s, r', q⟩ := r.new hp (h4.rep k.toNat)
        exact h c' _ _ s r' q
      · exact h.elim
    · exact h.elim
  · exact h.elim
/-- by a positive divisor below 2^30 -/
def oFdiv : D → D → Own → R D := fun x y own => match x, y with
  | .p (.int i), .p (.int j) => match Nat.blt 0 j.toNat && Nat.blt j.toNat 1073741824 with
    | true => .ok (.p (.int (i / j))) own
    | false => .bad
  | _, _ => .bad
theorem or_fdiv : OpR X (binaryOp .FloorDiv) (rM g oFdiv) := by
  refine OpR.imp op_fdiv fun x y H Q h => ?_
  obtain ⟨c, own, dx, dy, r, rx, ry, h⟩ := h
  unfold oFdiv at h
  split at h
  · cases rx; cases ry
    split at h
    · rename_i hz
      rw [Bool.and_eq_true] at hz
      have h1 := nblt hz.1
      have h2 := nblt hz.2
      exact ⟨_, _, rfl, rfl, ⟨by omega, by omega⟩, h c H _ (Step.refl c) r (.int _)⟩
    · exact h.elim
  · exact h.elim
def oMod : D → D → Own → R D := fun x y own => match x, y with
  | .p (.int i), .p (.int j) => match Nat.blt 0 j.toNat with
    | true => .ok (.p (.int (i % j))) own
    | false => .bad
  | _, _ => .bad
theorem or_mod : OpR X (binaryOp .Mod) (rM g oMod) := by
  refine OpR.imp op_mod fun x y H Q h => ?_
  obtain ⟨c, own, dx, dy, r, rx, ry, h⟩ := h
  unfold oMod at h
  split at h
  · cases rx; cases ry
    split at h
    · rename_i hz
      have h1 := nblt hz
      exact ⟨_, _, rfl, rfl, (by omega : (0:Int) < _), h c H _ (Step.refl c) r (.int _)⟩
    · exact h.elim
  · exact h.elim
/-- == : data at any depth -/
def oEq : D → D → Own → R D := fun x y own => match dv x own, dv y own with
  | some a, some b => match SeqAt.shaped a && SeqAt.shaped b with
    | true => .ok (.p (.bool (PyData.eqv a b))) own
    | false => .bad
  | _, _ => .bad
def oNe : D → D → Own → R D := fun x y own => match dv x own, dv y own with
  | some a, some b => match SeqAt.shaped a && SeqAt.shaped b with
    | true => .ok (.p (.bool (!PyData.eqv a b))) own
    | false => .bad
  | _, _ => .bad
theorem or_eq (hu : X.A.units + 64 < cLine) : OpR X (compareOp .Eq) (rM g oEq) := by
  refine OpR.imp (op_eqD hu) fun x y H Q h => ?_
  obtain ⟨c, own, dx, dy, r, rx, ry, h⟩ := h
  unfold oEq at h
  split at h
  · rename_i a b e1 e2
    split at h
    · rename_i hz
      rw [Bool.and_eq_true] at hz
      exact ⟨a, b, dv_ok r rx e1 (plain_sh hz.1), dv_ok r ry e2 (plain_sh hz.2), hz.1, hz.2, h c H _ (Step.refl c) r (.bl _)⟩
    · exact h.elim
  · exact h.elim
theorem or_ne (hu : X.A.units + 64 < cLine) : OpR X (compareOp .NotEq) (rM g oNe) := by
  refine OpR.imp (op_neD hu) fun x y H Q h => ?_
  obtain ⟨c, own, dx, dy, r, rx, ry, h⟩ := h
  unfold oNe at h
  split at h
  · rename_i a b e1 e2
    split at h
    · rename_i hz
      rw [Bool.and_eq_true] at hz
      exact ⟨a, b, dv_ok r rx e1 (plain_sh hz.1), dv_ok r ry e2 (plain_sh hz.2), hz.1, hz.2, h c H _ (Step.refl c) r (.bl _)⟩
    · exact h.elim
  · exact h.elim
/-- a list or tuple of data: in, not in -/
def oIn : D → D → Own → R D := fun x y own => match dv x own, dv y own with
  | some a, some b => match b with
    | .list ds => match SeqAt.shaped a && SeqAt.shaped (.list ds) with
      | true => .ok (.p (.bool (ds.any fun z => PyData.eqv z a))) own
      | false => .bad
    | _ => .bad
  | _, _ => .bad
theorem asInts {H : Hp} : ∀ {ds : List PyData} {vs : List V} {ns : List Int}, Rps H vs ds → ds = ns.map .int → vs = ns.map V.int
  | [], _, [], h, _ => by cases h; rfl
  | [], _, _ :: _, _, e => by cases e
  | _ :: _, _, [], _, e => by cases e
  | d :: ds, _, n :: ns, h, e => by
    cases h with
    | cons h1 h2 =>
      injection e with e1 e2
      subst e1
      cases h1
      rw [List.map_cons, asInts h2 e2]
def toInts : List PyData → Option (List Int)
  | [] => some []
  | d :: ds => match d with
    | .int i => match toInts ds with
      | some r => some (i :: r)
      | none => none
    | _ => none
theorem toInts_eq : ∀ {ds : List PyData} {ns : List Int}, toInts ds = some ns → ds = ns.map .int
  | [], ns, h => by cases h; rfl
  | d :: ds, ns, h => by
    unfold toInts at h
    split at h
    · split at h
      · rename_i r e
        cases h
        rw [List.map_cons, ← toInts_eq e]
      · cases h
    · cases h
def toBools : List PyData → Option (List Bool)
  | [] => some []
  | d :: ds => match d with
    | .bool i => match toBools ds with
      | some r => some (i :: r)
      | none => none
    | _ => none
theorem toBools_eq {H : Hp} : ∀ {ds : List PyData} {vs : List V} {bs : List Bool}, Rps H vs ds → toBools ds = some bs → vs = bs.map V.bl
  | [], _, bs, h, e => by cases h; cases e; rfl
  | d :: ds, _, bs, h, e => by
    unfold toBools at e
    split at e
    · split at e
      · rename_i r q
        cases e
        cases h with
        | cons h1 h2 =>
          cases h1
          rw [List.map_cons, toBools_eq h2 q]
      · cases e
    · cases e
def oCmp (p : Int → Int → Bool) : D → D → Own → R D := fun x y own => match x, y with
  | .p (.int i), .p (.int j) => .ok (.p (.bool (p i j))) own
  | _, _ => .bad
theorem or_cmp {op : CmpOp} {p : Int → Int → Bool} (h : OpR X (compareOp op) (rI0 fun i j => .bl (p i j))) : OpR X (compareOp op) (rM g (oCmp p)) := by
  refine OpR.imp h fun x y H Q h => ?_
  obtain ⟨c, own, dx, dy, r, rx, ry, h⟩ := h
  unfold oCmp at h
  split at h
  · cases rx; cases ry
    exact ⟨_, _, rfl, rfl, h c H _ (Step.refl c) r (.bl _)⟩
  · exact h.elim
def ltI (i j : Int) : Bool := decide (i < j)
def leI (i j : Int) : Bool := decide (i ≤ j)
def gtI (i j : Int) : Bool := decide (j < i)
def geI (i j : Int) : Bool := decide (j ≤ i)
theorem or_le : OpR X (compareOp .LtE) (rM g (oCmp leI)) := or_cmp op_le
theorem or_gt : OpR X (compareOp .Gt) (rM g (oCmp gtI)) := or_cmp op_gt
theorem or_ge : OpR X (compareOp .GtE) (rM g (oCmp geI)) := or_cmp op_ge
/-- < of toInts, of tuples of toInts -/
def oLt : D → D → Own → R D := fun x y own => match x, y with
  | .p (.int i), .p (.int j) => .ok (.p (.bool (ltI i j))) own
  | .p (.tuple xs), .p (.tuple ys) => match toInts xs, toInts ys with
    | some ns, some ms => .ok (.p (.bool (HT.lexLt ns ms))) own
    | _, _ => .bad
  | _, _ => .bad
theorem or_lt (hu : X.A.units < cLine) : OpR X (compareOp .Lt) (rM g oLt) := by
  refine OpR.imp (OpR.or op_lt (op_ltT hu)) fun x y H Q h => ?_
  obtain ⟨c, own, dx, dy, r, rx, ry, h⟩ := h
  unfold oLt at h
  split at h
  · cases rx; cases ry
    exact .inl ⟨_, _, rfl, rfl, h c H _ (Step.refl c) r (.bl _)⟩
  · split at h
    · rename_i ns ms e1 e2
      cases rx with
      | @tup a vs _ h1 h2 =>
        cases ry with
        | @tup b us _ h3 h4 =>
          have q1 := asInts h2 (toInts_eq e1)
          have q2 := asInts h4 (toInts_eq e2)
          subst q1 q2
          exact .inr ⟨a, b, ns, ms, rfl, rfl, SqT.of (r.fz _ _ h1), SqT.of (r.fz _ _ h3), h c H _ (Step.refl c) r (.bl _)⟩
    · exact h.elim
  · exact h.elim
end
end Mir

set_option maxRecDepth 100000
set_option maxHeartbeats 4000000
namespace Mir
variable [Tab]
open PySem PySem.Spec PyProof.Rows L2
section
variable {X : Cx} {g : G}
/-! ### in, not in -/
def rInS (K : PySem.W.Frag) (f : Bool → Bool) : R2 := fun x y H Q => ∃ d ds, Dp K H x d ∧ (Dp K H y (.list ds) ∨ Dp K H y (.tuple ds)) ∧ SeqAt.shaped d = true ∧ SeqAt.shaped (.list ds) = true ∧ Q (.bl (f (ds.any fun z => PyData.eqv z d))) H
theorem op_inS (hu : X.A.units + 65 < cLine) : OpR X (compareOp .In) (rInS X.K fun b => b) := by
  intro pins s σ H x y v u Q I rx ry h
  obtain ⟨d, ds, hd, he, sd, se, q⟩ := h
  obtain ⟨as, r1⟩ := Dp.reads I d x v hd rx
  rcases he with he | he
  · obtain ⟨bs, r2⟩ := Dp.reads I (.list ds) y u he ry
    exact SeqAt.in_list_reads r2 r1 (SeqAt.canLay_of_shaped se) (SeqAt.canLay_of_shaped sd) (room_in_shaped sd hu) ⟨.bl _, H, I, rfl, q⟩
  · obtain ⟨bs, r2⟩ := Dp.reads I (.tuple ds) y u he ry
    exact SeqAt.in_tuple_reads r2 r1 (SeqAt.canLay_of_shaped se) (SeqAt.canLay_of_shaped sd) (room_in_shaped sd hu) ⟨.bl _, H, I, rfl, q⟩
theorem op_notInS (hu : X.A.units + 65 < cLine) : OpR X (compareOp .NotIn) (rInS X.K fun b => !b) := by
  intro pins s σ H x y v u Q I rx ry h
  obtain ⟨d, ds, hd, he, sd, se, q⟩ := h
  obtain ⟨as, r1⟩ := Dp.reads I d x v hd rx
  rcases he with he | he
  · obtain ⟨bs, r2⟩ := Dp.reads I (.list ds) y u he ry
    exact SeqAt.notIn_list_reads r2 r1 (SeqAt.canLay_of_shaped se) (SeqAt.canLay_of_shaped sd) (room_in_shaped sd hu) ⟨.bl _, H, I, rfl, q⟩
  · obtain ⟨bs, r2⟩ := Dp.reads I (.tuple ds) y u he ry
    exact SeqAt.notIn_tuple_reads r2 r1 (SeqAt.canLay_of_shaped se) (SeqAt.canLay_of_shaped sd) (room_in_shaped sd hu) ⟨.bl _, H, I, rfl, q⟩
theorem sv_dp {K : PySem.W.Frag} {c : C} {own : Own} {H : Hp} {v : V} {d : D} {xs : List PyData} (r : RelH g c own H) (rd : RelD c v d) (h : sv d own = some xs) (hp : PyData.plainAll xs = true) : Dp K H v (.list xs) ∨ Dp K H v (.tuple xs) := by
  obtain ⟨a, vs, rfl, h1, h2⟩ := sv_ok r rd h
  rcases h1 with h1 | h1
  · exact .inl (.lst (SqL.of h1) ((Rps.mono r.fz h2).dp hp))
  · exact .inr (.tup (SqT.of h1) ((Rps.mono r.fz h2).dp hp))
def oInF (f : Bool → Bool) : D → D → Own → R D := fun x y own => match dv x own, sv y own with
  | some a, some ds => match SeqAt.shaped a && SeqAt.shaped (.list ds) with
    | true => .ok (.p (.bool (f (ds.any fun z => PyData.eqv z a)))) own
    | false => .bad
  | _, _ => .bad
theorem or_inF {op : CmpOp} {f : Bool → Bool} (ho : OpR X (compareOp op) (rInS X.K f)) : OpR X (compareOp op) (rM g (oInF f)) := by
  refine OpR.imp ho fun x y H Q h => ?_
  obtain ⟨c, own, dx, dy, r, rx, ry, h⟩ := h
  unfold oInF at h
  split at h
  · rename_i a b e1 e2
    split at h
    · rename_i hz
      rw [Bool.and_eq_true] at hz
      exact ⟨a, b, dv_ok r rx e1 (plain_sh hz.1), sv_dp r ry e2 (by simpa only [PyData.plain] using plain_sh hz.2), hz.1, hz.2, h c H _ (Step.refl c) r (.bl _)⟩
    · exact h.elim
  · exact h.elim
def oInS : D → D → Own → R D := oInF fun b => b
def oNotIn : D → D → Own → R D := oInF fun b => !b
theorem or_in (hu : X.A.units + 65 < cLine) : OpR X (compareOp .In) (rM g oInS) := or_inF (op_inS hu)
theorem or_notIn (hu : X.A.units + 65 < cLine) : OpR X (compareOp .NotIn) (rM g oNotIn) := or_inF (op_notInS hu)
/-- is None -/
def oIsN (f : Bool → Bool) : D → D → Own → R D := fun x y own => match y with
  | .p .none => match x with
    | .p .none => .ok (.p (.bool (f true))) own
    | _ => .ok (.p (.bool (f false))) own
  | _ => .bad
theorem or_isNF {op : CmpOp} {f : Bool → Bool} (ho : OpR X (compareOp op) fun x y H Q => y = .non ∧ Q (.bl (f (decide (x = .non)))) H) : OpR X (compareOp op) (rM g (oIsN f)) := by
  refine OpR.imp ho fun x y H Q h => ?_
  obtain ⟨c, own, dx, dy, r, rx, ry, h⟩ := h
  unfold oIsN at h
  split at h
  · cases ry
    refine ⟨rfl, ?_⟩
    split at h
    · cases rx
      exact h c H _ (Step.refl c) r (.bl _)
    · rename_i hn
      have : decide (x = V.non) = false := by
        apply decide_eq_false
        rintro rfl
        cases dx with
        | p d => cases d <;> cases rx; exact hn rfl
        | own k => obtain ⟨_, _, z⟩ := rx; cases z
      rw [this]
      exact h c H _ (Step.refl c) r (.bl _)
  · exact h.elim
theorem or_is : OpR X (compareOp .Is) (rM g (oIsN fun b => b)) := or_isNF op_isN
theorem or_isNot : OpR X (compareOp .IsNot) (rM g (oIsN fun b => !b)) := or_isNF op_notN

/-! ### and, or, not, chains -/
variable {a b : Expr} {rest : List Expr} {pos : Pos}
def mAnd (x y : M Bool) : M Bool := fun env own => (x env own).bind fun c o => match c with
  | true => y env o
  | false => .ok false o
def mOr (x y : M Bool) : M Bool := fun env own => (x env own).bind fun c o => match c with
  | true => .ok true o
  | false => y env o
def mNot (x : M Bool) : M Bool := fun env own => (x env own).bind fun c o => .ok (!c) o
theorem mw_and1 {x : M Bool} (ha : PT X a (tT g x)) : PW X (.BoolOp .And [a] pos) (tT g x) := pw_and1 ha
theorem mw_or1 {x : M Bool} (ha : PT X a (tT g x)) : PW X (.BoolOp .Or [a] pos) (tT g x) := pw_or1 ha
theorem pw_imp {X : Cx} {e : Expr} {t t' : TT} (h : PW X e t) (i : ∀ σ H Q, t' σ H Q → t σ H Q) : PW X e t' := ⟨fun w pins s σ H Q I q => h.run w pins s σ H Q I (i σ H Q q)⟩
theorem tT.up {g : G} {c c1 : C} {env : Env} {own : Own} {σ : L2.St} {H : Hp} {m : M Bool} {Q : Bool → Hp → Prop} (s : Step c c1) (r : RelH g c1 own H) (e : RelE c1 env σ) (h : Post g (m env own) fun b own' => ∀ c' H', Step c c' → RelH g c' own' H' → Q b H') : tT g m σ H Q :=
  ⟨c1, env, own, r, e, Post.mono (fun _ _ q c' H' s' => q c' H' (s.trans s')) h⟩
theorem tE.up {g : G} {c c1 : C} {env : Env} {own : Own} {σ : L2.St} {H : Hp} {m : M D} {Q : VK} (s : Step c c1) (r : RelH g c1 own H) (e : RelE c1 env σ) (h : Post g (m env own) (PQ g c Q)) : tE g m σ H Q :=
  ⟨c1, env, own, r, e, Post.mono (fun _ _ q c' H' v s' => q c' H' v (s.trans s')) h⟩
theorem mw_and {x y : M Bool} (ha : PT X a (tT g x)) (hb : PW X (.BoolOp .And (b :: rest) pos) (tT g y)) : PW X (.BoolOp .And (a :: b :: rest) pos) (tT g (mAnd x y)) := by
  refine pw_imp (pw_and ha hb) fun σ H Q h => ?_
  obtain ⟨c, env, own, r, e, h⟩ := h
  refine tT.go r e h fun d o1 c1 H1 s1 r1 e1 h1 => ?_
  cases d with
  | true => exact iteT (tT.up s1 r1 e1 h1)
  | false => exact iteF (h1 c1 H1 s1 r1)
theorem mw_or {x y : M Bool} (ha : PT X a (tT g x)) (hb : PW X (.BoolOp .Or (b :: rest) pos) (tT g y)) : PW X (.BoolOp .Or (a :: b :: rest) pos) (tT g (mOr x y)) := by
  refine pw_imp (pw_or ha hb) fun σ H Q h => ?_
  obtain ⟨c, env, own, r, e, h⟩ := h
  refine tT.go r e h fun d o1 c1 H1 s1 r1 e1 h1 => ?_
  cases d with
  | true => exact iteT (h1 c1 H1 s1 r1)
  | false => exact iteF (tT.up s1 r1 e1 h1)
theorem mt_w {e : Expr} {x : M Bool} (h : PW X e (tT g x)) : PT X e (tT g x) := h.pt
theorem mt_not {x : M Bool} (ha : PT X a (tT g x)) : PT X (.UnaryOp .Not a pos) (tT g (mNot x)) := by
  refine pt_imp (pt_not ha) fun σ H Q h => ?_
  obtain ⟨c, env, own, r, e, h⟩ := h
  exact tT.go r e h fun d o1 c1 H1 s1 r1 e1 h1 => h1 c1 H1 s1 r1
/-- an expression whose value is a bool, as a test (a call, a name) -/
theorem mt_val {e : Expr} {m : M D} (h : PE X e (tE g m)) (he : ∀ whole, isTrue e X.env whole = (do let v ← whole; standAt e.pos; holding [v] (truthy v)) := by intro _; rfl) : PT X e (tT g (mAsB m)) :=
  pt_imp (pt_val h he) fun σ H Q h => asB_of h
def mAndV (x : M Bool) (y : M D) : M D := fun env own => (x env own).bind fun c o => match c with
  | true => y env o
  | false => .ok (.p (.bool false)) o
def mOrV (x : M Bool) (y : M D) : M D := fun env own => (x env own).bind fun c o => match c with
  | true => .ok (.p (.bool true)) o
  | false => y env o
theorem R.bind_assoc {α β γ : Type} {f : α → Own → R β} {k : β → Own → R γ} : ∀ r : R α, (r.bind f).bind k = r.bind fun a o => (f a o).bind k
  | .ok a o => rfl
  | .bad => rfl
  | .exc k d => rfl
  | .draw n q => by
    show R.draw n _ = R.draw n _
    congr 1
    funext d
    exact R.bind_assoc (q d)
/-- going on behind an expression that must be a bool -/
theorem tE.goB {g : G} {c : C} {env : Env} {own : Own} {σ : L2.St} {H : Hp} {m : M D} {β : Type} {f : Bool → Own → R β} {P : β → Own → Prop} {Q : VK} (r : RelH g c own H) (e : RelE c env σ) (h : Post g ((mAsB m env own).bind f) P)
    (hQ : ∀ b own' c' H', Step c c' → RelH g c' own' H' → RelE c' env σ → Post g (f b own') P → Q (.bl b) H') : tE g m σ H Q := by
  unfold mAsB asB at h
  rw [R.bind_assoc] at h
  refine tE.go r e h fun d o1 c1 H1 v1 s1 r1 e1 d1 h1 => ?_
  split at h1
  · cases d1
    exact hQ _ o1 c1 H1 s1 r1 e1 h1
  · exact h1.elim
theorem me_and {x y : M D} (ha : PE X a (tE g x)) (hb : PE X (.BoolOp .And (b :: rest) pos) (tE g y)) : PE X (.BoolOp .And (a :: b :: rest) pos) (tE g (mAndV (mAsB x) y)) := by
  refine pe_imp (pe_and ha hb) fun σ H Q h => ?_
  obtain ⟨c, env, own, r, e, h⟩ := h
  refine tE.goB r e h fun d o1 c1 H1 s1 r1 e1 h1 => ⟨d, rfl, ?_⟩
  cases d with
  | true => exact iteT (tE.up s1 r1 e1 h1)
  | false => exact iteF (h1 c1 H1 _ s1 r1 (.bl _))
theorem me_or {x y : M D} (ha : PE X a (tE g x)) (hb : PE X (.BoolOp .Or (b :: rest) pos) (tE g y)) : PE X (.BoolOp .Or (a :: b :: rest) pos) (tE g (mOrV (mAsB x) y)) := by
  refine pe_imp (pe_or ha hb) fun σ H Q h => ?_
  obtain ⟨c, env, own, r, e, h⟩ := h
  refine tE.goB r e h fun d o1 c1 H1 s1 r1 e1 h1 => ⟨d, rfl, ?_⟩
  cases d with
  | true => exact iteT (h1 c1 H1 _ s1 r1 (.bl _))
  | false => exact iteF (tE.up s1 r1 e1 h1)
theorem me_one {op : BoolOp} {x : M D} (ha : PE X a (tE g x)) : PE X (.BoolOp op [a] pos) (tE g x) := pe_one ha
def mNotV (x : M Bool) : M D := fun env own => (x env own).bind fun c o => .ok (.p (.bool (!c))) o
theorem me_not {x : M D} (ha : PE X a (tE g x)) : PE X (.UnaryOp .Not a pos) (tE g (mNotV (mAsB x))) := by
  refine pe_imp (pe_not ha) fun σ H Q h => ?_
  obtain ⟨c, env, own, r, e, h⟩ := h
  exact tE.goB r e h fun d o1 c1 H1 s1 r1 e1 h1 => ⟨d, rfl, h1 c1 H1 _ s1 r1 (.bl _)⟩
def mIf (t : M Bool) (x y : M D) : M D := fun env own => (t env own).bind fun c o => match c with
  | true => x env o
  | false => y env o
theorem me_if {cnd : Expr} {t : M Bool} {x y : M D} (hc : PT X cnd (tT g t)) (ha : PE X a (tE g x)) (hb : PE X b (tE g y)) : PE X (.IfExp cnd a b pos) (tE g (mIf t x y)) := by
  refine pe_imp (pe_ifExp hc ha hb) fun σ H Q h => ?_
  obtain ⟨c, env, own, r, e, h⟩ := h
  refine tT.go r e h fun d o1 c1 H1 s1 r1 e1 h1 => ?_
  cases d with
  | true => exact iteT (tE.up s1 r1 e1 h1)
  | false => exact iteF (tE.up s1 r1 e1 h1)
def mChain (f f' : D → D → Own → R D) (x y z : M D) : M D := fun env own => (x env own).bind fun p o => (y env o).bind fun q o => (asB (f p q o)).bind fun k o => match k with
  | true => (z env o).bind fun w o => f' q w o
  | false => .ok (.p (.bool false)) o
theorem asB_post {r : R D} {β : Type} {f : Bool → Own → R β} {P : β → Own → Prop} (h : Post g ((asB r).bind f) P) : Post g r fun d o => ∃ b, d = .p (.bool b) ∧ Post g (f b o) P := by
  unfold asB at h
  rw [R.bind_assoc] at h
  refine Post.mono (fun d o q => ?_) (Post.bind h)
  split at q
  · exact ⟨_, rfl, q⟩
  · exact q.elim
theorem tChain_of {f f' : D → D → Own → R D} {x y z : M D} {σ : L2.St} {H : Hp} {Q : VK} (h : tE g (mChain f f' x y z) σ H Q) : tChain (rM g f) (rM g f') (tE g x) (tE g y) (tE g z) σ H Q := by
  obtain ⟨c, env, own, r, e, h⟩ := h
  refine tE.go r e h fun p o1 c1 H1 v1 s1 r1 e1 d1 h1 => ?_
  refine tE.go r1 e1 h1 fun q o2 c2 H2 v2 s2 r2 e2 d2 h2 => ?_
  refine ⟨c2, o2, p, q, r2, d1.step s2, d2, Post.mono (fun d o z c3 H3 v s3 r3 rd => ?_) (asB_post h2)⟩
  obtain ⟨k, rfl, h3⟩ := z
  cases rd
  refine ⟨k, rfl, ?_⟩
  cases k with
  | true =>
    refine iteT (tE.go r3 (e2.step s3) h3 fun w o4 c4 H4 v4 s4 r4 e4 d4 h4 => ?_)
    exact ⟨c4, o4, q, w, r4, d2.step (s3.trans s4), d4, Post.mono (fun _ _ q c' H' v s' => q c' H' v (((s1.trans s2).trans (s3.trans s4)).trans s')) h4⟩
  | false => exact iteF (h3 c3 H3 _ ((s1.trans s2).trans s3) r3 (.bl _))
theorem me_chain {op op' : CmpOp} {f f' : D → D → Own → R D} {cc : Expr} {x y z : M D} (ho : OpR X (compareOp op) (rM g f)) (ho' : OpR X (compareOp op') (rM g f')) (ha : PE X a (tE g x)) (hb : PE X b (tE g y)) (hc : PE X cc (tE g z))
    (hm : lastMarks [op, op'] [b, cc] = false := by with_unfolding_all rfl) : PE X (.Compare a [op, op'] [b, cc] pos) (tE g (mChain f f' x y z)) := pe_imp (pe_chain ho ho' ha hb hc hm) fun _ _ _ h => tChain_of h
theorem mt_chain {op op' : CmpOp} {f f' : D → D → Own → R D} {cc : Expr} {x y z : M D} (ho : OpR X (compareOp op) (rM g f)) (ho' : OpR X (compareOp op') (rM g f')) (ha : PE X a (tE g x)) (hb : PE X b (tE g y)) (hc : PE X cc (tE g z))
    (hm : lastMarks [op, op'] [b, cc] = false := by with_unfolding_all rfl) : PT X (.Compare a [op, op'] [b, cc] pos) (tT g (mAsB (mChain f f' x y z))) := pt_imp (pt_chain ho ho' ha hb hc hm) fun σ H Q h => tChain_of (asB_of h)

/-! ### argument lists, displays -/
abbrev QA (g : G) (c : C) (Q : List V → Hp → Prop) : List D → Own → Prop := fun ds own' => ∀ c' H' vs, Step c c' → RelH g c' own' H' → RelDs c' vs ds → Q vs H'
def tA (g : G) (m : M (List D)) : TA := fun σ H Q => ∃ c env own, RelH g c own H ∧ RelE c env σ ∧ Post g (m env own) (QA g c Q)
theorem pa_imp {X : Cx} {es : List Expr} {t t' : TA} (h : PA X es t) (i : ∀ σ H Q, t' σ H Q → t σ H Q) : PA X es t' := ⟨fun pos pins s σ H Q I q => h.run pos pins s σ H Q I (i σ H Q q)⟩
def mNil : M (List D) := fun _ own => .ok [] own
def mCons (x : M D) (xs : M (List D)) : M (List D) := fun env own => (x env own).bind fun d o => (xs env o).bind fun ds o => .ok (d :: ds) o
theorem tA.go {g : G} {c : C} {env : Env} {own : Own} {σ : L2.St} {H : Hp} {m : M (List D)} {β : Type} {f : List D → Own → R β} {P : β → Own → Prop} {Q : List V → Hp → Prop} (r : RelH g c own H) (e : RelE c env σ) (h : Post g ((m env own).bind f) P)
    (hQ : ∀ ds own' c' H' vs, Step c c' → RelH g c' own' H' → RelE c' env σ → RelDs c' vs ds → Post g (f ds own') P → Q vs H') : tA g m σ H Q :=
  ⟨c, env, own, r, e, Post.mono (fun ds own' q c' H' vs s r' rd => hQ ds own' c' H' vs s r' (e.step s) rd q) (Post.bind h)⟩
theorem ma_nil : PA X [] (tA g mNil) := pa_imp pa_nil fun σ H Q ⟨c, env, own, r, e, h⟩ => h c H [] (Step.refl c) r .nil
theorem ma_cons {e : Expr} {es : List Expr} {x : M D} {xs : M (List D)} (ha : PE X e (tE g x)) (hr : PA X es (tA g xs)) (hs : starEach (e :: es) X.env = (false, eval e X.env) :: starEach es X.env := by rfl) : PA X (e :: es) (tA g (mCons x xs)) := by
  refine pa_imp (pa_cons ha hr hs) fun σ H Q h => ?_
  obtain ⟨c, env, own, r, e, h⟩ := h
  refine tE.go r e h fun d o1 c1 H1 v1 s1 r1 e1 d1 h1 => ?_
  refine tA.go r1 e1 h1 fun ds o2 c2 H2 vs s2 r2 e2 d2 h2 => ?_
  exact h2 c2 H2 _ (s1.trans s2) r2 (.cons (d1.step s2) d2)
def mTup (m : M (List D)) : M D := fun env own => (m env own).bind fun ds o => match freezeAll ds o with
  | some (xs, o) => match Nat.ble xs.length sz with
    | true => .ok (.p (.tuple xs)) o
    | false => .bad
  | none => .bad
def mLst (m : M (List D)) : M D := fun env own => (m env own).bind fun ds o => match freezeAll ds o with
  | some (xs, o) => match Nat.ble xs.length sz with
    | true => .ok (.own o.length) (o ++ [.lst .ours xs])
    | false => .bad
  | none => .bad
theorem me_tup {es : List Expr} {m : M (List D)} {x1} (h : PA X es (tA g m)) : PE X (.Tuple es x1 pos) (tE g (mTup m)) := by
  refine pe_imp (pe_tup h) fun σ H Q h => ?_
  obtain ⟨c, env, own, r, e, h⟩ := h
  refine tA.go r e h fun ds o1 c1 H1 vs s1 r1 e1 d1 h1 => ?_
  split at h1
  · rename_i xs o2 ef
    split at h1
    · rename_i hz
      obtain ⟨c2, s2, r2, q2⟩ := freezeAll_ok r1 d1 ef
      refine ⟨by rw [q2.length]; exact ble_le hz, fun p hp => ?_⟩
      obtain ⟨c3, s3, r3, q3⟩ := r2.newT hp q2
      exact h1 c3 _ _ (s1.trans (s2.trans s3)) r3 q3
    · exact h1.elim
  · exact h1.elim
theorem me_lst {es : List Expr} {m : M (List D)} (h : PA X es (tA g m)) : PE X (.List es pos) (tE g (mLst m)) := by
  refine pe_imp (pe_lst h) fun σ H Q h => ?_
  obtain ⟨c, env, own, r, e, h⟩ := h
  refine tA.go r e h fun ds o1 c1 H1 vs s1 r1 e1 d1 h1 => ?_
  split at h1
  · rename_i xs o2 ef
    split at h1
    · rename_i hz
      obtain ⟨c2, s2, r2, q2⟩ := freezeAll_ok r1 d1 ef
      refine ⟨by rw [q2.length]; exact ble_le hz, fun p hp => ?_⟩
      obtain ⟨c3, s3, r3, q3⟩ := r2.new hp q2
      exact h1 c3 _ _ (s1.trans (s2.trans s3)) r3 q3
    · exact h1.elim
  · exact h1.elim

/-! ### built-in functions by values -/
def rC (g : G) (f : List D → Own → R D) : List V → Hp → VK → Prop := fun xs H Q => ∃ c own ds, RelH g c own H ∧ RelDs c xs ds ∧ Post g (f ds own) (PQ g c Q)
def mCall (f : List D → Own → R D) (m : M (List D)) : M D := fun env own => (m env own).bind f
theorem tCB_of {f : List D → Own → R D} {m : M (List D)} {σ : L2.St} {H : Hp} {Q : VK} (h : tE g (mCall f m) σ H Q) : tCB (rC g f) (tA g m) σ H Q := by
  obtain ⟨c, env, own, r, e, h⟩ := h
  refine tA.go r e h fun ds o1 c1 H1 vs s1 r1 e1 d1 h1 => ?_
  exact ⟨c1, o1, ds, r1, d1, Post.mono (fun _ _ q c' H' v s' => q c' H' v (s1.trans s')) h1⟩
theorem CallR.imp {fn : Value} {r r' : List V → Hp → VK → Prop} (h : CallR X fn r) (i : ∀ xs H Q, r' xs H Q → r xs H Q) : CallR X fn r' := fun pins s σ H xs us Q I rx q => h pins s σ H xs us Q I rx (i _ _ _ q)
theorem CallR.or {fn : Value} {r r' : List V → Hp → VK → Prop} (h : CallR X fn r) (h' : CallR X fn r') : CallR X fn fun xs H Q => r xs H Q ∨ r' xs H Q := fun pins s σ H xs us Q I rx q => q.elim (h pins s σ H xs us Q I rx) (h' pins s σ H xs us Q I rx)
theorem me_callB {id : String} {x : Str} {f : List D → Own → R D} {e : Expr} {es : List Expr} {m : M (List D)} {p : Pos} (hc : CallR X (.builtin id) (rC g f)) (hg : Gl X x) (hm : X.mg x = none) (hv : bootBuiltins x = some (.builtin id)) (ha : PA X (e :: es) (tA g m)) (hn : x ≠ "__name__" := by decide) (hdb : (x == ("__debug__" : Str)) = false := by decide)
    (he : starEach (e :: es) X.env = (false, eval e X.env) :: starEach es X.env := by rfl) (hpl : (backTo pos (starEach es X.env)).any (·.1) = false := by rfl) : PE X (.Call (.Name x p) (e :: es) [] pos) (tE g (mCall f m)) :=
  pe_imp (pe_callB hc hg hm hv ha hn hdb he hpl) fun _ _ _ h => tCB_of h
theorem me_callTy {T : String} {x : Str} {f : List D → Own → R D} {e : Expr} {es : List Expr} {m : M (List D)} {p : Pos} (hc : CallR X (.type T) (rC g f)) (hg : Gl X x) (hm : X.mg x = none) (hv : bootBuiltins x = some (.type T)) (ha : PA X (e :: es) (tA g m)) (hn : x ≠ "__name__" := by decide) (hdb : (x == ("__debug__" : Str)) = false := by decide)
    (he : starEach (e :: es) X.env = (false, eval e X.env) :: starEach es X.env := by rfl) (hpl : (backTo pos (starEach es X.env)).any (·.1) = false := by rfl) : PE X (.Call (.Name x p) (e :: es) [] pos) (tE g (mCall f m)) :=
  pe_imp (pe_callTy hc hg hm hv ha hn hdb he hpl) fun _ _ _ h => tCB_of h
def one1 (f : D → Own → R D) : List D → Own → R D := fun ds own => match ds with
  | [d] => f d own
  | _ => .bad
theorem rC_one {f : D → Own → R D} {xs : List V} {H : Hp} {Q : VK} (h : rC g (one1 f) xs H Q) : ∃ c own x d, xs = [x] ∧ RelH g c own H ∧ RelD c x d ∧ Post g (f d own) (PQ g c Q) := by
  obtain ⟨c, own, ds, r, rd, h⟩ := h
  unfold one1 at h
  split at h
  · cases rd with
    | cons r1 r2 => cases r2; exact ⟨c, own, _, _, rfl, r, r1, h⟩
  · exact h.elim
def fLen : List D → Own → R D := one1 fun d own => match sv d own with
  | some xs => .ok (.p (.int (xs.length : Nat))) own
  | none => .bad
theorem cr_len : CallR X (.builtin "len") (rC g fLen) := by
  refine CallR.imp call_len fun xs H Q h0 => ?_
  obtain ⟨c, own, x, d, rfl, r, rd, h⟩ := rC_one h0
  split at h
  · rename_i ys e
    obtain ⟨a, vs, rfl, h1, h2⟩ := sv_ok r rd e
    refine ⟨_, ys.length, rfl, ?_, h c H _ (Step.refl c) r (.int _)⟩
    rcases h1 with h1 | h1
    · exact .inl ⟨vs, SqL.of h1, h2.length.symm⟩
    · exact .inr ⟨vs, SqT.of h1, h2.length.symm⟩
  · exact h.elim
def fAll : List D → Own → R D := one1 fun d own => match lv d own with
  | some xs => match toBools xs with
    | some bs => .ok (.p (.bool (bs.all id))) own
    | none => .bad
  | none => .bad
def fAny : List D → Own → R D := one1 fun d own => match lv d own with
  | some xs => match toBools xs with
    | some bs => .ok (.p (.bool (bs.any id))) own
    | none => .bad
  | none => .bad
theorem cm_all (hc : X.calm = true) : CallR X (.builtin "all") (rC g fAll) := by
  refine CallR.imp (cr_all hc) fun xs H Q h0 => ?_
  obtain ⟨c, own, x, d, rfl, r, rd, h⟩ := rC_one h0
  split at h
  · rename_i ys e
    split at h
    · rename_i bs eb
      obtain ⟨a, vs, rfl, h1, h2⟩ := lv_ok r rd e
      have := toBools_eq h2 eb
      subst this
      exact ⟨a, bs, rfl, SqL.of h1, h c H _ (Step.refl c) r (.bl _)⟩
    · exact h.elim
  · exact h.elim
theorem cm_any (hc : X.calm = true) : CallR X (.builtin "any") (rC g fAny) := by
  refine CallR.imp (cr_any hc) fun xs H Q h0 => ?_
  obtain ⟨c, own, x, d, rfl, r, rd, h⟩ := rC_one h0
  split at h
  · rename_i ys e
    split at h
    · rename_i bs eb
      obtain ⟨a, vs, rfl, h1, h2⟩ := lv_ok r rd e
      have := toBools_eq h2 eb
      subst this
      exact ⟨a, bs, rfl, SqL.of h1, h c H _ (Step.refl c) r (.bl _)⟩
    · exact h.elim
  · exact h.elim
def fSum : List D → Own → R D := one1 fun d own => match lv d own with
  | some xs => match toInts xs with
    | some ns => .ok (.p (.int ns.sum)) own
    | none => .bad
  | none => .bad
theorem cm_sum (hc : X.calm = true) : CallR X (.builtin "sum") (rC g fSum) := by
  refine CallR.imp (cr_sum hc) fun xs H Q h0 => ?_
  obtain ⟨c, own, x, d, rfl, r, rd, h⟩ := rC_one h0
  split at h
  · rename_i ys e
    split at h
    · rename_i ns eb
      obtain ⟨a, vs, rfl, h1, h2⟩ := lv_ok r rd e
      have := asInts h2 (toInts_eq eb)
      subst this
      exact ⟨a, ns, rfl, SqL.of h1, h c H _ (Step.refl c) r (.int _)⟩
    · exact h.elim
  · exact h.elim
/-- list(xs), tuple(xs) of a list or tuple -/
def fList : List D → Own → R D := one1 fun d own => match sv d own with
  | some xs => .ok (.own own.length) (own ++ [.lst .ours xs])
  | none => .bad
theorem cm_list : CallR X (.type "list") (rC g fList) := by
  refine CallR.imp call_list_of fun xs H Q h0 => ?_
  obtain ⟨c, own, x, d, rfl, r, rd, h⟩ := rC_one h0
  split at h
  · rename_i ys e
    obtain ⟨a, vs, rfl, h1, h2⟩ := sv_ok r rd e
    refine ⟨a, vs, rfl, h1.imp SqL.of SqT.of, fun l hl => ?_⟩
    obtain ⟨c', s, r', q⟩ := r.new hl h2
    exact h c' _ _ s r' q
  · exact h.elim
def fTuple : List D → Own → R D := one1 fun d own => match sv d own with
  | some xs => .ok (.p (.tuple xs)) own
  | none => .bad
theorem cm_tuple : CallR X (.type "tuple") (rC g fTuple) := by
  refine CallR.imp call_tuple_of fun xs H Q h0 => ?_
  obtain ⟨c, own, x, d, rfl, r, rd, h⟩ := rC_one h0
  cases d with
  | p d =>
    cases d with
    | tuple ys =>
      cases rd with
      | @tup a vs _ h1 h2 => exact ⟨a, vs, rfl, .inr ⟨SqT.of (r.fz _ _ h1), h c H _ (Step.refl c) r (.tup h1 h2)⟩⟩
    | list ys =>
      cases rd with
      | @lst a vs _ h1 h2 =>
        refine ⟨a, vs, rfl, .inl ⟨SqL.of (r.fz _ _ h1), fun l hl => ?_⟩⟩
        obtain ⟨c', s, r', q⟩ := r.newT hl h2
        exact h c' _ _ s r' q
    | _ => exact h.elim
  | own k =>
    obtain ⟨a, ea, rfl⟩ := rd
    obtain ⟨cell, e1, q⟩ := r.cell ea
    cases cell with
    | lst m ys =>
      obtain ⟨vs, h1, h2⟩ := q.list r.fz
      have h' : Post g (.ok (.p (.tuple ys)) own) (PQ g c Q) := by
        have e2 : sv (.own k) own = some ys := by unfold sv; simp only [e1]
        rw [e2] at h
        exact h
      refine ⟨a, vs, rfl, .inl ⟨SqL.of h1, fun l hl => ?_⟩⟩
      obtain ⟨c', s, r', q⟩ := r.newT hl h2
      exact h' c' _ _ s r' q
/-- abs, int of an int; max, min of two ints -/
def fAbs : List D → Own → R D := one1 fun d own => match d with
  | .p (.int i) => .ok (.p (.int (if i < 0 then -i else i))) own
  | _ => .bad
theorem cm_abs : CallR X (.builtin "abs") (rC g fAbs) := by
  refine CallR.imp call_abs fun xs H Q h0 => ?_
  obtain ⟨c, own, x, d, rfl, r, rd, h⟩ := rC_one h0
  split at h
  · cases rd
    exact ⟨_, rfl, h c H _ (Step.refl c) r (.int _)⟩
  · exact h.elim
def fInt : List D → Own → R D := one1 fun d own => match d with
  | .p (.int i) => .ok (.p (.int i)) own
  | .p (.bool b) => .ok (.p (.int (if b then 1 else 0))) own
  | _ => .bad
theorem cm_int : CallR X (.type "int") (rC g fInt) := by
  refine CallR.imp call_int1 fun xs H Q h0 => ?_
  obtain ⟨c, own, x, d, rfl, r, rd, h⟩ := rC_one h0
  split at h
  · cases rd
    exact .inl ⟨_, rfl, h c H _ (Step.refl c) r (.int _)⟩
  · cases rd
    exact .inr ⟨_, rfl, h c H _ (Step.refl c) r (.int _)⟩
  · exact h.elim
end
end Mir

set_option maxRecDepth 100000
set_option maxHeartbeats 4000000
namespace Mir
variable [Tab]
open PySem PySem.Spec PyProof.Rows L2
section
variable {X : Cx} {g : G}
/-! ### isinstance -/
def kindOf : PyData → String
  | .none => "NoneType" | .bool _ => "bool" | .int _ => "int" | .str _ => "str" | .list _ => "list" | .tuple _ => "tuple" | .dict _ => "dict"
def kindO : PyData → Option String
  | .dict [] => some "dict"
  | .dict _ => none
  | d => some (kindOf d)
def isK (T : String) (k : String) : Bool := k == T || (T == "int" && k == "bool")
def kdD (d : D) (own : Own) : Option String := match d with
  | .p d => kindO d
  | .own k => match own[k]? with
    | some (.lst _ _) => some "list"
    | none => none
theorem kd_ok {K : PySem.W.Frag} {c : C} {own : Own} {H : Hp} {v : V} {d : D} {k : String} (r : RelH g c own H) (rd : RelD c v d) (h : kdD d own = some k) : TyOf K H v (.type k) ∧ k ∈ ["NoneType", "bool", "int", "str", "list", "tuple", "dict"] := by
  cases d with
  | p d =>
    have rd' := Rp.mono r.fz rd
    unfold kdD at h
    simp only at h
    cases rd' with
    | dct h1 => cases h; exact ⟨.dK h1, by simp [kindOf]⟩
    | pot _ => cases h
    | scr _ => cases h
    | lam _ _ _ _ _ _ => cases h
    | exc _ _ _ => cases h
    | non => cases h; exact ⟨.non, by simp [kindOf]⟩
    | bl b => cases h; exact ⟨.bl b, by simp [kindOf]⟩
    | int i => cases h; exact ⟨.int i, by simp [kindOf]⟩
    | str x => cases h; exact ⟨.str x, by simp [kindOf]⟩
    | lst h1 _ => cases h; exact ⟨.lst h1, by simp [kindOf]⟩
    | tup h1 _ => cases h; exact ⟨.tup h1, by simp [kindOf]⟩
  | own j =>
    obtain ⟨a, e, rfl⟩ := rd
    obtain ⟨cell, e1, q⟩ := r.cell e
    unfold kdD at h
    simp only [e1] at h
    cases cell with
    | lst m ys =>
      cases h
      obtain ⟨vs, h1, _⟩ := q.list r.fz
      exact ⟨.lst h1, by simp⟩
theorem kit_k {T k : String} (hT : T ∈ ["int", "bool", "str", "tuple", "list"]) (hk : k ∈ ["NoneType", "bool", "int", "str", "list", "tuple", "dict"]) : kitB k T = some (isK T k) := by
  simp only [List.mem_cons, List.not_mem_nil, or_false] at hT hk
  rcases hT with rfl | rfl | rfl | rfl | rfl <;> rcases hk with rfl | rfl | rfl | rfl | rfl | rfl | rfl <;> decide +kernel
def mIsi (T : String) (m : M D) : M D := fun env own => (m env own).bind fun d o => match kdD d o with
  | some k => .ok (.p (.bool (isK T k))) o
  | none => .bad
def mIsi2 (T T' : String) (m : M D) : M D := fun env own => (m env own).bind fun d o => match kdD d o with
  | some k => .ok (.p (.bool (isK T k || isK T' k))) o
  | none => .bad
theorem me_isi {e : Expr} {m : M D} {T : Str} {t : String} {p p2 pos : Pos} (he : PE X e (tE g m)) (hg : Gl X "isinstance") (hm : X.mg "isinstance" = none) (hgT : Gl X T) (hmT : X.mg T = none) (hv : bootBuiltins T = some (.type t)) (hT : t ∈ ["int", "bool", "str", "tuple", "list"] := by decide)
    (hn : T ≠ "__name__" := by decide) (hd : (T == ("__debug__" : Str)) = false := by decide) (h1 : starEach [e, .Name T p2] X.env = (false, eval e X.env) :: starEach [.Name T p2] X.env := by rfl) (h2 : starEach [.Name T p2] X.env = (false, eval (.Name T p2) X.env) :: starEach [] X.env := by rfl)
    (hpl : (backTo pos (starEach [.Name T p2] X.env)).any (·.1) = false := by rfl) : PE X (.Call (.Name "isinstance" p) [e, .Name T p2] [] pos) (tE g (mIsi t m)) := by
  refine pe_imp (pe_callB call_isi hg hm (by decide +kernel) (pa_cons he (pa_cons (pe_bltn (v := .ty t) hgT hmT hv rfl hn hd) pa_nil h2) h1) (by decide) (by decide) h1 hpl) fun σ H Q h => ?_
  obtain ⟨c, env, own, r, e, h⟩ := h
  refine tE.go r e h fun d o1 c1 H1 v1 s1 r1 e1 d1 h1 => ?_
  split at h1
  · rename_i k ek
    obtain ⟨q1, q2⟩ := kd_ok (K := X.K) r1 d1 ek
    exact ⟨v1, .ty t, .type k, .type t, _, rfl, .ty t, .base q1, kit_ty (kit_k hT q2), h1 c1 H1 _ s1 r1 (.bl _)⟩
  · exact h1.elim
theorem kitAny2 {K : PySem.W.Frag} {t c d : Value} {a b : Bool} (h : PySem.W.kitOne K t c = some a) (h' : PySem.W.kitOne K t d = some b) : PySem.W.kitAny K t [c, d] = some (a || b) := by
  refine kitAny_cons h (fun e => ?_) (fun e => by rw [e]; rfl)
  rw [e, Bool.false_or]
  exact kitAny_cons h' (fun e => by rw [e]; rfl) (fun e => e)
theorem me_isi2 {e : Expr} {m : M D} {T T' : Str} {t t' : String} {p p2 p3 p4 pos : Pos} {kk} (he : PE X e (tE g m)) (hg : Gl X "isinstance") (hm : X.mg "isinstance" = none) (hgT : Gl X T) (hmT : X.mg T = none) (hv : bootBuiltins T = some (.type t))
    (hgT' : Gl X T') (hmT' : X.mg T' = none) (hv' : bootBuiltins T' = some (.type t')) (hT : t ∈ ["int", "bool", "str", "tuple", "list"] := by decide) (hT' : t' ∈ ["int", "bool", "str", "tuple", "list"] := by decide)
    (hn : T ≠ "__name__" := by decide) (hd : (T == ("__debug__" : Str)) = false := by decide) (hn' : T' ≠ "__name__" := by decide) (hd' : (T' == ("__debug__" : Str)) = false := by decide)
    (h1 : starEach [e, .Tuple [.Name T p2, .Name T' p3] kk p4] X.env = (false, eval e X.env) :: starEach [.Tuple [.Name T p2, .Name T' p3] kk p4] X.env := by rfl)
    (h2 : starEach [.Tuple [.Name T p2, .Name T' p3] kk p4] X.env = (false, eval (.Tuple [.Name T p2, .Name T' p3] kk p4) X.env) :: starEach [] X.env := by rfl)
    (h3 : starEach [.Name T p2, .Name T' p3] X.env = (false, eval (.Name T p2) X.env) :: starEach [.Name T' p3] X.env := by rfl) (h4 : starEach [.Name T' p3] X.env = (false, eval (.Name T' p3) X.env) :: starEach [] X.env := by rfl)
    (hpl : (backTo pos (starEach [.Tuple [.Name T p2, .Name T' p3] kk p4] X.env)).any (·.1) = false := by rfl) : PE X (.Call (.Name "isinstance" p) [e, .Tuple [.Name T p2, .Name T' p3] kk p4] [] pos) (tE g (mIsi2 t t' m)) := by
  refine pe_imp (pe_callB call_isiT hg hm (by decide +kernel) (pa_cons he (pa_cons (pe_tup (pa_cons (pe_bltn (v := .ty t) hgT hmT hv rfl hn hd) (pa_cons (pe_bltn (v := .ty t') hgT' hmT' hv' rfl hn' hd') pa_nil h4) h3)) pa_nil h2) h1) (by decide) (by decide) h1 hpl) fun σ H Q h => ?_
  obtain ⟨c, env, own, r, e, h⟩ := h
  refine tE.go r e h fun d o1 c1 H1 v1 s1 r1 e1 d1 h1 => ?_
  split at h1
  · rename_i k ek
    refine ⟨by show 2 ≤ sizeLine; decide, fun tp htp => ?_⟩
    obtain ⟨c2, s2, r2, _⟩ := r1.newT (vs := []) (xs := []) htp .nil
    obtain ⟨q1, q2⟩ := kd_ok (K := X.K) r1 d1 ek
    have q1' : TyOf X.K (upd H1 tp (.tup [.ty t, .ty t'])) v1 (.type k) := by
      cases q1 with
      | non => exact .non
      | bl b => exact .bl b
      | int i => exact .int i
      | str x => exact .str x
      | flt x => exact .flt x
      | lst e => exact .lst (same_new htp _ _ e)
      | frz e => exact .frz (same_new htp _ _ e)
      | tup e => exact .tup (same_new htp _ _ e)
      | dK e => exact .dK (same_new htp _ _ e)
      | dT e => exact .dT (same_new htp _ _ e)
    have r3 : RelH g c1 o1 (upd H1 tp (.tup [.ty t, .ty t'])) := ⟨r1.fz.trans (same_new htp), r1.same.trans (same_new htp), r1.lnH, r1.nt0, r1.ntf, r1.tabs.ext (same_new htp), r1.base, r1.low, r1.len, r1.nd, r1.lks, fun j a cell z1 z2 => (r1.cells j a cell z1 z2).up (Same.refl _) (fun o e => same_new htp _ _ e) fun e => e⟩
    exact ⟨v1, tp, _, .type k, [.type t, .type t'], _, rfl, upd_same, .cons (.ty t) (.cons (.ty t') .nil), .base q1', kitAny2 (kit_ty (kit_k hT q2)) (kit_ty (kit_k hT' q2)), h1 c1 _ _ s1 r3 (.bl _)⟩
  · exact h1.elim

/-! ### subscripts, slices -/
variable {a b : Expr} {pos : Pos}
theorem IxR.imp {r r' : R2} (h : IxR X r) (i : ∀ x y H Q, r' x y H Q → r x y H Q) : IxR X r' := fun value slice pins s σ H x y v u Q I rx ry q hs => h value slice pins s σ H x y v u Q I rx ry (i _ _ _ _ q) hs
theorem Rps.atI {H : Hp} {ds : List PyData} {vs : List V} {i : Int} {d : PyData} (r : Rps H vs ds) (h : atI ds i = some d) : ∃ v, atI vs i = some v ∧ Rp H v d := by
  unfold L2.atI at h ⊢
  rw [r.length]
  cases e : ixN ds.length i with
  | none => rw [e] at h; cases h
  | some j =>
    rw [e] at h
    exact r.get h
def oIx : D → D → Own → R D := fun x y own => match sv x own, y with
  | some xs, .p (.int i) => match atI xs i with
    | some d => .ok (.p d) own
    | none => .bad
  | _, _ => .bad
theorem or_ix : IxR X (rM g oIx) := by
  refine IxR.imp (IxR.or ix_list ix_tup) fun x y H Q h => ?_
  obtain ⟨c, own, dx, dy, r, rx, ry, h⟩ := h
  unfold oIx at h
  split at h
  · rename_i xs i e
    split at h
    · rename_i d ed
      obtain ⟨p, vs, rfl, h1, h2⟩ := sv_ok r rx e
      obtain ⟨v, ev, rv⟩ := h2.atI ed
      cases ry
      rcases h1 with h1 | h1
      · exact .inl ⟨p, vs, _, v, rfl, rfl, SqL.of h1, ev, h c H v (Step.refl c) r rv⟩
      · exact .inr ⟨p, vs, _, v, rfl, rfl, SqT.of h1, ev, h c H v (Step.refl c) r rv⟩
    · exact h.elim
  · exact h.elim
theorem me_ix {f : D → D → Own → R D} {ma mb : M D} (hr : IxR X (rM g f)) (ha : PE X a (tE g ma)) (hb : PE X b (tE g mb)) (hs : PlainIx b := by exact fun _ _ => rfl) : PE X (.Subscript a b pos) (tE g (m2 f ma mb)) :=
  pe_imp (pe_ix hr ha hb hs) fun _ _ _ h => tOp_of h
def cutP (xs : List PyData) (lo hi : Option Int) : List PyData := (xs.drop (HT.sIx xs.length 0 lo)).take (HT.sIx xs.length xs.length hi - HT.sIx xs.length 0 lo)
theorem Rps.cut {H : Hp} {ds : List PyData} {vs : List V} (r : Rps H vs ds) (lo hi : Option Int) : Rps H (cutV vs lo hi) (cutP ds lo hi) := by
  unfold cutV cutP
  rw [r.length]
  exact (r.drop _).take _
def tO (g : G) (m : M (Option Int)) : TO := fun σ H Q => ∃ c env own, RelH g c own H ∧ RelE c env σ ∧ Post g (m env own) fun o own' => ∀ c' H', Step c c' → RelH g c' own' H' → Q o H'
def mNo : M (Option Int) := fun _ own => .ok none own
def mSome (m : M D) : M (Option Int) := fun env own => (m env own).bind fun d o => match d with
  | .p (.int i) => .ok (some i) o
  | _ => .bad
theorem po_imp {e : Option Expr} {t t' : TO} (h : PO X e t) (i : ∀ σ H Q, t' σ H Q → t σ H Q) : PO X e t' := ⟨fun pins s σ H Q I q => h.run pins s σ H Q I (i σ H Q q)⟩
theorem mo_none : PO X none (tO g mNo) := po_imp po_none fun σ H Q ⟨c, env, own, r, e, h⟩ => h c H (Step.refl c) r
theorem mo_some {e : Expr} {m : M D} (he : PE X e (tE g m)) : PO X (some e) (tO g (mSome m)) := by
  refine po_imp (po_some he) fun σ H Q h => ?_
  obtain ⟨c, env, own, r, e, h⟩ := h
  refine tE.go r e h fun d o1 c1 H1 v1 s1 r1 e1 d1 h1 => ?_
  split at h1
  · cases d1
    exact ⟨_, rfl, h1 c1 H1 s1 r1⟩
  · exact h1.elim
theorem tO.go {c : C} {env : Env} {own : Own} {σ : L2.St} {H : Hp} {m : M (Option Int)} {β : Type} {f : Option Int → Own → R β} {P : β → Own → Prop} {Q : Option Int → Hp → Prop} (r : RelH g c own H) (e : RelE c env σ) (h : Post g ((m env own).bind f) P)
    (hQ : ∀ d own' c' H', Step c c' → RelH g c' own' H' → RelE c' env σ → Post g (f d own') P → Q d H') : tO g m σ H Q :=
  ⟨c, env, own, r, e, Post.mono (fun d own' q c' H' s r' => hQ d own' c' H' s r' (e.step s) q) (Post.bind h)⟩
def oSlice (lo hi : Option Int) (x : D) (own : Own) : R D := match x with
  | .p d => match d with
    | .tuple xs => .ok (.p (.tuple (cutP xs lo hi))) own
    | .list xs => .ok (.own own.length) (own ++ [.lst .ours (cutP xs lo hi)])
    | _ => .bad
  | .own k => match own[k]? with
    | some (.lst _ xs) => .ok (.own own.length) (own ++ [.lst .ours (cutP xs lo hi)])
    | none => .bad
def mSlice (m : M D) (ml mh : M (Option Int)) : M D := fun env own => (m env own).bind fun x o => (ml env o).bind fun lo o => (mh env o).bind fun hi o => oSlice lo hi x o
theorem me_slice {e : Expr} {lo hi : Option Expr} {m : M D} {ml mh : M (Option Int)} {p2 : Pos} (he : PE X e (tE g m)) (hl : PO X lo (tO g ml)) (hh : PO X hi (tO g mh)) : PE X (.Subscript e (.Slice lo hi none p2) pos) (tE g (mSlice m ml mh)) := by
  refine pe_imp (pe_slice (SlR.or sl_list sl_tupA) he hl hh) fun σ H Q h => ?_
  obtain ⟨c, env, own, r, e, h⟩ := h
  refine tE.go r e h fun d o1 c1 H1 v1 s1 r1 e1 d1 h1 => ?_
  refine tO.go r1 e1 h1 fun l o2 c2 H2 s2 r2 e2 h2 => ?_
  refine tO.go r2 e2 h2 fun u o3 c3 H3 s3 r3 e3 h3 => ?_
  have d3 := d1.step (s2.trans s3)
  have ss := s1.trans (s2.trans s3)
  unfold oSlice at h3
  split at h3
  · split at h3
    · rename_i xs
      cases d3 with
      | @tup p vs _ q1 q2 =>
        refine .inr ⟨p, vs, rfl, SqT.of (r3.fz _ _ q1), fun hw => ?_, fun hw q hq => ?_⟩
        · have : cutP xs l u = xs := by
            unfold cutP
            rw [q2.length] at hw
            rw [hw.1, hw.2]
            simp
          rw [this] at h3
          exact h3 c3 H3 _ ss r3 (.tup q1 q2)
        · obtain ⟨c', s, r', z⟩ := r3.newT hq (q2.cut l u)
          exact h3 c' _ _ (ss.trans s) r' z
    · rename_i xs
      cases d3 with
      | @lst p vs _ q1 q2 =>
        refine .inl ⟨p, vs, rfl, SqL.of (r3.fz _ _ q1), fun q hq => ?_⟩
        obtain ⟨c', s, r', z⟩ := r3.new hq (q2.cut l u)
        exact h3 c' _ _ (ss.trans s) r' z
    · exact h3.elim
  · rename_i k
    split at h3
    · rename_i m' xs ek
      obtain ⟨p, ea, rfl⟩ := d3
      obtain ⟨cell, e1', q⟩ := r3.cell ea
      rw [ek] at e1'
      cases e1'
      obtain ⟨vs, q1, q2⟩ := q.list r3.fz
      refine .inl ⟨p, vs, rfl, SqL.of q1, fun q hq => ?_⟩
      obtain ⟨c', s, r', z⟩ := r3.new hq (q2.cut l u)
      exact h3 c' _ _ (ss.trans s) r' z
    · exact h3.elim

/-! ### methods of lists -/
/-- an own list is changed -/
theorem RelH.write {c : C} {own : Own} {H : Hp} {k : Nat} {p : Addr} {xs ys : List PyData} {us : List V} (r : RelH g c own H) (e : c.rho[k]? = some p) (e1 : own[k]? = some (.lst .ours xs)) (q : Rps c.fz us ys) :
    RelH g c (own.set k (.lst .ours ys)) (upd H p (.lst us)) := by
  obtain ⟨cell, e2, z⟩ := r.cell e
  rw [e1] at e2
  cases e2
  cases z with
  | ours h1 h2 h3 h4 =>
    refine ⟨fun b o z => ?_, fun b o z => ?_, r.lnH, r.nt0, r.ntf, tabs_lst r.tabs h1, r.base, r.low, by simp [r.len], r.nd, fun j zs hj => ?_, fun j b cell z1 z2 => ?_⟩
    · rw [upd_ne (ne_of_none z h4)]; exact r.fz _ _ z
    · rw [upd_ne (ne_of_none z h3)]; exact r.same _ _ z
    · obtain ⟨m, e2, n⟩ := r.lks j zs hj
      have : k ≠ j := fun eq => by
        subst eq
        rw [e1] at e2
        cases e2
        exact n rfl
      exact ⟨m, by rw [List.getElem?_set_ne this]; exact e2, n⟩
    · by_cases hj : j = k
      · subst hj
        rw [e] at z1
        cases z1
        rw [List.getElem?_set_self (List.getElem?_eq_some_iff.mp e1).1] at z2
        cases z2
        exact .ours upd_same q h3 h4
      · rw [List.getElem?_set_ne (Ne.symm hj)] at z2
        have ne : b ≠ p := fun eq => hj (nd_ix r.nd (eq ▸ z1) e)
        refine (r.cells j b cell z1 z2).up (Same.refl _) (fun o e => ?_) fun e => e
        rw [upd_ne ne]
        exact e
def mMeth (f : D → List D → Own → R D) (mo : M D) (ma : M (List D)) : M D := fun env own => (mo env own).bind fun x o => match lv x o with
  | some _ => (ma env o).bind fun ds o => f x ds o
  | none => .bad
def rMt (g : G) (f : D → List D → Own → R D) : V → List V → Hp → VK → Prop := fun x xs H Q => ∃ c own d ds, RelH g c own H ∧ RelD c x d ∧ RelDs c xs ds ∧ Post g (f d ds own) (PQ g c Q)
variable {o e : Expr} {es : List Expr} {name : Str} {apos cpos : Pos} {id : String} {f : D → List D → Own → R D} {mo : M D} {ma : M (List D)}
theorem tBM_of {σ : L2.St} {H : Hp} {Q : VK} (h : tE g (mMeth f mo ma) σ H Q) : tBM X.K "list" (rMt g f) (tE g mo) (tA g ma) σ H Q := by
  obtain ⟨c, env, own, r, e, h⟩ := h
  refine tE.go r e h fun x o1 c1 H1 v1 s1 r1 e1 d1 h1 => ?_
  split at h1
  · rename_i ys el
    obtain ⟨p, vs, rfl, q1, _⟩ := lv_ok r1 d1 el
    refine ⟨.inl ⟨rfl, vs, SqL.of q1⟩, ?_⟩
    refine tA.go r1 e1 h1 fun ds o2 c2 H2 us s2 r2 e2 d2 h2 => ?_
    exact ⟨c2, o2, x, ds, r2, d1.step s2, d2, Post.mono (fun _ _ q c' H' v s' => q c' H' v ((s1.trans s2).trans s')) h2⟩
  · exact h1.elim
theorem me_bm (pa : PlainAttrs "list") (slot : Slot "list" name id) (hty : typeOf (.builtin id) = pure (.type "method_descriptor")) (hm : MtR X id (rMt g f)) (ho : PE X o (tE g mo)) (ha : PA X (e :: es) (tA g ma))
    (hbase : attributeBase o name X.env (eval o X.env) = eval o X.env := by rfl)
    (hfew : ((backTo cpos (starEach (e :: es) X.env)).all (fun x => !x.1) && (backToKw cpos (keywordEach [] X.env)).all (fun x => x.1.isSome)
      && decide ((e :: es).length + ([] : List Keyword).length + (if ([] : List Keyword).isEmpty then 0 else 1) < 30)) = true := by rfl)
    (hline : (apos.endLine == cpos.line) = true := by rfl) (hs : starEach (e :: es) X.env = (false, eval e X.env) :: starEach es X.env := by rfl) (hplain : (backTo cpos (starEach es X.env)).any (·.1) = false := by rfl) :
    PE X (.Call (.Attribute o name apos) (e :: es) [] cpos) (tE g (mMeth f mo ma)) :=
  pe_imp (pe_bm pa slot hty hm ho ha hbase hfew hline hs hplain) fun _ _ _ h => tBM_of h
def mMeth0 (f : D → List D → Own → R D) (mo : M D) : M D := fun env own => (mo env own).bind fun x o => match lv x o with
  | some _ => f x [] o
  | none => .bad
theorem me_bm0 (pa : PlainAttrs "list") (slot : Slot "list" name id) (hty : typeOf (.builtin id) = pure (.type "method_descriptor")) (hm : MtR X id (rMt g f)) (ho : PE X o (tE g mo))
    (hbase : attributeBase o name X.env (eval o X.env) = eval o X.env := by rfl) (hline : (apos.endLine == cpos.line) = true := by rfl) : PE X (.Call (.Attribute o name apos) [] [] cpos) (tE g (mMeth0 f mo)) := by
  refine pe_imp (pe_bm0 pa slot hty hm ho hbase hline) fun σ H Q h => ?_
  obtain ⟨c, env, own, r, e, h⟩ := h
  refine tE.go r e h fun x o1 c1 H1 v1 s1 r1 e1 d1 h1 => ?_
  split at h1
  · rename_i ys el
    obtain ⟨p, vs, rfl, q1, _⟩ := lv_ok r1 d1 el
    exact ⟨.inl ⟨rfl, vs, SqL.of q1⟩, c1, o1, x, [], r1, d1, .nil, Post.mono (fun _ _ q c' H' v s' => q c' H' v (s1.trans s')) h1⟩
  · exact h1.elim
theorem MtR.imp {r r' : V → List V → Hp → VK → Prop} (h : MtR X id r) (i : ∀ x xs H Q, r' x xs H Q → r x xs H Q) : MtR X id r' := fun pins s σ H x xs v us Q I rx rv q => h pins s σ H x xs v us Q I rx rv (i _ _ _ _ q)
def fAppend : D → List D → Own → R D := fun x ds own => match x, ds with
  | .own k, [y] => match freeze y own with
    | some (d, o) => match o[k]? with
      | some (.lst m xs) => match m with
        | .ours => match Nat.blt xs.length sz with
          | true => .ok (.p .none) (o.set k (.lst .ours (xs ++ [d])))
          | false => .bad
        | _ => .bad
      | none => .bad
    | none => .bad
  | _, _ => .bad
theorem blt_lt {n : Nat} (h : Nat.blt n sz = true) : n < sizeLine := by rw [← sz_eq]; exact nblt h
theorem mr_append : MtR X "list.append" (rMt g fAppend) := by
  refine MtR.imp (show MtR X "list.append" rAppend from mt_append) fun x xs H Q h => ?_
  obtain ⟨c, own, d, ds, r, rd, rds, h⟩ := h
  unfold fAppend at h
  split at h
  · rename_i k y
    split at h
    · rename_i z o ez
      cases rds with
      | cons ry rn =>
        cases rn
        obtain ⟨c1, s1, r1, q1⟩ := freeze_ok r ry ez
        split at h
        · rename_i m zs ek
          split at h
          · split at h
            · rename_i hz
              obtain ⟨p, ea, rfl⟩ := rd.step s1
              obtain ⟨cell, e2, q⟩ := r1.cell ea
              rw [ek] at e2
              cases e2
              cases q with
              | ours h1 h2 h3 h4 =>
                refine ⟨p, _, _, rfl, rfl, h1, by rw [h2.length]; exact blt_lt hz, ?_⟩
                exact h c1 _ _ s1 (r1.write ea ek (h2.append (.cons q1 .nil))) .non
            · exact h.elim
          · exact h.elim
        · exact h.elim
    · exact h.elim
  · exact h.elim
def fExtend : D → List D → Own → R D := fun x ds own => match x, ds with
  | .own k, [y] => match lv y own, own[k]? with
    | some ys, some (.lst m xs) => match m with
      | .ours => match Nat.ble (xs.length + ys.length) sz with
        | true => .ok (.p .none) (own.set k (.lst .ours (xs ++ ys)))
        | false => .bad
      | _ => .bad
    | _, _ => .bad
  | _, _ => .bad
theorem mr_extend : MtR X "list.extend" (rMt g fExtend) := by
  refine MtR.imp (show MtR X "list.extend" rExtend from mt_extend) fun x xs H Q h => ?_
  obtain ⟨c, own, d, ds, r, rd, rds, h⟩ := h
  unfold fExtend at h
  split at h
  · rename_i k y
    cases rds with
    | cons ry rn =>
      cases rn
      split at h
      · rename_i ys m zs el ek
        split at h
        · split at h
          · rename_i hz
            obtain ⟨p, ea, rfl⟩ := rd
            obtain ⟨b, us, rfl, h5, h6⟩ := lv_ok r ry el
            obtain ⟨cell, e2, q⟩ := r.cell ea
            rw [ek] at e2
            cases e2
            cases q with
            | ours h1 h2 h3 h4 =>
              refine ⟨p, b, _, us, rfl, rfl, h1, h5, by rw [h2.length, h6.length]; exact ble_le hz, ?_⟩
              exact h c _ _ (Step.refl c) (r.write ea ek (h2.append h6)) .non
          · exact h.elim
        · exact h.elim
      · exact h.elim
  · exact h.elim
theorem Rps.dropLast {H : Hp} {ds : List PyData} {vs : List V} (r : Rps H vs ds) : Rps H vs.dropLast ds.dropLast := by
  rw [List.dropLast_eq_take, List.dropLast_eq_take, r.length]
  exact r.take _
theorem Rps.erase {H : Hp} : ∀ {ds : List PyData} {vs : List V} (i : Nat), Rps H vs ds → Rps H (vs.eraseIdx i) (ds.eraseIdx i)
  | [], _, _, h => by cases h; exact .nil
  | d :: ds, _, 0, h => by cases h with | cons h1 h2 => exact h2
  | d :: ds, _, i + 1, h => by cases h with | cons h1 h2 => exact .cons h1 (Rps.erase i h2)
def fPop : D → List D → Own → R D := fun x ds own => match x, ds with
  | .own k, [] => match own[k]? with
    | some (.lst m xs) => match m with
      | .ours => match xs[xs.length - 1]? with
        | some d => .ok (.p d) (own.set k (.lst .ours xs.dropLast))
        | none => .bad
      | _ => .bad
    | _ => .bad
  | _, _ => .bad
theorem mr_pop : MtR X "list.pop" (rMt g fPop) := by
  refine MtR.imp (show MtR X "list.pop" rPop from mt_pop) fun x xs H Q h => ?_
  obtain ⟨c, own, d, ds, r, rd, rds, h⟩ := h
  unfold fPop at h
  split at h
  · rename_i k
    cases rds
    split at h
    · rename_i m zs ek
      split at h
      · split at h
        · rename_i z ez
          obtain ⟨p, ea, rfl⟩ := rd
          obtain ⟨cell, e2, q⟩ := r.cell ea
          rw [ek] at e2
          cases e2
          cases q with
          | ours h1 h2 h3 h4 =>
            obtain ⟨v, ev, rv⟩ := h2.get ez
            refine ⟨p, _, v, rfl, rfl, h1, by rw [h2.length]; exact ev, ?_⟩
            exact h c _ _ (Step.refl c) (r.write ea ek h2.dropLast) rv
        · exact h.elim
      · exact h.elim
    · exact h.elim
  · exact h.elim
def fPopAt : D → List D → Own → R D := fun x ds own => match x, ds with
  | .own k, [.p (.int i)] => match own[k]? with
    | some (.lst m xs) => match m with
      | .ours => match Nat.blt i.natAbs 1000000000 with
        | true => match ixN xs.length i with
          | some j => match xs[j]? with
            | some d => .ok (.p d) (own.set k (.lst .ours (xs.eraseIdx j)))
            | none => .bad
          | none => .bad
        | false => .bad
      | _ => .bad
    | _ => .bad
  | _, _ => .bad
theorem mr_popAt : MtR X "list.pop" (rMt g fPopAt) := by
  refine MtR.imp (show MtR X "list.pop" rPopAt from mt_popAt) fun x xs H Q h => ?_
  obtain ⟨c, own, d, ds, r, rd, rds, h⟩ := h
  unfold fPopAt at h
  split at h
  · rename_i k i
    cases rds with
    | cons ri rn =>
      cases rn
      cases ri
      split at h
      · rename_i m zs ek
        split at h
        · split at h
          · rename_i hz
            have hz := nblt hz
            split at h
            · rename_i j ej
              split at h
              · rename_i z ez
                obtain ⟨p, ea, rfl⟩ := rd
                obtain ⟨cell, e2, q⟩ := r.cell ea
                rw [ek] at e2
                cases e2
                cases q with
                | ours h1 h2 h3 h4 =>
                  obtain ⟨v, ev, rv⟩ := h2.get ez
                  refine ⟨p, _, i, j, v, rfl, rfl, h1, by omega, by omega, by rw [h2.length]; exact (ixN_seq ej).1, ev, ?_⟩
                  exact h c _ _ (Step.refl c) (r.write ea ek (h2.erase j)) rv
              · exact h.elim
            · exact h.elim
          · exact h.elim
        · exact h.elim
      · exact h.elim
  · exact h.elim
/-- the first place of an equal one -/
def place (d : PyData) : List PyData → Option Nat
  | [] => none
  | x :: xs => match PyData.eqv x d with
    | true => some 0
    | false => match place d xs with
      | some j => some (j + 1)
      | none => none
theorem place_ok {d : PyData} : ∀ {xs : List PyData} {j : Nat}, place d xs = some j → ∃ z, xs[j]? = some z ∧ PyData.eqv z d = true ∧ ∀ (m : Nat) (z' : PyData), m < j → xs[m]? = some z' → PyData.eqv z' d = false
  | [], _, h => by cases h
  | x :: xs, j, h => by
    unfold place at h
    split at h
    · rename_i e
      cases h
      exact ⟨x, rfl, e, fun m _ hm => absurd hm (by omega)⟩
    · rename_i e
      split at h
      · rename_i i ei
        cases h
        obtain ⟨z, e1, e2, e3⟩ := place_ok ei
        refine ⟨z, by simpa using e1, e2, fun m z' hm hz => ?_⟩
        cases m with
        | zero => simp at hz; subst hz; exact e
        | succ m => exact e3 m z' (by omega) (by simpa using hz)
      · cases h
def fIndex : D → List D → Own → R D := fun x ds own => match ds with
  | [y] => match lv x own, dv y own with
    | some xs, some d => match SeqAt.shaped (.list xs) && SeqAt.shaped d with
      | true => match place d xs with
        | some j => .ok (.p (.int (j : Nat))) own
        | none => .bad
      | false => .bad
    | _, _ => .bad
  | _ => .bad
theorem mr_index (hu : X.A.units + 65 < cLine) : MtR X "list.index" (rMt g fIndex) := by
  refine MtR.imp (mt_indexD hu) fun x xs H Q h => ?_
  obtain ⟨c, own, d, ds, r, rd, rds, h⟩ := h
  unfold fIndex at h
  split at h
  · rename_i y
    cases rds with
    | cons ry rn =>
      cases rn
      split at h
      · rename_i zs z el ed
        split at h
        · rename_i hz
          rw [Bool.and_eq_true] at hz
          split at h
          · rename_i j ej
            obtain ⟨p, vs, rfl, h1, h2⟩ := lv_ok r rd el
            obtain ⟨w, e1, e2, e3⟩ := place_ok ej
            exact ⟨p, _, z, zs, j, w, rfl, rfl, .lst (SqL.of h1) ((Rps.mono r.fz h2).dp (by simpa only [PyData.plain] using plain_sh hz.1)), dv_ok r ry ed (plain_sh hz.2), hz.1, hz.2, e1, e2, e3, h c H _ (Step.refl c) r (.int _)⟩
          · exact h.elim
        · exact h.elim
      · exact h.elim
  · exact h.elim
end
end Mir

set_option maxRecDepth 100000
set_option maxHeartbeats 4000000
namespace Mir
variable [Tab]
open PySem PySem.Spec PyProof.Rows L2
/-! ### statements -/
inductive Fl where
  | nx (e : Env) | rt (d : D) | bk (e : Env) | ct (e : Env)
abbrev MS := Env → Own → R Fl
def PF (g : G) (c : C) (D : Ends) : Fl → Own → Prop
  | .nx e, o => ∀ c' H' σ', Step c c' → RelH g c' o H' → RelE c' e σ' → D.nx σ' H'
  | .rt d, o => ∀ c' H' v, Step c c' → RelH g c' o H' → RelD c' v d → D.rt v H'
  | .bk e, o => ∀ c' H' σ', Step c c' → RelH g c' o H' → RelE c' e σ' → D.bk σ' H'
  | .ct e, o => ∀ c' H' σ', Step c c' → RelH g c' o H' → RelE c' e σ' → D.ct σ' H'
theorem PF.up {g : G} {c c1 : C} {D : Ends} (s : Step c c1) : ∀ {f : Fl} {o : Own}, PF g c D f o → PF g c1 D f o
  | .nx _, _, h => fun c' H' σ' s' => h c' H' σ' (s.trans s')
  | .rt _, _, h => fun c' H' v s' => h c' H' v (s.trans s')
  | .bk _, _, h => fun c' H' σ' s' => h c' H' σ' (s.trans s')
  | .ct _, _, h => fun c' H' σ' s' => h c' H' σ' (s.trans s')
def tS (g : G) (m : MS) : TS := fun D σ H => ∃ c env own, RelH g c own H ∧ RelE c env σ ∧ Post g (m env own) (PF g c D)
theorem ps_imp {X : Cx} {st : Stmt} {t t' : TS} (h : PS X st t) (i : ∀ D σ H, t' D σ H → t D σ H) : PS X st t' := ⟨fun pins s σ H D I q => h.run pins s σ H D I (i D σ H q)⟩
theorem pss_imp {X : Cx} {st : List Stmt} {t t' : TS} (h : PSs X st t) (i : ∀ D σ H, t' D σ H → t D σ H) : PSs X st t' := ⟨fun pins s σ H D I q => h.run pins s σ H D I (i D σ H q)⟩
theorem RelE.set {c : C} {env : Env} {σ : L2.St} {v : V} {d : D} (r : RelE c env σ) (rd : RelD c v d) (i : Nat) : RelE c (env.set i (some d)) (σ.set i (some v)) := by
  refine ⟨by simp [r.1], fun j e h => ?_⟩
  by_cases hj : i = j
  · subst hj
    have hi : i < env.length := by
      have := (List.getElem?_eq_some_iff.mp h).1
      simpa using this
    rw [List.getElem?_set_self hi] at h
    cases h
    exact ⟨v, List.getElem?_set_self (by rw [← r.1]; exact hi), rd⟩
  · rw [List.getElem?_set_ne hj] at h
    obtain ⟨w, e1, q⟩ := r.2 j e h
    exact ⟨w, by rw [List.getElem?_set_ne hj]; exact e1, q⟩
section
variable {X : Cx} {g : G} {pos : Pos}
def sNil : MS := fun env own => .ok (.nx env) own
def sSeq (a b : MS) : MS := fun env own => (a env own).bind fun f o => match f with
  | .nx e => b e o
  | f => .ok f o
theorem tS.go {c : C} {env : Env} {own : Own} {σ : L2.St} {H : Hp} {m : MS} {D D' : Ends} {k : Fl → Own → R Fl} (r : RelH g c own H) (e : RelE c env σ) (h : Post g ((m env own).bind k) (PF g c D))
    (hk : ∀ f o, Post g (k f o) (PF g c D) → PF g c D' f o) : tS g m D' σ H := ⟨c, env, own, r, e, Post.mono (fun f o q => hk f o q) (Post.bind h)⟩
theorem ms_nil : PSs X [] (tS g sNil) := pss_imp pss_nil fun D σ H ⟨c, env, own, r, e, h⟩ => h c H σ (Step.refl c) r e
theorem ms_cons {st : Stmt} {rest : List Stmt} {a b : MS} (h1 : PS X st (tS g a)) (h2 : PSs X rest (tS g b)) : PSs X (st :: rest) (tS g (sSeq a b)) := by
  refine pss_imp (pss_cons h1 h2) fun D σ H h => ?_
  obtain ⟨c, env, own, r, e, h⟩ := h
  refine tS.go r e h fun f o q => ?_
  cases f with
  | nx e => exact fun c' H' σ' s r' e' => ⟨c', _, o, r', e', Post.mono (fun f o z => z.up s) q⟩
  | rt d => exact q
  | bk e => exact q
  | ct e => exact q
theorem ms_one {st : Stmt} {a : MS} (h1 : PS X st (tS g a)) : PSs X [st] (tS g a) := pss_one h1
def sRet (m : M D) : MS := fun env own => (m env own).bind fun d o => .ok (.rt d) o
theorem ms_ret {e : Expr} {m : M D} (he : PE X e (tE g m)) : PS X (.Return (some e) pos) (tS g (sRet m)) := by
  refine ps_imp (ps_ret he) fun D σ H h => ?_
  obtain ⟨c, env, own, r, e, h⟩ := h
  exact tE.go r e h fun d o c' H' v s r' e' rd q => q c' H' v s r' rd
def sExpr (m : M D) : MS := fun env own => (m env own).bind fun d o => .ok (.nx env) o
theorem ms_expr {e : Expr} {m : M D} (he : PE X e (tE g m)) (hs : swapsWith e none pos.line X.env = pure false := by rfl) : PS X (.Expr e pos) (tS g (sExpr m)) := by
  refine ps_imp (ps_expr he hs) fun D σ H h => ?_
  obtain ⟨c, env, own, r, e, h⟩ := h
  exact tE.go r e h fun d o c' H' v s r' e' rd q => q c' H' σ s r' e'
theorem ms_doc {x j pos'} : PS X (.Expr (.Constant (.str x) j pos) pos') (tS g sNil) := ps_imp ps_doc fun D σ H ⟨c, env, own, r, e, h⟩ => h c H σ (Step.refl c) r e
theorem ms_pass : PS X (.Pass pos) (tS g sNil) := ps_imp ps_pass fun D σ H ⟨c, env, own, r, e, h⟩ => h c H σ (Step.refl c) r e
def sBreak : MS := fun env own => .ok (.bk env) own
def sCont : MS := fun env own => .ok (.ct env) own
theorem ms_break : PS X (.Break pos) (tS g sBreak) := ps_imp ps_break fun D σ H ⟨c, env, own, r, e, h⟩ => h c H σ (Step.refl c) r e
theorem ms_cont : PS X (.Continue pos) (tS g sCont) := ps_imp ps_continue fun D σ H ⟨c, env, own, r, e, h⟩ => h c H σ (Step.refl c) r e
/-- code that is not come to -/
def sNever : MS := fun _ _ => .bad
theorem ms_never {st : Stmt} : PS X st (tS g sNever) := ps_imp ps_never fun D σ H ⟨c, env, own, r, e, h⟩ => h
def sSet (i : Nat) (m : M D) : MS := fun env own => (m env own).bind fun d o => .ok (.nx (env.set i (some d))) o
theorem ms_set (i : Nat) {x : Str} {e : Expr} {m : M D} {pos' : Pos} (hN : X.N.Nodup) (he : PE X e (tE g m)) (hi : X.N[i]? = some x := by rfl) (hx : Loc X.env.scope x := by first | exact Or.inl rfl | exact Or.inr rfl) (hs : swapsWith e (some (.Name x pos')) pos.line X.env = pure false := by rfl)
    (hf : X.fn x = true ∨ X.env.scope.names.lookup x = some .local := by first | exact .inl rfl | exact .inr rfl | assumption) : PS X (.Assign [.Name x pos'] e pos) (tS g (sSet i m)) := by
  refine ps_imp (ps_set hN hi hx he hs hf) fun D σ H h => ?_
  obtain ⟨c, env, own, r, e, h⟩ := h
  exact tE.go r e h fun d o c' H' v s r' e' rd q => q c' H' _ s r' (e'.set rd i)
def sPar (i j : Nat) (m : M (List D)) : MS := fun env own => (m env own).bind fun ds o => match ds with
  | [a, b] => .ok (.nx ((env.set i (some a)).set j (some b))) o
  | _ => .bad
theorem ms_par (i j : Nat) {x y : Str} {a b : Expr} {m : M (List D)} {px py pt : Pos} {kt k2 pt2} (hc : X.calm = true) (hN : X.N.Nodup) (ha : PA X [a, b] (tA g m)) (hi : X.N[i]? = some x := by rfl) (hj : X.N[j]? = some y := by rfl) (hij : i ≠ j := by decide)
    (hx : X.env.scope.names.lookup x = some .local := by rfl) (hy : X.env.scope.names.lookup y = some .local := by rfl)
    (hw : swappedStores [.Tuple [.Name x px, .Name y py] kt pt] (.Tuple [a, b] k2 pt2) X.env = pure (some [x, y]) := by rfl)
    (hs : swapsWithSole [.Tuple [.Name x px, .Name y py] kt pt] (.Tuple [a, b] k2 pt2) pos.line X.env = pure false := by rfl) :
    PS X (.Assign [.Tuple [.Name x px, .Name y py] kt pt] (.Tuple [a, b] k2 pt2) pos) (tS g (sPar i j m)) := by
  refine ps_imp (ps_par hc hN hi hj hij hx hy ha hw hs) fun D σ H h => ?_
  obtain ⟨c, env, own, r, e, h⟩ := h
  refine tA.go r e h fun ds o c' H' vs s r' e' rd q => ?_
  split at q
  · cases rd with
    | cons r1 rd =>
      cases rd with
      | cons r2 rd =>
        cases rd
        exact ⟨_, _, rfl, q c' H' _ s r' ((e'.set r1 i).set r2 j)⟩
  · exact q.elim
def sIf (t : M Bool) (a b : MS) : MS := fun env own => (t env own).bind fun c o => match c with
  | true => a env o
  | false => b env o
theorem ms_if {cnd : Expr} {x y : List Stmt} {t : M Bool} {a b : MS} (hc : PT X cnd (tT g t)) (ha : PSs X x (tS g a)) (hb : PSs X y (tS g b)) : PS X (.If cnd x y pos) (tS g (sIf t a b)) := by
  refine ps_imp (ps_if hc ha hb) fun D σ H h => ?_
  obtain ⟨c, env, own, r, e, h⟩ := h
  refine tT.go r e h fun k o c1 H1 s1 r1 e1 h1 => ?_
  cases k with
  | true => exact iteT ⟨c1, env, o, r1, e1, Post.mono (fun f o z => z.up s1) h1⟩
  | false => exact iteF ⟨c1, env, o, r1, e1, Post.mono (fun f o z => z.up s1) h1⟩
/-- while, with as much fuel -/
def sWhile (t : M Bool) (b : MS) : Nat → MS
  | 0 => fun _ _ => .bad
  | n + 1 => fun env own => (t env own).bind fun c o => match c with
    | false => .ok (.nx env) o
    | true => (b env o).bind fun f o => match f with
      | .nx e => sWhile t b n e o
      | .ct e => sWhile t b n e o
      | .bk e => .ok (.nx e) o
      | .rt d => .ok (.rt d) o
theorem ms_while (n : Nat) {cnd : Expr} {body : List Stmt} {t : M Bool} {b : MS} (hp : PassesOwn (model X.prog X.w) X.A X.env X.xe) (hc : PT X cnd (tT g t)) (hb : PSs X body (tS g b)) : PS X (.While cnd body [] pos) (tS g (sWhile t b n)) := by
  refine ps_imp (ps_while hp hc hb) fun D σ H h => ?_
  obtain ⟨c, env, own, r, e, h⟩ := h
  refine ⟨fun n σ H => ∃ c1 env own, Step c c1 ∧ RelH g c1 own H ∧ RelE c1 env σ ∧ Post g (sWhile t b n env own) (PF g c D), ⟨n, c, env, own, Step.refl c, r, e, h⟩, fun m σ H hw => ?_⟩
  obtain ⟨c1, env, own, s1, r1, e1, h1⟩ := hw
  cases m with
  | zero => exact h1.elim
  | succ m =>
    refine tT.go r1 e1 h1 fun k o c2 H2 s2 r2 e2 h2 => ?_
    cases k with
    | false => exact iteF (h2 c2 H2 σ (s1.trans s2) r2 e2)
    | true =>
      refine iteT ⟨fun σ' H' => ∃ c1 env own, Step c c1 ∧ RelH g c1 own H' ∧ RelE c1 env σ' ∧ Post g (sWhile t b m env own) (PF g c D), fun σ' H' q => ⟨m, by omega, q⟩, c2, env, o, r2, e2, ?_⟩
      refine Post.mono (fun f o q => ?_) (Post.bind h2)
      have s12 := s1.trans s2
      cases f with
      | nx e => exact fun c' H' σ' s r' e' => ⟨c', e, o, s12.trans s, r', e', q⟩
      | ct e => exact fun c' H' σ' s r' e' => ⟨c', e, o, s12.trans s, r', e', q⟩
      | bk e => exact fun c' H' σ' s r' e' => q c' H' σ' (s12.trans s) r' e'
      | rt d => exact fun c' H' v s r' rd => q c' H' v (s12.trans s) r' rd

/-! ### targets -/
abbrev Tgt := PyData → Env → Option Env
def gM (g : G) (t : Tgt) (is : List Nat) : TG := fun v σ H Q => ∃ c env d own, RelH g c own H ∧ RelE c env σ ∧ Rp c.fz v d ∧ ∃ env', t d env = some env' ∧ ∀ σ', RelE c env' σ' → (∀ vs : List Nat, (∀ i ∈ is, i ∈ vs) → wipe σ' vs = wipe σ vs) → Q σ' H
theorem pg_imp {tg : Expr} {t t' : TG} (h : PG X tg t) (i : ∀ v σ H Q, t' v σ H Q → t v σ H Q) : PG X tg t' := ⟨fun pins s σ H v u Q I r q => h.run pins s σ H v u Q I r (i v σ H Q q)⟩
theorem wipe_get (σ : L2.St) : ∀ (vs : List Nat) (j : Nat), (wipe σ vs)[j]? = if j ∈ vs ∧ j < σ.length then some none else σ[j]?
  | [], j => by simp [wipe]
  | v :: vs, j => by
    unfold wipe
    rw [List.getElem?_set, wipe_length, wipe_get σ vs j]
    by_cases h : v = j
    · subst h
      by_cases hl : v < σ.length
      · simp [hl]
      · simp [hl]
    · have : j ≠ v := Ne.symm h
      simp [h, this]
theorem wipe_set {σ : L2.St} {i : Nat} {x : Option V} {vs : List Nat} (h : i ∈ vs) : wipe (σ.set i x) vs = wipe σ vs := by
  apply List.ext_getElem?
  intro j
  rw [wipe_get, wipe_get, List.length_set]
  by_cases hj : j ∈ vs ∧ j < σ.length
  · rw [if_pos hj, if_pos hj]
  · rw [if_neg hj, if_neg hj]
    by_cases hi : i = j
    · subst hi
      have hl : ¬ i < σ.length := fun q => hj ⟨h, q⟩
      rw [List.getElem?_eq_none (by simpa using hl), List.getElem?_eq_none (by omega)]
    · rw [List.getElem?_set_ne hi]
def tName (i : Nat) : Tgt := fun d env => some (env.set i (some (.p d)))
theorem mg_name (i : Nat) {x : Str} (hN : X.N.Nodup) (hi : X.N[i]? = some x := by rfl) (hx : Loc X.env.scope x := by first | exact Or.inl rfl | exact Or.inr rfl) (hf : X.fn x = true ∨ X.env.scope.names.lookup x = some .local := by first | exact .inl rfl | exact .inr rfl | assumption) : PG X (.Name x pos) (gM g (tName i) [i]) := by
  refine pg_imp (pg_name hN hi hx hf) fun v σ H Q h => ?_
  obtain ⟨c, env, d, own, r, e, rd, env', he, q⟩ := h
  cases he
  exact q _ (e.set (d := .p d) rd i) fun vs hv => wipe_set (hv i (by simp))
abbrev Tgs := List PyData → Env → Option Env
def gMs (g : G) (t : Tgs) (is : List Nat) : TGs := fun us σ H Q => ∃ c env ds own, RelH g c own H ∧ RelE c env σ ∧ Rps c.fz us ds ∧ ∃ env', t ds env = some env' ∧ ∀ σ', RelE c env' σ' → (∀ vs : List Nat, (∀ i ∈ is, i ∈ vs) → wipe σ' vs = wipe σ vs) → Q σ' H
theorem pgs_imp {tg : List Expr} {t t' : TGs} (h : PGs X tg t) (i : ∀ v σ H Q, t' v σ H Q → t v σ H Q) : PGs X tg t' := ⟨fun pins s σ H v u Q I r q => h.run pins s σ H v u Q I r (i v σ H Q q)⟩
def tsNil : Tgs := fun ds env => match ds with
  | [] => some env
  | _ => none
def tsCons (t : Tgt) (ts : Tgs) : Tgs := fun ds env => match ds with
  | d :: ds => match t d env with
    | some e => ts ds e
    | none => none
  | [] => none
theorem mgs_nil : PGs X [] (gMs g tsNil []) := by
  refine pgs_imp pgs_nil fun v σ H Q h => ?_
  obtain ⟨c, env, d, own, r, e, rd, env', he, q⟩ := h
  unfold tsNil at he
  split at he
  · cases rd
    cases he
    exact ⟨rfl, q σ e fun _ _ => rfl⟩
  · cases he
theorem mgs_cons {e : Expr} {es : List Expr} {t : Tgt} {ts : Tgs} {is js : List Nat} (h1 : PG X e (gM g t is)) (h2 : PGs X es (gMs g ts js))
    (hs : (assignEach (e :: es) X.env).map (·.2) = assign e X.env :: (assignEach es X.env).map (·.2) := by rfl) : PGs X (e :: es) (gMs g (tsCons t ts) (is ++ js)) := by
  refine pgs_imp (pgs_cons h1 h2 hs) fun v σ H Q h => ?_
  obtain ⟨c, env, ds, own, r, e, rd, env', he, q⟩ := h
  cases rd with
  | nil => cases he
  | cons r1 r2 =>
    unfold tsCons at he
    simp only at he
    split at he
    · rename_i e1 ee
      refine ⟨_, _, rfl, c, env, _, own, r, e, r1, e1, ee, fun σ1 re1 w1 => ?_⟩
      refine ⟨c, e1, _, own, r, re1, r2, env', he, fun σ2 re2 w2 => q σ2 re2 fun vs hv => ?_⟩
      rw [w2 vs fun i hi => hv i (List.mem_append_right _ hi), w1 vs fun i hi => hv i (List.mem_append_left _ hi)]
    · cases he
def tTupT (n : Nat) (ts : Tgs) : Tgt := fun d env => match d with
  | .tuple ds => match Nat.beq ds.length n with
    | true => ts ds env
    | false => none
  | _ => none
theorem mg_tup {es : List Expr} {k : Nat} {ts : Tgs} {is : List Nat} (n : Nat) (hc : X.calm = true) (h : PGs X es (gMs g ts is)) (hn : (assignEach es X.env).length = n := by rfl) (hst : (assignEach es X.env).findIdx? (·.1) = none := by rfl) : PG X (.Tuple es k pos) (gM g (tTupT n ts) is) := by
  refine pg_imp (pg_tup hc h hn hst) fun v σ H Q h => ?_
  obtain ⟨c, env, d, own, r, e, rd, env', he, q⟩ := h
  unfold tTupT at he
  split at he
  · split at he
    · rename_i hz
      cases rd with
      | @tup a vs _ h1 h2 =>
        exact ⟨a, vs, rfl, SqT.of (r.fz _ _ h1), by rw [h2.length]; exact Nat.eq_of_beq_eq_true hz, c, env, _, own, r, e, h2, env', he, q⟩
    · cases he
  · cases he

/-! ### what is walked -/
structure Src where
  items : List PyData
  lk : Option Nat
def Walks (g : G) (s : Src) (c0 : C) (J : It) : Prop := ∀ (g' : G) c own H, Grow c0 c → RelH g' c own H → (∀ k, s.lk = some k → (k, s.items) ∈ c.lk) → ∀ i : Nat,
  (∀ x, s.items[i]? = some x → J.go i H ∧ ∀ v H', J.yld i H v H' → ∃ c', Step c c' ∧ RelH g' c' own H' ∧ Rp c'.fz v x ∧ ∀ D o, H D = some o → H' D = some o) ∧ (s.items.length ≤ i → J.stop i H)
def SrcOk (s : Src) (own : Own) : Prop := ∀ k, s.lk = some k → ∃ m, own[k]? = some (.lst m s.items)
def tI (g : G) (m : M Src) : TI := fun σ H R => ∃ c env own, RelH g c own H ∧ RelE c env σ ∧ Post g (m env own) fun s own' => ∀ c' H' J, Step c c' → RelH g c' own' H' → RelE c' env σ → Walks g s c' J → SrcOk s own' → R J H'
theorem pi_imp {tg it : Expr} {t t' : TI} (h : PI X tg it t) (i : ∀ σ H Q, t' σ H Q → t σ H Q) : PI X tg it t' := ⟨fun pins s σ H R I q => h.run pins s σ H R I (i σ H R q)⟩
/-- a list that stands still -/
theorem walks_list {g : G} {c0 : C} {a : Addr} {s : Src} (h : ∀ (g' : G) c own H, Grow c0 c → RelH g' c own H → (∀ k, s.lk = some k → (k, s.items) ∈ c.lk) → ∃ vs, H a = some (.lst vs) ∧ Rps c.fz vs s.items) : Walks g s c0 (Itl X.K a) := by
  intro g' c own H gr r hl i
  obtain ⟨vs, h1, h2⟩ := h g' c own H gr r hl
  refine ⟨fun x hx => ?_, fun hle => ⟨vs, SqL.of h1, by rw [h2.length]; exact hle⟩⟩
  obtain ⟨v, ev, rv⟩ := h2.get hx
  refine ⟨⟨vs, v, SqL.of h1, ev⟩, fun w H' y => ?_⟩
  obtain ⟨rfl, y⟩ := y
  have := y vs (SqL.of h1)
  rw [ev] at this
  cases this
  exact ⟨c, Step.refl c, r, rv, fun _ _ e => e⟩
theorem walks_tup {g : G} {c0 : C} {a : Addr} {s : Src} (h : ∀ (g' : G) c own H, Grow c0 c → RelH g' c own H → (∀ k, s.lk = some k → (k, s.items) ∈ c.lk) → ∃ vs, H a = some (.tup vs) ∧ Rps c.fz vs s.items) : Walks g s c0 (Itt X.K a) := by
  intro g' c own H gr r hl i
  obtain ⟨vs, h1, h2⟩ := h g' c own H gr r hl
  refine ⟨fun x hx => ?_, fun hle => ⟨vs, SqT.of h1, by rw [h2.length]; exact hle⟩⟩
  obtain ⟨v, ev, rv⟩ := h2.get hx
  refine ⟨⟨vs, v, SqT.of h1, ev⟩, fun w H' y => ?_⟩
  obtain ⟨rfl, y⟩ := y
  have := y vs (SqT.of h1)
  rw [ev] at this
  cases this
  exact ⟨c, Step.refl c, r, rv, fun _ _ e => e⟩
def rangeP (lo : Int) : Nat → List PyData
  | 0 => []
  | n + 1 => .int lo :: rangeP (lo + 1) n
theorem rangeP_get (n : Nat) : ∀ (lo : Int) (i : Nat), (rangeP lo n)[i]? = if i < n then some (.int (lo + i)) else none := by
  induction n with
  | zero => intro lo i; simp [rangeP]
  | succ n ih =>
    intro lo i
    cases i with
    | zero => simp [rangeP]
    | succ i =>
      rw [rangeP, List.getElem?_cons_succ, ih]
      by_cases h : i < n
      · rw [if_pos h, if_pos (by omega)]
        congr 2
        omega
      · rw [if_neg h, if_neg (by omega)]
theorem rangeP_len (n : Nat) : ∀ lo : Int, (rangeP lo n).length = n := by
  induction n with
  | zero => intro lo; rfl
  | succ n ih => intro lo; rw [rangeP, List.length_cons, ih]
theorem walks_range {g : G} {c0 : C} {lo : Int} {n : Nat} : Walks g ⟨rangeP lo n, none⟩ c0 (Itr lo n) := by
  intro g' c own H gr r hl i
  refine ⟨fun x hx => ?_, fun hle => by rw [rangeP_len] at hle; exact hle⟩
  have hx : (rangeP lo n)[i]? = some x := hx
  rw [rangeP_get] at hx
  split at hx
  · rename_i hi
    cases hx
    refine ⟨hi, fun w H' y => ?_⟩
    obtain ⟨rfl, rfl⟩ := y
    exact ⟨c, Step.refl c, r, .int _, fun _ _ e => e⟩
  · cases hx
/-- of an expression that gives a list -/
def mSrcL (m : M D) : M Src := fun env own => (m env own).bind fun d o => match d with
  | .p d => match d with
    | .list xs => .ok ⟨xs, none⟩ o
    | _ => .bad
  | .own k => match o[k]? with
    | some (.lst _ xs) => .ok ⟨xs, some k⟩ o
    | none => .bad
theorem mi_list {l tg : Expr} {m : M D} (hl : PE X l (tE g m)) : PI X tg l (tI g (mSrcL m)) := by
  refine pi_imp (pi_list hl) fun σ H R h => ?_
  obtain ⟨c, env, own, r, e, h⟩ := h
  refine tE.go r e h fun d o c1 H1 v s1 r1 e1 rd q => ?_
  split at q
  · split at q
    · rename_i xs
      cases rd with
      | @lst a vs _ h1 h2 =>
        refine ⟨a, rfl, ⟨vs, SqL.of (r1.fz _ _ h1)⟩, q c1 H1 _ s1 r1 e1 (walks_list fun g' c own H gr r _ => ⟨vs, r.fz _ _ (gr.fz _ _ h1), Rps.mono gr.fz h2⟩) fun k hk => by cases hk⟩
    · exact q.elim
  · rename_i k
    split at q
    · rename_i mm xs ek
      obtain ⟨a, ea, rfl⟩ := rd
      obtain ⟨cell, e2, z⟩ := r1.cell ea
      rw [ek] at e2
      cases e2
      obtain ⟨vs, h1, h2⟩ := z.list r1.fz
      refine ⟨a, rfl, ⟨vs, SqL.of h1⟩, q c1 H1 _ s1 r1 e1 (walks_list fun g' c own H gr r hl => ?_) fun j hj => by cases hj; exact ⟨mm, ek⟩⟩
      obtain ⟨l, hrho⟩ := gr.rho
      have ea' : c.rho[k]? = some a := by
        rw [hrho, List.getElem?_append_left (List.getElem?_eq_some_iff.mp ea).1]
        exact ea
      obtain ⟨m', e3, _⟩ := r.lks k xs (hl k rfl)
      obtain ⟨cell, e4, z'⟩ := r.cell ea'
      rw [e3] at e4
      cases e4
      exact z'.list r.fz
    · exact q.elim
def mSrcT (m : M D) : M Src := fun env own => (m env own).bind fun d o => match d with
  | .p d => match d with
    | .tuple xs => .ok ⟨xs, none⟩ o
    | _ => .bad
  | .own _ => .bad
theorem mi_tup {l tg : Expr} {m : M D} (hl : PE X l (tE g m)) : PI X tg l (tI g (mSrcT m)) := by
  refine pi_imp (pi_tup hl) fun σ H R h => ?_
  obtain ⟨c, env, own, r, e, h⟩ := h
  refine tE.go r e h fun d o c1 H1 v s1 r1 e1 rd q => ?_
  split at q
  · split at q
    · rename_i xs
      cases rd with
      | @tup a vs _ h1 h2 =>
        refine ⟨a, rfl, ⟨vs, SqT.of (r1.fz _ _ h1)⟩, q c1 H1 _ s1 r1 e1 (walks_tup fun g' c own H gr r _ => ⟨vs, r.fz _ _ (gr.fz _ _ h1), Rps.mono gr.fz h2⟩) fun k hk => by cases hk⟩
    · exact q.elim
  · exact q.elim
def small (i : Int) : Bool := Nat.blt i.natAbs 1000000000
theorem small_ok {i : Int} (h : small i = true) : -(2 ^ 62) ≤ i ∧ i < 2 ^ 62 := by
  have := nblt h
  omega
def mSrcR1 (m : M (List D)) : M Src := fun env own => (m env own).bind fun ds o => match ds with
  | [.p (.int j)] => match small j with
    | true => .ok ⟨rangeP 0 j.toNat, none⟩ o
    | false => .bad
  | _ => .bad
theorem mi_range1 {a tg : Expr} {m : M (List D)} {p : Pos} (hg : Gl X "range") (hm : X.mg "range" = none) (ha : PA X [a] (tA g m)) (hs : starEach [a] X.env = [(false, eval a X.env)] := by rfl) : PI X tg (.Call (.Name "range" p) [a] [] pos) (tI g (mSrcR1 m)) := by
  refine pi_imp (pi_range1 hg hm ha hs) fun σ H R h => ?_
  obtain ⟨c, env, own, r, e, h⟩ := h
  refine tA.go r e h fun ds o c1 H1 vs s1 r1 e1 rd q => ?_
  split at q
  · split at q
    · rename_i hz
      cases rd with
      | cons rj rn =>
        cases rn
        cases rj
        obtain ⟨h1, h2⟩ := small_ok hz
        exact ⟨_, rfl, h1, h2, q c1 H1 _ s1 r1 e1 walks_range fun k hk => by cases hk⟩
    · exact q.elim
  · exact q.elim
def mSrcR2 (m : M (List D)) : M Src := fun env own => (m env own).bind fun ds o => match ds with
  | [.p (.int i), .p (.int j)] => match small i && small j with
    | true => .ok ⟨rangeP i (j - i).toNat, none⟩ o
    | false => .bad
  | _ => .bad
theorem mi_range2 {a b tg : Expr} {m : M (List D)} {p : Pos} (hg : Gl X "range") (hm : X.mg "range" = none) (ha : PA X [a, b] (tA g m)) (hs : starEach [a, b] X.env = [(false, eval a X.env), (false, eval b X.env)] := by rfl) (hs2 : starEach [b] X.env = [(false, eval b X.env)] := by rfl) :
    PI X tg (.Call (.Name "range" p) [a, b] [] pos) (tI g (mSrcR2 m)) := by
  refine pi_imp (pi_range2 hg hm ha hs hs2) fun σ H R h => ?_
  obtain ⟨c, env, own, r, e, h⟩ := h
  refine tA.go r e h fun ds o c1 H1 vs s1 r1 e1 rd q => ?_
  split at q
  · split at q
    · rename_i hz
      rw [Bool.and_eq_true] at hz
      cases rd with
      | cons ri rd =>
        cases rd with
        | cons rj rn =>
          cases rn
          cases ri
          cases rj
          obtain ⟨h1, h2⟩ := small_ok hz.1
          obtain ⟨h3, h4⟩ := small_ok hz.2
          exact ⟨_, _, rfl, ⟨h1, h2, h3, h4⟩, q c1 H1 _ s1 r1 e1 walks_range fun k hk => by cases hk⟩
    · exact q.elim
  · exact q.elim

/-! ### the walked list is shut -/
def isOurs (s : Src) (own : Own) : Bool := match s.lk with
  | some k => match own[k]? with
    | some (.lst m _) => match m with
      | .ours => true
      | _ => false
    | none => false
  | none => false
def shut (s : Src) (own : Own) : Own := match s.lk with
  | some k => match isOurs s own with
    | true => own.set k (.lst .lock s.items)
    | false => own
  | none => own
def unshut (s : Src) (was : Bool) (own : Own) : Own := match was, s.lk with
  | true, some k => match own[k]? with
    | some (.lst m xs) => match m with
      | .lock => own.set k (.lst .ours xs)
      | _ => own
    | none => own
  | _, _ => own
def lkOf (s : Src) (l : List (Nat × List PyData)) : List (Nat × List PyData) := match s.lk with
  | some k => (k, s.items) :: l
  | none => l
theorem RelH.shut {c : C} {own : Own} {H : Hp} {s : Src} (r : RelH g c own H) (h : SrcOk s own) : RelH g { c with lk := lkOf s c.lk } (shut s own) H := by
  unfold Mir.shut lkOf
  cases e : s.lk with
  | none => exact ⟨r.fz, r.same, r.lnH, r.nt0, r.ntf, r.tabs, r.base, r.low, r.len, r.nd, r.lks, fun j a cell h1 h2 => (r.cells j a cell h1 h2).up (Same.refl _) (fun o e => e) fun e => e⟩
  | some k =>
    obtain ⟨m, em⟩ := h k e
    have hk := (List.getElem?_eq_some_iff.mp em).1
    by_cases ho : m = .ours
    · subst ho
      have eo : isOurs s own = true := by unfold isOurs; simp only [e, em]
      simp only [eo]
      refine ⟨r.fz, r.same, r.lnH, r.nt0, r.ntf, r.tabs, r.base, r.low, by simp [r.len], r.nd, fun j ys hj => ?_, fun j a cell h1 h2 => ?_⟩
      · rcases List.mem_cons.mp hj with hj | hj
        · cases hj
          exact ⟨.lock, List.getElem?_set_self hk, by decide⟩
        · obtain ⟨m', e2, n⟩ := r.lks j ys hj
          have : k ≠ j := fun eq => by
            subst eq
            rw [em] at e2
            cases e2
            exact n rfl
          exact ⟨m', by rw [List.getElem?_set_ne this]; exact e2, n⟩
      · by_cases hj : j = k
        · subst hj
          rw [List.getElem?_set_self hk] at h2
          cases h2
          have := r.cells j a _ h1 em
          cases this with
          | ours z1 z2 z3 z4 => exact .lock z1 z2 z3 z4
        · rw [List.getElem?_set_ne (Ne.symm hj)] at h2
          exact (r.cells j a cell h1 h2).up (Same.refl _) (fun o e => e) fun e => e
    · have eo : isOurs s own = false := by
        unfold isOurs
        simp only [e, em]
      simp only [eo]
      refine ⟨r.fz, r.same, r.lnH, r.nt0, r.ntf, r.tabs, r.base, r.low, r.len, r.nd, fun j ys hj => ?_, fun j a cell h1 h2 => (r.cells j a cell h1 h2).up (Same.refl _) (fun o e => e) fun e => e⟩
      rcases List.mem_cons.mp hj with hj | hj
      · cases hj
        exact ⟨m, em, ho⟩
      · exact r.lks j ys hj
theorem RelH.unshut {c : C} {own own0 : Own} {H : Hp} {s : Src} {l : List (Nat × List PyData)} (r : RelH g c own H) (hl : c.lk = lkOf s l) (h0 : ∀ (k : Nat) (xs : List PyData), (k, xs) ∈ l → ∃ m, own0[k]? = some (.lst m xs) ∧ m ≠ .ours) : RelH g { c with lk := l } (unshut s (isOurs s own0) own) H := by
  have sub : ∀ (k : Nat) (xs : List PyData), (k, xs) ∈ l → (k, xs) ∈ c.lk := fun k xs hk => by
    rw [hl]
    unfold lkOf
    split
    · exact List.mem_cons_of_mem _ hk
    · exact hk
  have stay : RelH g { c with lk := l } own H := ⟨r.fz, r.same, r.lnH, r.nt0, r.ntf, r.tabs, r.base, r.low, r.len, r.nd, fun k xs hk => r.lks k xs (sub k xs hk), fun j a cell h1 h2 => (r.cells j a cell h1 h2).up (Same.refl _) (fun o e => e) fun e => e⟩
  unfold Mir.unshut
  split
  · rename_i k e1 e2
    split
    · rename_i m xs em
      split
      · have hk := (List.getElem?_eq_some_iff.mp em).1
        refine ⟨r.fz, r.same, r.lnH, r.nt0, r.ntf, r.tabs, r.base, r.low, by simp [r.len], r.nd, fun j ys hj => ?_, fun j a cell h1 h2 => ?_⟩
        · obtain ⟨m', e3, n⟩ := r.lks j ys (sub j ys hj)
          obtain ⟨m0, e4, n0⟩ := h0 j ys hj
          have : k ≠ j := fun eq => by
            subst eq
            unfold isOurs at e1
            simp only [e2, e4] at e1
            cases m0 <;> first | cases e1 | exact n0 rfl
          exact ⟨m', by rw [List.getElem?_set_ne this]; exact e3, n⟩
        · by_cases hj : j = k
          · subst hj
            rw [List.getElem?_set_self hk] at h2
            cases h2
            have := r.cells j a _ h1 em
            cases this with
            | lock z1 z2 z3 z4 => exact .ours z1 z2 z3 z4
          · rw [List.getElem?_set_ne (Ne.symm hj)] at h2
            exact (r.cells j a cell h1 h2).up (Same.refl _) (fun o e => e) fun e => e
      · exact stay
    · exact stay
  · exact stay

/-! ### for -/
def forL (t : Tgt) (b : MS) : List PyData → MS
  | [] => fun env own => .ok (.nx env) own
  | x :: xs => fun env own => match t x env with
    | none => .bad
    | some e => (b e own).bind fun f o => match f with
      | .nx e => forL t b xs e o
      | .ct e => forL t b xs e o
      | .bk e => .ok (.nx e) o
      | .rt d => .ok (.rt d) o
def sFor (src : M Src) (t : Tgt) (b : MS) : MS := fun env own => (src env own).bind fun s o => (forL t b s.items env (shut s o)).bind fun f o2 => .ok f (unshut s (isOurs s o) o2)
theorem ms_for {iter tg : Expr} {body : List Stmt} {src : M Src} {t : Tgt} {is : List Nat} {b : MS} (hp : PassesOwn (model X.prog X.w) X.A X.env X.xe) (hc : X.calm = true) (hi : PI X tg iter (tI g src)) (hg : PG X tg (gM g t is)) (hb : PSs X body (tS g b))
    (hs : ∀ x, foldedSetIterable iter X.env x = pure x := by intro _; rfl) : PS X (.For tg iter body [] pos) (tS g (sFor src t b)) := by
  refine ps_imp (ps_for hp hc hi hg hb hs) fun D σ H h => ?_
  obtain ⟨c, env, own, r, e, h⟩ := h
  refine ⟨c, env, own, r, e, Post.mono (fun s o q c1 H1 J s1 r1 e1 wk ok => ?_) (Post.bind h)⟩
  -- the ends, seen from within
  have fin : ∀ {f : Fl} {o2 : Own}, PF g c D f (unshut s (isOurs s o) o2) → PF g { c1 with lk := lkOf s c1.lk } D f o2 := fun {f o2} z => by
    have back : ∀ c' : C, Step { c1 with lk := lkOf s c1.lk } c' → Step c { c' with lk := c1.lk } := fun c' s' => s1.trans ⟨⟨s'.fz, s'.rho⟩, rfl⟩
    have un : ∀ (c' : C) H', Step { c1 with lk := lkOf s c1.lk } c' → RelH g c' o2 H' → RelH g { c' with lk := c1.lk } (unshut s (isOurs s o) o2) H' := fun c' H' s' r' => r'.unshut (by rw [s'.lk]) r1.lks
    have re : ∀ (c' : C) e σ', RelE c' e σ' → RelE { c' with lk := c1.lk } e σ' := fun c' e σ' z => z.grow ⟨Same.refl _, [], by simp⟩
    have rv : ∀ (c' : C) v d, RelD c' v d → RelD { c' with lk := c1.lk } v d := fun c' v d z => z.grow ⟨Same.refl _, [], by simp⟩
    cases f with
    | nx e => exact fun c' H' σ' s' r' e' => z _ H' σ' (back c' s') (un c' H' s' r') (re _ _ _ e')
    | rt d => exact fun c' H' v s' r' e' => z _ H' v (back c' s') (un c' H' s' r') (rv _ _ _ e')
    | bk e => exact fun c' H' σ' s' r' e' => z _ H' σ' (back c' s') (un c' H' s' r') (re _ _ _ e')
    | ct e => exact fun c' H' σ' s' r' e' => z _ H' σ' (back c' s') (un c' H' s' r') (re _ _ _ e')
  have q' : Post g (forL t b s.items env (shut s o)) (PF g { c1 with lk := lkOf s c1.lk } D) := Post.mono (fun f o2 z => fin z) (Post.bind q)
  refine ⟨fun i m σ H => m = s.items.length - i ∧ i ≤ s.items.length ∧ ∃ c2 env own, Step { c1 with lk := lkOf s c1.lk } c2 ∧ RelH g c2 own H ∧ RelE c2 env σ ∧ Post g (forL t b (s.items.drop i) env own) (PF g { c1 with lk := lkOf s c1.lk } D),
    ⟨s.items.length, by simp, Nat.zero_le _, { c1 with lk := lkOf s c1.lk }, env, shut s o, Step.refl _, r1.shut ok, e1.grow ⟨Same.refl _, [], by simp⟩, q'⟩, ?_⟩
  rintro i m σ H ⟨rfl, hi', c2, env2, own2, s2, r2, e2, h2⟩
  have hlk : ∀ k, s.lk = some k → (k, s.items) ∈ c2.lk := fun k hk => by
    rw [s2.lk]
    show (k, s.items) ∈ lkOf s c1.lk
    unfold lkOf
    rw [hk]
    exact List.mem_cons_self
  obtain ⟨w1, w2⟩ := wk g c2 own2 H (show Grow c1 c2 from ⟨s2.fz, s2.rho⟩) r2 hlk i
  by_cases hlt : i < s.items.length
  · obtain ⟨go, yl⟩ := w1 s.items[i] (List.getElem?_eq_getElem hlt)
    rw [List.drop_eq_getElem_cons hlt] at h2
    refine .inr ⟨go, fun σ' H' => ∃ c2 env own, Step { c1 with lk := lkOf s c1.lk } c2 ∧ RelH g c2 own H' ∧ RelE c2 env σ' ∧ Post g (forL t b (s.items.drop (i + 1)) env own) (PF g { c1 with lk := lkOf s c1.lk } D), fun σ' H' z => ⟨_, by omega, rfl, hlt, z⟩, fun x H' y => ?_⟩
    obtain ⟨c3, s3, r3, rx, _⟩ := yl x H' y
    unfold forL at h2
    split at h2
    · exact h2.elim
    · rename_i e3 ee
      refine ⟨c3, env2, _, own2, r3, e2.step s3, rx, e3, ee, fun σ' re _ => ?_⟩
      refine ⟨c3, e3, own2, r3, re, Post.mono (fun f o3 z => ?_) (Post.bind h2)⟩
      have s23 := s2.trans s3
      cases f with
      | nx e => exact fun c' H' σ' s' r' e' => ⟨c', e, o3, s23.trans s', r', e', z⟩
      | ct e => exact fun c' H' σ' s' r' e' => ⟨c', e, o3, s23.trans s', r', e', z⟩
      | bk e => exact fun c' H' σ' s' r' e' => z c' H' σ' (s23.trans s') r' e'
      | rt d => exact fun c' H' v s' r' e' => z c' H' v (s23.trans s') r' e'
  · have ei : i = s.items.length := by omega
    subst ei
    rw [List.drop_length] at h2
    exact .inl ⟨w2 (Nat.le_refl _), h2 c2 H σ s2 r2 e2⟩
end
end Mir

set_option maxRecDepth 100000
set_option maxHeartbeats 4000000
namespace Mir
variable [Tab]
open PySem PySem.Spec PyProof.Rows L2
section
variable {X : Cx} {g : G} {pos : Pos}
/-! ### more assignments -/
theorem RelH.ext {c : C} {own : Own} {H H' : Hp} (r : RelH g c own H) (s : Same H H') : RelH g c own H' :=
  ⟨r.fz.trans s, r.same.trans s, r.lnH, r.nt0, r.ntf, r.tabs.ext s, r.base, r.low, r.len, r.nd, r.lks, fun j a cell h1 h2 => (r.cells j a cell h1 h2).up (Same.refl _) (fun o e => s _ _ e) fun e => e⟩
def setAll : List Nat → List D → Env → Option Env
  | [], [], env => some env
  | i :: is, d :: ds, env => setAll is ds (env.set i (some d))
  | _, _, _ => none
def gDs (g : G) (is : List Nat) : TGs := fun us σ H Q => ∃ c env ds own, RelH g c own H ∧ RelE c env σ ∧ RelDs c us ds ∧ ∃ env', setAll is ds env = some env' ∧ ∀ σ', RelE c env' σ' → Q σ' H
theorem gds_nil : PGs X [] (gDs g []) := by
  refine pgs_imp pgs_nil fun v σ H Q h => ?_
  obtain ⟨c, env, d, own, r, e, rd, env', he, q⟩ := h
  cases rd with
  | nil => cases he; exact ⟨rfl, q σ e⟩
  | cons => cases he
theorem gds_cons (i : Nat) {is : List Nat} {x : Str} {es : List Expr} {p : Pos} (hN : X.N.Nodup) (h2 : PGs X es (gDs g is)) (hi : X.N[i]? = some x := by rfl) (hx : Loc X.env.scope x := by first | exact Or.inl rfl | exact Or.inr rfl) (hf : X.fn x = true ∨ X.env.scope.names.lookup x = some .local := by first | exact .inl rfl | exact .inr rfl | assumption)
    (hs : (assignEach (.Name x p :: es) X.env).map (·.2) = assign (.Name x p) X.env :: (assignEach es X.env).map (·.2) := by rfl) : PGs X (.Name x p :: es) (gDs g (i :: is)) := by
  refine pgs_imp (pgs_cons (pg_name hN hi hx hf) h2 hs) fun v σ H Q h => ?_
  obtain ⟨c, env, ds, own, r, e, rd, env', he, q⟩ := h
  cases rd with
  | nil => cases he
  | cons r1 r2 => exact ⟨_, _, rfl, c, _, _, own, r, e.set r1 i, r2, env', he, q⟩
/-- (names) = (expressions), own lists among them -/
def sTupD (is : List Nat) (m : M (List D)) : MS := fun env own => (m env own).bind fun ds o => match setAll is ds env with
  | some e => match Nat.ble ds.length sz with
    | true => .ok (.nx e) o
    | false => .bad
  | none => .bad
theorem ms_tupD {is : List Nat} {ts es : List Expr} {m : M (List D)} {k1 p1 k2 p2} (hc : X.calm = true) (ha : PA X es (tA g m)) (hg : PGs X ts (gDs g is)) (hn : (assignEach ts X.env).length = es.length := by rfl) (hst : (assignEach ts X.env).findIdx? (·.1) = none := by rfl)
    (hs : swapsWithSole [.Tuple ts k1 p1] (.Tuple es k2 p2) pos.line X.env = pure false := by rfl) (hw : swappedStores [.Tuple ts k1 p1] (.Tuple es k2 p2) X.env = pure none := by rfl)
    (h1 : (assignEach [.Tuple ts k1 p1] X.env).map (·.2) = [assign (.Tuple ts k1 p1) X.env] := by rfl) (hl : ∀ ds : List D, ∀ e e' : Env, setAll is ds e = some e' → ds.length = es.length) : PS X (.Assign [.Tuple ts k1 p1] (.Tuple es k2 p2) pos) (tS g (sTupD is m)) := by
  refine ps_imp (ps_asg (pe_tup ha) (pg_tup hc hg hn hst) hs hw h1) fun D σ H h => ?_
  obtain ⟨c, env, own, r, e, h⟩ := h
  refine tA.go r e h fun ds o c' H' vs s r' e' rd q => ?_
  split at q
  · rename_i e2 ee
    split at q
    · rename_i hz
      have := rd.length
      refine ⟨by rw [this]; exact ble_le hz, fun p hp => ?_⟩
      refine ⟨p, vs, rfl, SqT.of upd_same, by rw [this]; exact hl ds env e2 ee, c', env, ds, o, r'.ext (same_new hp), e', rd, e2, ee, fun σ' re => q c' _ σ' s (r'.ext (same_new hp)) re⟩
    · exact q.elim
  · exact q.elim
/-- target = data -/
def sAsg (t : Tgt) (m : M D) : MS := fun env own => (m env own).bind fun d o => match d with
  | .p x => match t x env with
    | some e => .ok (.nx e) o
    | none => .bad
  | .own _ => .bad
theorem ms_asg {tg e : Expr} {t : Tgt} {is : List Nat} {m : M D} (he : PE X e (tE g m)) (hg : PG X tg (gM g t is)) (hs : swapsWithSole [tg] e pos.line X.env = pure false := by rfl) (hw : swappedStores [tg] e X.env = pure none := by rfl)
    (h1 : (assignEach [tg] X.env).map (·.2) = [assign tg X.env] := by rfl) : PS X (.Assign [tg] e pos) (tS g (sAsg t m)) := by
  refine ps_imp (ps_asg he hg hs hw h1) fun D σ H h => ?_
  obtain ⟨c, env, own, r, e, h⟩ := h
  refine tE.go r e h fun d o c' H' v s r' e' rd q => ?_
  split at q
  · rename_i x
    split at q
    · rename_i e2 ee
      exact ⟨c', env, x, o, r', e', rd, e2, ee, fun σ' re _ => q c' H' σ' s r' re⟩
    · exact q.elim
  · exact q.elim
/-- xs[i] = e, xs an own list -/
def sSub (mv mo mi : M D) : MS := fun env own => (mv env own).bind fun v o => (mo env o).bind fun x o => (mi env o).bind fun i o => match x, i with
  | .own k, .p (.int j) => match freeze v o with
    | some (d, o) => match o[k]? with
      | some (.lst m xs) => match m with
        | .ours => match ixN xs.length j with
          | some n => .ok (.nx env) (o.set k (.lst .ours (xs.set n d)))
          | none => .bad
        | _ => .bad
      | none => .bad
    | none => .bad
  | _, _ => .bad
theorem ms_sub {o i e : Expr} {mv mo mi : M D} {p : Pos} (he : PE X e (tE g mv)) (ho : PE X o (tE g mo)) (hi : PE X i (tE g mi)) (hs : swapsWithSole [.Subscript o i p] e pos.line X.env = pure false := by rfl) (hw : swappedStores [.Subscript o i p] e X.env = pure none := by rfl)
    (h1 : (assignEach [.Subscript o i p] X.env).map (·.2) = [assign (.Subscript o i p) X.env] := by rfl)
    (ha : ∀ v, assign (.Subscript o i p) X.env v = (do
      let ov ← holding [v] (eval o X.env)
      let iv ← holding [v, ov] (eval i X.env)
      standAt p
      holding [v, ov, iv] (setItem ov iv v)
      release [v, ov, iv] []) := by intro _; rfl) : PS X (.Assign [.Subscript o i p] e pos) (tS g (sSub mv mo mi)) := by
  refine ps_imp (ps_asg he (pg_sub ho hi set_list ha) hs hw h1) fun D σ H h => ?_
  obtain ⟨c, env, own, r, e, h⟩ := h
  refine tE.go r e h fun d o1 c1 H1 v1 s1 r1 e1 d1 h1 => ?_
  refine tE.go r1 e1 h1 fun x o2 c2 H2 v2 s2 r2 e2 d2 h2 => ?_
  refine tE.go r2 e2 h2 fun y o3 c3 H3 v3 s3 r3 e3 d3 h3 => ?_
  split at h3
  · rename_i k j
    split at h3
    · rename_i z o4 ez
      obtain ⟨c4, s4, r4, q4⟩ := freeze_ok r3 (d1.step (s2.trans s3)) ez
      split at h3
      · rename_i m xs ek
        split at h3
        · split at h3
          · rename_i n en
            cases d3
            obtain ⟨p, ea, rfl⟩ := d2.step (s3.trans s4)
            obtain ⟨cell, e2', q⟩ := r4.cell ea
            rw [ek] at e2'
            cases e2'
            cases q with
            | ours h1 h2 h3' h4 =>
              refine ⟨p, _, j, n, rfl, rfl, h1, by rw [h2.length]; exact en, ?_⟩
              exact h3 c4 _ σ (s1.trans (s2.trans (s3.trans s4))) (r4.write ea ek (h2.set q4 n)) (e3.step s4)
          · exact h3.elim
        · exact h3.elim
      · exact h3.elim
    · exact h3.elim
  · exact h3.elim

/-! ### comprehensions -/
/-- a list in the heap becomes an own one -/
theorem RelH.adopt {c : C} {own : Own} {H : Hp} {p : Addr} {vs : List V} {xs : List PyData} (r : RelH g c own H) (hp : H p = some (.lst vs)) (h0 : g.H0 p = none) (hf : c.fz p = none) (hr : p ∉ c.rho) (q : Rps c.fz vs xs) :
    ∃ c', Step c c' ∧ RelH g c' (own ++ [.lst .ours xs]) H ∧ RelD c' (.ref p) (.own own.length) := by
  refine ⟨⟨c.fz, c.rho ++ [p], c.lk⟩, ⟨⟨Same.refl _, [p], rfl⟩, rfl⟩, ⟨r.fz, r.same, r.lnH, r.nt0, r.ntf, r.tabs, r.base, r.low, by simp [r.len], ?_, fun k ys hk => ?_, fun k a cell h1 h2 => ?_⟩, ⟨p, by simp [← r.len], rfl⟩⟩
  · exact List.nodup_append.mpr ⟨r.nd, by simp, fun a ha b hb e => hr (by simp at hb; subst hb; subst e; exact ha)⟩
  · obtain ⟨m, e, n⟩ := r.lks k ys hk
    exact ⟨m, by rw [List.getElem?_append_left (List.getElem?_eq_some_iff.mp e).1]; exact e, n⟩
  · by_cases hk : k < own.length
    · rw [List.getElem?_append_left (by rw [r.len]; exact hk)] at h1
      rw [List.getElem?_append_left hk] at h2
      exact (r.cells k a cell h1 h2).up (Same.refl _) (fun o e => e) fun e => e
    · rw [List.getElem?_append_right (by rw [r.len]; omega)] at h1
      rw [List.getElem?_append_right (by omega)] at h2
      rw [r.len] at h1
      have z : k - own.length = 0 := by
        have := (List.getElem?_eq_some_iff.mp h2).1
        simp at this
        omega
      rw [z] at h1 h2
      simp at h1 h2
      subst h1 h2
      exact .ours hp q h0 hf
def mYes : M Bool := fun _ own => .ok true own
def wipeE (env : Env) : List Nat → Env
  | [] => env
  | v :: vs => (wipeE env vs).set v none
theorem RelE.set0 {c : C} {env : Env} {σ : L2.St} (r : RelE c env σ) (i : Nat) (x : Option V) : RelE c (env.set i none) (σ.set i x) := by
  refine ⟨by simp [r.1], fun j e h => ?_⟩
  by_cases hj : i = j
  · subst hj
    have hi : i < env.length := by
      have := (List.getElem?_eq_some_iff.mp h).1
      simpa using this
    rw [List.getElem?_set_self hi] at h
    cases h
  · rw [List.getElem?_set_ne hj] at h
    obtain ⟨w, e1, q⟩ := r.2 j e h
    exact ⟨w, by rw [List.getElem?_set_ne hj]; exact e1, q⟩
theorem RelE.wipe {c : C} {env : Env} {σ : L2.St} (r : RelE c env σ) : ∀ vs : List Nat, RelE c (wipeE env vs) (L2.wipe σ vs)
  | [] => r
  | v :: vs => (r.wipe vs).set0 v none
/-- no exception -/
def R.nx {α : Type} : R α → R α
  | .exc _ _ => .bad
  | .draw n k => .draw n fun d => (k d).nx
  | .ok a o => .ok a o
  | .bad => .bad
theorem Post.nx {α : Type} {g g' : G} {Q : α → Own → Prop} : ∀ {r : R α}, Post g r.nx Q → Post g' r Q
  | .ok a o, q => q
  | .bad, q => q
  | .exc k d, q => q.elim
  | .draw n k, q => fun d hd => Post.nx (q d hd)
theorem RelH.poke {c : C} {own : Own} {H : Hp} {p : Addr} {o : HO} {old : List V} (r : RelH g c own H) (hl : H p = some (.lst old)) (h0 : g.H0 p = none) (hf : c.fz p = none) (hr : p ∉ c.rho) : RelH g c own (upd H p o) := by
  refine ⟨fun b z e => ?_, fun b z e => ?_, r.lnH, r.nt0, r.ntf, tabs_lst r.tabs hl, r.base, r.low, r.len, r.nd, r.lks, fun j a cell h1 h2 => (r.cells j a cell h1 h2).up (Same.refl _) (fun z e => ?_) fun e => e⟩
  · rw [upd_ne (ne_of_none e hf)]; exact r.fz _ _ e
  · rw [upd_ne (ne_of_none e h0)]; exact r.same _ _ e
  · have ne : a ≠ p := fun eq => hr (by rw [← eq]; exact List.mem_of_getElem? h1)
    rw [upd_ne ne]; exact e
/-- the items of a comprehension, n of them are made already -/
def compL (t : Tgt) (cnd : M Bool) (elt : M D) (env : Env) : List PyData → Nat → Own → R (List PyData)
  | [], _ => fun o => .ok [] o
  | x :: xs, n => fun o => match t x env with
    | none => .bad
    | some e => (cnd e o).nx.bind fun b o => match b with
      | false => compL t cnd elt env xs n o
      | true => (elt e o).nx.bind fun d o => match freeze d o with
        | none => .bad
        | some (y, o) => match Nat.blt n sz with
          | true => (compL t cnd elt env xs (n + 1) o).bind fun ys o => .ok (y :: ys) o
          | false => .bad
def mLc (src : M Src) (t : Tgt) (cnd : M Bool) (elt : M D) (vs : List Nat) : M D := fun env own => (src env own).bind fun s o => (compL t cnd elt (wipeE env vs) s.items 0 (shut s o)).bind fun ys o2 => match unshut s (isOurs s o) o2 with
  | o3 => .ok (.own o3.length) (o3 ++ [.lst .ours ys])
/-- within a comprehension: the list that is made stands at p -/
def G.at (g : G) (p : Addr) (acc : List V) : G := { g with H0 := upd g.H0 p (.lst acc), E := E0 }
theorem RelH.inn {c : C} {own : Own} {H : Hp} {p : Addr} {acc : List V} (r : RelH g c own H) (hp : H p = some (.lst acc)) (h0 : g.H0 p = none) (hf : c.fz p = none) (hr : p ∉ c.rho) : RelH (g.at p acc) c own H := by
  refine ⟨r.fz, fun b o e => ?_, fun a ha => ?_, r.nt0.upd (fun ps z => (by cases z)), r.ntf, r.tabs, r.base, fun a o h1 h2 => ?_, r.len, r.nd, r.lks, fun j a cell h1 h2 => ?_⟩
  · have e : upd g.H0 p (.lst acc) b = some o := e
    by_cases hb : b = p
    · subst hb; rw [upd_same] at e; rw [hp]; exact e
    · rw [upd_ne hb] at e; exact r.same _ _ e
  · obtain ⟨o, e⟩ := r.lnH a ha
    exact ⟨o, by show upd g.H0 p _ a = _; rw [upd_ne (ne_of_none e h0)]; exact e⟩
  · have h1 : upd g.H0 p (.lst acc) a = some (.lst o) := h1
    by_cases hb : a = p
    · subst hb; exact hf
    · rw [upd_ne hb] at h1; exact r.low a o h1 h2
  · have ha : a ≠ p := fun e => hr (e ▸ List.mem_of_getElem? h1)
    have := r.cells j a cell h1 h2
    cases this with
    | ours z1 z2 z3 z4 => exact .ours z1 z2 (by show upd g.H0 p _ a = none; rw [upd_ne ha]; exact z3) z4
    | lock z1 z2 z3 z4 => exact .lock z1 z2 (by show upd g.H0 p _ a = none; rw [upd_ne ha]; exact z3) z4
    | gone z1 z2 => exact .gone z1 z2
    | lent z1 z2 z3 => exact .lent z1 z2 z3
theorem RelH.out {c : C} {own : Own} {H : Hp} {p : Addr} {acc : List V} (r : RelH (g.at p acc) c own H) (h0 : g.H0 p = none) (hb : g.fz0 p = none) (hl : p ∉ g.ln) (lnH : ∀ a ∈ g.ln, ∃ o, g.H0 a = some o) (nt0 : Ntb g.H0) : RelH g c own H ∧ H p = some (.lst acc) ∧ c.fz p = none ∧ p ∉ c.rho := by
  have ep : (g.at p acc).H0 p = some (.lst acc) := upd_same
  have hf : c.fz p = none := r.low p _ ep hb
  have hr : p ∉ c.rho := fun h => by
    obtain ⟨k, hk, e⟩ := List.getElem_of_mem h
    obtain ⟨cell, _, q⟩ := r.cell (List.getElem?_eq_some_iff.mpr ⟨hk, e⟩)
    cases q with
    | ours _ _ z _ => rw [ep] at z; cases z
    | lock _ _ z _ => rw [ep] at z; cases z
    | gone z _ => rw [hf] at z; cases z
    | lent _ _ z => exact hl z
  have same0 : Same g.H0 (g.at p acc).H0 := same_new h0
  refine ⟨⟨r.fz, same0.trans r.same, lnH, nt0, r.ntf, r.tabs, r.base, fun a o h1 h2 => r.low a o (same0 _ _ h1) h2, r.len, r.nd, r.lks, fun j a cell h1 h2 => ?_⟩, r.same _ _ ep, hf, hr⟩
  have := r.cells j a cell h1 h2
  cases this with
  | ours z1 z2 z3 z4 => exact .ours z1 z2 (Same.free same0 z3) z4
  | lock z1 z2 z3 z4 => exact .lock z1 z2 (Same.free same0 z3) z4
  | gone z1 z2 => exact .gone z1 z2
  | lent z1 z2 z3 => exact .lent z1 z2 z3
/-- a run within another: nothing is raised out of it -/
structure G.In (g0 g : G) : Prop where
  E : g.E = E0
  cls : g.cls = g0.cls
  T : g.T = g0.T
/-- whatever run bears it -/
def tEx (g0 : G) (m : M D) : TE := fun σ H Q => ∃ g : G, g0.In g ∧ tE g m σ H Q
def tTx (g0 : G) (m : M Bool) : TT := fun σ H Q => ∃ g : G, g0.In g ∧ tT g m σ H Q
def gMx (g0 : G) (t : Tgt) (is : List Nat) : TG := fun v σ H Q => ∃ g : G, g0.In g ∧ gM g t is v σ H Q
theorem pe_x {g0 : G} {e : Expr} {m : M D} (h : ∀ g : G, g0.In g → PE X e (tE g m)) : PE X e (tEx g0 m) := ⟨fun pins s σ H Q I ⟨g, hg, q⟩ => (h g hg).run pins s σ H Q I q⟩
theorem pt_x {g0 : G} {e : Expr} {m : M Bool} (h : ∀ g : G, g0.In g → PT X e (tT g m)) : PT X e (tTx g0 m) := ⟨fun pins s σ H Q I ⟨g, hg, q⟩ => (h g hg).run pins s σ H Q I q⟩
theorem pg_x {g0 : G} {e : Expr} {t : Tgt} {is : List Nat} (h : ∀ g : G, g0.In g → PG X e (gM g t is)) : PG X e (gMx g0 t is) := ⟨fun pins s σ H v u Q I r ⟨g, hg, q⟩ => (h g hg).run pins s σ H v u Q I r q⟩
structure PCn (g0 : G) (X : Cx) (ifs : List Expr) (m : M Bool) : Prop where
  run : PTs X ifs (tTx g0 m)
theorem mc_nil {g0 : G} : PCn g0 X [] mYes := ⟨⟨fun pins s σ H Q I h => by
  obtain ⟨g, _, c, env, own, r, e, h⟩ := h
  exact pts_nil.run pins s σ H Q I (h c H (Step.refl c) r)⟩⟩
theorem mc_one {g0 : G} {c : Expr} {m : M Bool} (h : ∀ g : G, g0.In g → PT X c (tT g m)) : PCn g0 X [c] m := ⟨pts_one (pt_x h)⟩
theorem tLc_of {src : M Src} {t : Tgt} {is : List Nat} {cnd : M Bool} {elt : M D} {vs : List Nat} (hiv : ∀ i ∈ is, i ∈ vs) {σ : L2.St} {H : Hp} {Q : VK} (h : tE g (mLc src t cnd elt vs) σ H Q) : tLc (tI g src) (gMx g t is) (tTx g cnd) (tEx g elt) vs σ H Q := by
  obtain ⟨c, env, own, r, e, h⟩ := h
  refine ⟨c, env, own, r, e, Post.mono (fun s o q c1 H1 J s1 r1 e1 wk ok p hp => ?_) (Post.bind h)⟩
  have h0 := r1.h0 hp
  have hb : g.fz0 p = none := Same.free (r1.base.trans r1.fz) hp
  have hf := r1.fz0 hp
  have hln : p ∉ g.ln := fun z => by
    obtain ⟨o, eo⟩ := r1.lnH p z
    rw [h0] at eo; cases eo
  have hr : p ∉ c1.rho := fun z => by
    obtain ⟨o, eo⟩ := r1.taken z
    rw [hp] at eo; cases eo
  -- the state of a turn: made items acc, data ys, the rest still to come
  refine ⟨fun i m H => m = s.items.length - i ∧ i ≤ s.items.length ∧ ∃ c2 own2 acc ys, Step { c1 with lk := lkOf s c1.lk } c2 ∧ RelH (g.at p acc) c2 own2 H ∧ Rps c2.fz acc ys ∧
      Post g (compL t cnd elt (wipeE env vs) (s.items.drop i) ys.length own2) fun zs o2 => Post g (match unshut s (isOurs s o) o2 with | o3 => (.ok (.own o3.length) (o3 ++ [.lst .ours (ys ++ zs)]) : R D)) (PQ g c Q),
    ⟨s.items.length, by simp, Nat.zero_le _, { c1 with lk := lkOf s c1.lk }, shut s o, [], [], Step.refl _, ?_, .nil, ?_⟩, ?_⟩
  · exact ((r1.shut ok).ext (same_new hp)).inn upd_same h0 hf hr
  · exact Post.bind q
  rintro i m H2 ⟨rfl, hi', c2, own2, acc, ys, s2, r2, qa, h2⟩
  have hlk : ∀ k, s.lk = some k → (k, s.items) ∈ c2.lk := fun k hk => by
    rw [s2.lk]
    show (k, s.items) ∈ lkOf s c1.lk
    unfold lkOf
    rw [hk]
    exact List.mem_cons_self
  obtain ⟨w1, w2⟩ := wk (g.at p acc) c2 own2 H2 (show Grow c1 c2 from ⟨s2.fz, s2.rho⟩) r2 hlk i
  by_cases hlt : i < s.items.length
  · obtain ⟨go, yl⟩ := w1 s.items[i] (List.getElem?_eq_getElem hlt)
    rw [List.drop_eq_getElem_cons hlt] at h2
    refine .inr ⟨go, fun H' => ∃ c2 own2 acc ys, Step { c1 with lk := lkOf s c1.lk } c2 ∧ RelH (g.at p acc) c2 own2 H' ∧ Rps c2.fz acc ys ∧
      Post g (compL t cnd elt (wipeE env vs) (s.items.drop (i + 1)) ys.length own2) fun zs o2 => Post g (match unshut s (isOurs s o) o2 with | o3 => (.ok (.own o3.length) (o3 ++ [.lst .ours (ys ++ zs)]) : R D)) (PQ g c Q), fun H' z => ⟨_, by omega, rfl, hlt, z⟩, fun x H' y => ?_⟩
    obtain ⟨c3, s3, r3, rx, _⟩ := yl x H' y
    unfold compL at h2
    split at h2
    · exact h2.elim
    · rename_i e3 ee
      have e1w : RelE c3 (wipeE env vs) (wipe σ vs) := ((e1.grow ⟨s2.fz, s2.rho⟩).step s3).wipe vs
      refine ⟨g.at p acc, ⟨rfl, rfl, rfl⟩, c3, wipeE env vs, _, own2, r3, e1w, rx, e3, ee, fun σ' re hw => ⟨?_, ?_⟩⟩
      · have := hw vs hiv
        rw [this]
        apply List.ext_getElem?
        intro j
        rw [wipe_get, wipe_length, wipe_get]
        by_cases hj : j ∈ vs ∧ j < σ.length
        · rw [if_pos hj, if_pos hj]
        · rw [if_neg hj, if_neg hj]
      · refine ⟨g.at p acc, ⟨rfl, rfl, rfl⟩, c3, e3, own2, r3, re, Post.mono (fun b o4 z c4 H4 s4 r4 => ?_) (Post.nx (Post.bind h2))⟩
        have s24 := s2.trans (s3.trans s4)
        cases b with
        | false => exact iteF ⟨c4, o4, acc, ys, s24, r4, Rps.mono (s3.trans s4).fz qa, z⟩
        | true =>
          refine iteT ⟨g.at p acc, ⟨rfl, rfl, rfl⟩, c4, e3, o4, r4, re.step s4, Post.mono (fun d o5 z c5 H5 v5 s5 r5 d5 => ?_) (Post.nx (Post.bind z))⟩
          split at z
          · exact z.elim
          · rename_i y6 o6 ef
            split at z
            · rename_i hz
              obtain ⟨c6, s6, r6, q6⟩ := freeze_ok r5 d5 ef
              have s26 := s24.trans (s5.trans s6)
              have qa6 : Rps c6.fz acc ys := Rps.mono (s3.trans (s4.trans (s5.trans s6))).fz qa
              obtain ⟨r7, hp7, hf7, hr7⟩ := r6.out h0 hb hln r1.lnH r1.nt0
              refine ⟨acc, hp7, by rw [qa6.length]; exact blt_lt hz, c6, o6, acc ++ [v5], ys ++ [y6], s26, (r7.poke hp7 h0 hf7 hr7).inn upd_same h0 hf7 hr7, qa6.append (.cons q6 .nil), ?_⟩
              have z2 := Post.bind z
              rw [List.length_append]
              refine Post.mono (fun zs o8 w => ?_) z2
              have w2 : Post g (match unshut s (isOurs s o) o8 with | o3 => (.ok (.own o3.length) (o3 ++ [.lst .ours (ys ++ y6 :: zs)]) : R D)) (PQ g c Q) := w
              rw [List.append_assoc]
              exact w2
            · exact z.elim
  · have ei : i = s.items.length := by omega
    subst ei
    rw [List.drop_length] at h2
    refine .inl ⟨w2 (Nat.le_refl _), ?_⟩
    obtain ⟨r3, hp3, hf3, hr3⟩ := r2.out h0 hb hln r1.lnH r1.nt0
    have r4 := r3.unshut (own0 := o) (s := s) (l := c1.lk) (by rw [s2.lk]) r1.lks
    obtain ⟨c5, s5, r5, d5⟩ := r4.adopt hp3 h0 hf3 hr3 qa
    have h3 : PQ g c Q (.own (unshut s (isOurs s o) own2).length) (unshut s (isOurs s o) own2 ++ [.lst .ours (ys ++ [])]) := h2
    rw [List.append_nil] at h3
    exact h3 c5 H2 _ (s1.trans (Step.trans (b := { c2 with lk := c1.lk }) ⟨⟨s2.fz, s2.rho⟩, rfl⟩ s5)) r5 d5
theorem me_lc {elt tg iter : Expr} {ifs : List Expr} {scope : Scope} {own : List (Str × Nat)} {src : M Src} {t : Tgt} {is : List Nat} {cnd : M Bool} {m : M D} (hc : X.calm = true) (hN : X.N.Nodup) (ok : BlkOk X.N X.env.scope scope own) (hi : PI X tg iter (tI g src))
    (hg : ∀ (s : Shared) (H : Hp) (C : Addr) (cl : List (Str × Addr)) (fp : List Addr), ∀ g' : G, g.In g' → PG (X.blk s H scope (compEnvC scope cl C X.env) fp) tg (gM g' t is)) (ht : ∀ (s : Shared) (H : Hp) (C : Addr) (cl : List (Str × Addr)) (fp : List Addr), PCn g (X.blk s H scope (compEnvC scope cl C X.env) fp) ifs cnd)
    (he : ∀ (s : Shared) (H : Hp) (C : Addr) (cl : List (Str × Addr)) (fp : List Addr), ∀ g' : G, g.In g' → PE (X.blk s H scope (compEnvC scope cl C X.env) fp) elt (tE g' m)) (hs : ∀ x, foldedSetIterable iter X.env x = pure x := by intro _; rfl) (hiv : ∀ i ∈ is, i ∈ own.map (·.2) := by decide) :
    PE X (.ListComp elt [⟨tg, iter, ifs, 0⟩] scope pos) (tE g (mLc src t cnd m (own.map (·.2)))) :=
  pe_imp (pe_lc hc hN hi ok (fun s H C cl fp => pg_x (hg s H C cl fp)) (fun s H C cl fp => (ht s H C cl fp).run) (fun s H C cl fp => pe_x (he s H C cl fp)) hs) fun _ _ _ h => tLc_of hiv h
theorem ms_setLc (i : Nat) {y : Str} {py : Pos} {elt tg iter : Expr} {ifs : List Expr} {scope : Scope} {own : List (Str × Nat)} {spos : Pos} {src : M Src} {t : Tgt} {is : List Nat} {cnd : M Bool} {m : M D} (hc : X.calm = true) (hN : X.N.Nodup)
    (hsw : swapsWith (.ListComp elt [⟨tg, iter, ifs, 0⟩] scope pos) (some (.Name y py)) spos.line X.env = pure true) (ok : BlkOk X.N X.env.scope scope own) (hi : PI X tg iter (tI g src))
    (hg : ∀ (s : Shared) (H : Hp) (C : Addr) (cl : List (Str × Addr)) (fp : List Addr), ∀ g' : G, g.In g' → PG (X.blk s H scope (compEnvC scope cl C X.env) fp) tg (gM g' t is)) (ht : ∀ (s : Shared) (H : Hp) (C : Addr) (cl : List (Str × Addr)) (fp : List Addr), PCn g (X.blk s H scope (compEnvC scope cl C X.env) fp) ifs cnd)
    (he : ∀ (s : Shared) (H : Hp) (C : Addr) (cl : List (Str × Addr)) (fp : List Addr), ∀ g' : G, g.In g' → PE (X.blk s H scope (compEnvC scope cl C X.env) fp) elt (tE g' m)) (hy : X.N[i]? = some y := by rfl) (hyl : X.env.scope.names.lookup y = some .local := by rfl) (hs : ∀ x, foldedSetIterable iter X.env x = pure x := by intro _; rfl) (hiv : ∀ i ∈ is, i ∈ own.map (·.2) := by decide) :
    PS X (.Assign [.Name y py] (.ListComp elt [⟨tg, iter, ifs, 0⟩] scope pos) spos) (tS g (sSet i (mLc src t cnd m (own.map (·.2))))) := by
  refine ps_imp (ps_setLc hc hN hy hyl hsw hi ok (fun s H C cl fp => pg_x (hg s H C cl fp)) (fun s H C cl fp => (ht s H C cl fp).run) (fun s H C cl fp => pe_x (he s H C cl fp)) hs) fun D σ H h => ?_
  obtain ⟨c, env, own', r, e, h⟩ := h
  refine tLc_of hiv (tE.go r e h fun d o c' H' v s r' e' rd q => ?_)
  exact q c' H' _ s r' (e'.set rd i)
end
end Mir

set_option maxRecDepth 100000
set_option maxHeartbeats 4000000
namespace Mir
variable [Tab]
open PySem PySem.Spec PyProof.Rows L2
/-! ### defs: arguments, answers -/
/-- an argument: data, or a list that is lent -/
inductive Arg where
  | p (d : PyData) | l (xs : List PyData)
/-- an answer: data, or a new list -/
inductive Ret where
  | v (d : PyData) | l (xs : List PyData)
def ArgRel (fz H : Hp) (v : V) : Arg → Prop
  | .p d => Rp fz v d
  | .l xs => ∃ a vs, v = .ref a ∧ H a = some (.lst vs) ∧ Rps fz vs xs
inductive ArgsOk (fz H : Hp) : List V → List Arg → Prop
  | nil : ArgsOk fz H [] []
  | cons {v : V} {vs : List V} {a : Arg} {as : List Arg} : ArgRel fz H v a → ArgsOk fz H vs as → ArgsOk fz H (v :: vs) (a :: as)
theorem ArgsOk.length {fz H : Hp} : ∀ {vs : List V} {as : List Arg}, ArgsOk fz H vs as → vs.length = as.length
  | _, _, .nil => rfl
  | _, _, .cons _ t => by rw [List.length_cons, List.length_cons, t.length]
def lentsOf : List V → List Arg → List Addr
  | [], _ => []
  | _ :: _, [] => []
  | v :: vs, a :: as => match a with
    | .p _ => lentsOf vs as
    | .l _ => match v with
      | .ref b => b :: lentsOf vs as
      | _ => lentsOf vs as
/-- the tables left out -/
def nt (H : Hp) : Hp := fun b => match H b with
  | some (.tbl _) => none
  | o => o
theorem nt_same (H : Hp) : Same (nt H) H := fun b o e => by
  unfold nt at e
  split at e
  · cases e
  · exact e
theorem nt_ntb (H : Hp) : Ntb (nt H) := fun b ps e => by
  unfold nt at e
  split at e
  · cases e
  · rename_i h
    exact h _ e
theorem nt_at {H : Hp} {a : Addr} {o : HO} (h : H a = some o) (n : ∀ ps, o ≠ .tbl ps) : nt H a = some o := by
  unfold nt
  rw [h]
  split
  · rename_i e
    cases e
    exact absurd rfl (n _)
  · rfl
theorem nt_none {H : Hp} {a : Addr} (h : H a = none) : nt H a = none := by
  unfold nt
  rw [h]
theorem nt_up {H0 H : Hp} (s : Same H0 H) (n : Ntb H0) : Same H0 (nt H) := fun b o e => nt_at (s _ _ e) fun ps z => n b ps (by rw [e, z])
def RetOk (fz H H' : Hp) (v : V) (r : Ret) : Prop := ∃ fz', Ntb fz' ∧ Same fz fz' ∧ Same fz' H' ∧ (∀ (a : Addr) (us : List V), H a = some (.lst us) → fz a = none → fz' a = none) ∧ match r with
  | .v d => Rp fz' v d
  | .l xs => ∃ a vs, v = .ref a ∧ H a = none ∧ fz' a = none ∧ H' a = some (.lst vs) ∧ Rps fz' vs xs
abbrev Fn := List Arg → R Ret
/-- a def's promise: it does what f says, and leaves all as it stood -/
def spF (cls : Nat → Addr) (T : List (Addr × Str)) (n : Nat) (f : Fn) : Sp := fun vs H Q E => ∃ fz as, Ntb fz ∧ Same fz H ∧ LamX.Tabs T H ∧ ArgsOk fz H vs as ∧ as.length = n ∧ (lentsOf vs as).Nodup ∧ Post ⟨nt H, fz, lentsOf vs as, E, cls, T⟩ (f as) fun r _ => ∀ H' v, Same (nt H) H' → LamX.Tabs T H' → RetOk fz (nt H) H' v r → Q v H'
theorem spF_len {cls : Nat → Addr} {T : List (Addr × Str)} {n : Nat} {f : Fn} : ∀ vs H Q E, spF cls T n f vs H Q E → vs.length = n := fun vs H Q E ⟨fz, as, _, _, _, h, e, _⟩ => h.length.trans e
/-! ### a call -/
def toArg (d : D) (own : Own) : Option Arg := match d with
  | .p d => some (.p d)
  | .own k => match own[k]? with
    | some (.lst _ xs) => some (.l xs)
    | none => none
def toArgs : List D → Own → Option (List Arg)
  | [], _ => some []
  | d :: ds, own => match toArg d own with
    | none => none
    | some a => match toArgs ds own with
      | none => none
      | some as => some (a :: as)
def owns : List D → List Nat
  | [] => []
  | .p _ :: ds => owns ds
  | .own k :: ds => k :: owns ds
def nodupN : List Nat → Bool
  | [] => true
  | k :: ks => !(ks.any fun j => Nat.beq j k) && nodupN ks
theorem nodupN_ok : ∀ {ks : List Nat}, nodupN ks = true → ks.Nodup
  | [], _ => List.nodup_nil
  | k :: ks, h => by
    unfold nodupN at h
    rw [Bool.and_eq_true] at h
    refine List.nodup_cons.mpr ⟨fun hm => ?_, nodupN_ok h.2⟩
    have h1 := h.1
    have : (ks.any fun j => Nat.beq j k) = true := List.any_eq_true.mpr ⟨k, hm, by simp⟩
    rw [this] at h1
    cases h1
section
variable {g : G}
theorem toArgs_ok {H : Hp} {c : C} {own : Own} (r : RelH g c own H) : ∀ {ds : List D} {vs : List V} {as : List Arg}, RelDs c vs ds → toArgs ds own = some as →
    ArgsOk c.fz H vs as ∧ (lentsOf vs as).map some = (owns ds).map fun k => c.rho[k]?
  | [], _, _, .nil, h => by cases h; exact ⟨.nil, rfl⟩
  | d :: ds, _, as, .cons r1 t, h => by
    unfold toArgs at h
    split at h
    · cases h
    · rename_i a ea
      split at h
      · cases h
      · rename_i bs eb
        cases h
        obtain ⟨q1, q2⟩ := toArgs_ok r t eb
        cases d with
        | p x => cases ea; exact ⟨.cons r1 q1, q2⟩
        | own k =>
          obtain ⟨b, e, rfl⟩ := r1
          obtain ⟨cell, e1, z⟩ := r.cell e
          unfold toArg at ea
          simp only [e1] at ea
          cases cell with
          | lst m ys =>
            cases ea
            obtain ⟨us, h1, h2⟩ := z.list r.fz
            refine ⟨.cons ⟨b, us, rfl, h1, h2⟩ q1, ?_⟩
            show some b :: (lentsOf _ bs).map some = c.rho[k]? :: _
            rw [e, q2]
theorem lents_nodup {c : C} {ds : List D} {l : List Addr} (nd : c.rho.Nodup) (h : l.map some = (owns ds).map fun k => c.rho[k]?) (hk : (owns ds).Nodup) : l.Nodup := by
  rw [List.nodup_iff_pairwise_ne] at hk ⊢
  rw [List.pairwise_iff_getElem] at hk ⊢
  intro i j hi hj hij he
  have hl : l.length = (owns ds).length := by simpa using congrArg List.length h
  have at_ : ∀ (n : Nat) (hn : n < l.length), some l[n] = c.rho[(owns ds)[n]'(by omega)]? := fun n hn => by
    have := congrArg (fun z => z[n]?) h
    simp only [List.getElem?_map, List.getElem?_eq_getElem hn, List.getElem?_eq_getElem (show n < (owns ds).length by omega)] at this
    exact Option.some.inj this
  exact hk i j (by omega) (by omega) hij (nd_ix nd (at_ i hi).symm (by rw [he]; exact (at_ j hj).symm))
def mFn (n : Nat) (f : Fn) (m : M (List D)) : M D := fun env own => (m env own).bind fun ds o => match nodupN (owns ds) && Nat.beq ds.length n with
  | false => .bad
  | true => match toArgs ds o with
    | none => .bad
    | some as => (f as).bind fun r _ => match r with
      | .v d => .ok (.p d) o
      | .l xs => .ok (.own o.length) (o ++ [.lst .ours xs])
theorem toArgs_len : ∀ {ds : List D} {own : Own} {as : List Arg}, toArgs ds own = some as → as.length = ds.length
  | [], _, _, h => by cases h; rfl
  | d :: ds, own, as, h => by
    unfold toArgs at h
    split at h
    · cases h
    · split at h
      · cases h
      · rename_i bs eb
        cases h
        rw [List.length_cons, List.length_cons, toArgs_len eb]
theorem Post.exc {α β : Type} {g g' : G} {Q : α → Own → Prop} {Q' : α → Own → Prop} (h : ∀ a o, Q a o → Q' a o) (hx : ∀ k d, g.XOk k d → g'.XOk k d) : ∀ {r : R α}, Post g r Q → Post g' r Q'
  | .ok a o, q => h a o q
  | .bad, q => q
  | .exc k d, q => hx k d q
  | .draw n k, q => fun d hd => Post.exc (β := β) h hx (q d hd)
theorem CellOk.isl {c : C} {H : Hp} {a : Addr} {cell : Cell} (h : CellOk g c H a cell) (s : Same c.fz H) : ∃ vs, H a = some (.lst vs) := by
  cases h with
  | ours h1 => exact ⟨_, h1⟩
  | gone h1 => exact ⟨_, s _ _ h1⟩
  | lent h1 => exact ⟨_, h1⟩
  | lock h1 => exact ⟨_, h1⟩
/-- what a call's answer gives the caller -/
theorem ret_ok {c : C} {own : Own} {H H' : Hp} {v : V} {r : Ret} (rh : RelH g c own H) (s : Same (nt H) H') (tb : LamX.Tabs g.T H') (rt : RetOk c.fz (nt H) H' v r) : ∃ c', Step c c' ∧ match r with
    | .v d => RelH g c' own H' ∧ RelD c' v (.p d)
    | .l xs => RelH g c' (own ++ [.lst .ours xs]) H' ∧ RelD c' v (.own own.length) := by
  obtain ⟨fz', h0, h1, h2, h3, h4⟩ := rt
  have up := nt_up rh.same rh.nt0
  have base : RelH g ⟨fz', c.rho, c.lk⟩ own H' := by
    refine ⟨h2, up.trans s, rh.lnH, rh.nt0, h0, tb, rh.base.trans h1, fun a o e1 e2 => h3 a o (up _ _ e1) (rh.low a o e1 e2), rh.len, rh.nd, rh.lks, fun j a cell e1 e2 => ?_⟩
    have z := rh.cells j a cell e1 e2
    obtain ⟨us, eo⟩ := z.isl rh.fz
    have eo' := nt_at eo fun ps e => (by cases e)
    exact z.up h1 (fun o e => by rw [eo] at e; cases e; exact s _ _ eo') fun e => h3 a _ eo' e
  cases r with
  | v d => exact ⟨⟨fz', c.rho, c.lk⟩, ⟨⟨h1, [], by simp⟩, rfl⟩, base, h4⟩
  | l xs =>
    obtain ⟨a, vs, rfl, e1, e2, e3, e4⟩ := h4
    have hr : a ∉ c.rho := fun z => by
      obtain ⟨i, hi⟩ := List.mem_iff_getElem?.mp z
      obtain ⟨cell, _, w⟩ := rh.cell hi
      obtain ⟨us, eo⟩ := w.isl rh.fz
      rw [nt_at eo fun ps e => (by cases e)] at e1
      cases e1
    obtain ⟨c', s', r', d'⟩ := base.adopt e3 (Same.free up e1) e2 hr e4
    exact ⟨c', Step.trans (b := ⟨fz', c.rho, c.lk⟩) ⟨⟨h1, [], by simp⟩, rfl⟩ s', r', d'⟩
theorem sp_of {f : Fn} {m : M (List D)} {n : Nat} {σ : L2.St} {H : Hp} {Q : VK} (h : tE g (mFn n f m) σ H Q) : tA g m σ H fun vs H1 => spF g.cls g.T n f vs H1 Q g.E := by
  obtain ⟨c, env, own, r, e, h⟩ := h
  refine tA.go r e h fun ds o c1 H1 vs s1 r1 e1 rd q => ?_
  split at q
  · exact q.elim
  · rename_i hz
    rw [Bool.and_eq_true] at hz
    split at q
    · exact q.elim
    · rename_i as ea
      obtain ⟨q1, q2⟩ := toArgs_ok r1 rd ea
      refine ⟨c1.fz, as, r1.ntf, r1.fz, r1.tabs, q1, (toArgs_len ea).trans (Nat.eq_of_beq_eq_true hz.2), lents_nodup r1.nd q2 (nodupN_ok hz.1), ?_⟩
      refine Post.exc (β := D) (fun rt _ z H' v sm tb ok => ?_) (fun k d z => ?_) (Post.bind q)
      · obtain ⟨c2, s2, w⟩ := ret_ok r1 sm tb ok
        cases rt with
        | v d => exact z c2 H' v (s1.trans s2) w.1 w.2
        | l xs => exact z c2 H' v (s1.trans s2) w.1 w.2
      · exact fun H' dx v sm tb hn hx hv => z H' dx v ((nt_up r1.same r1.nt0).trans sm) tb (Same.free (nt_up r1.same r1.nt0) hn) hx hv
section
variable {X : Cx} {CX : CXT} {k : Nat} {f : Addr} {fd : FuncData} {ps : List Str} {x : Str} {p pos : Pos} {e : Expr} {es : List Expr} {m : M (List D)} {fn : Fn}
theorem me_call (F : FnOk X.prog X.w X.K X.mg X.base CX k f fd ps (spF g.cls g.T ps.length fn)) (hr : Room k X.A) (hg : Gl X x) (hm : X.mg x = some (.ref f)) (hk : PySem.W.keepIn X.K (.ref f) = true) (hb : Binds X.K fd ps []) (hx : Passes CX X g.E)
    (ha : PA X (e :: es) (tA g m)) (hdb : (x == ("__debug__" : Str)) = false := by decide) (he : starEach (e :: es) X.env = (false, eval e X.env) :: starEach es X.env := by rfl) (hpl : (backTo pos (starEach es X.env)).any (·.1) = false := by rfl) :
    PE X (.Call (.Name x p) (e :: es) [] pos) (tE g (mFn ps.length fn m)) := by
  refine pe_imp (pe_call F hr hg hm hk hb .nil hx ha hdb he hpl) fun σ H Q h => ?_
  have h2 := sp_of h
  obtain ⟨c, env, own, r, e, h3⟩ := h2
  refine ⟨c, env, own, r, e, Post.mono (fun ds o z c' H' vs s r' rd => ?_) h3⟩
  show spF g.cls g.T ps.length fn (vs ++ []) H' Q g.E
  rw [List.append_nil]
  exact z c' H' vs s r' rd
end

/-! ### a def -/
def env0 : List Arg → Nat → Env
  | [], _ => []
  | a :: as, k => match a with
    | .p d => some (.p d) :: env0 as k
    | .l _ => some (.own k) :: env0 as (k + 1)
def own0 : List Arg → Own
  | [] => []
  | a :: as => match a with
    | .p _ => own0 as
    | .l xs => .lst .lent xs :: own0 as
def retOf (d : D) (o : Own) : R Ret := match d with
  | .p d => .ok (.v d) []
  | .own k => match o[k]? with
    | some (.lst m xs) => match m with
      | .ours => .ok (.l xs) []
      | .lock => .ok (.l xs) []
      | .gone => .ok (.v (.list xs)) []
      | .lent => .bad
    | none => .bad
/-- the run of a def of as many slots -/
def runF (slots : Nat) (ms : MS) : Fn := fun as => (ms (env0 as 0 ++ List.replicate (slots - as.length) none) (own0 as)).bind fun f o => match f with
  | .rt d => retOf d o
  | .nx _ => .ok (.v .none) []
  | _ => .bad
theorem args_at {fz H : Hp} {L : List Addr} : ∀ {vs : List V} {as : List Arg} {pre : List Addr}, ArgsOk fz H vs as → L = pre ++ lentsOf vs as → ∀ (i : Nat) (d : D), (env0 as pre.length)[i]? = some (some d) → ∃ v, vs[i]? = some v ∧ RelD ⟨fz, L, []⟩ v d
  | _, _, _, .nil, _, i, d, h => by simp [env0] at h
  | v :: vs, a :: as, pre, .cons r t, hL, i, d, h => by
    cases a with
    | p x =>
      cases i with
      | zero =>
        simp [env0] at h
        subst h
        exact ⟨v, rfl, r⟩
      | succ i =>
        obtain ⟨w, e1, q⟩ := args_at (pre := pre) t hL i d (by simpa [env0] using h)
        exact ⟨w, by simpa using e1, q⟩
    | l xs =>
      obtain ⟨b, us, rfl, h1, h2⟩ := r
      have hL' : L = (pre ++ [b]) ++ lentsOf vs as := by rw [hL, List.append_assoc]; rfl
      cases i with
      | zero =>
        simp [env0] at h
        subst h
        refine ⟨_, rfl, b, ?_, rfl⟩
        show L[pre.length]? = some b
        rw [hL]
        show (pre ++ (b :: lentsOf vs as))[pre.length]? = some b
        simp
      | succ i =>
        obtain ⟨w, e1, q⟩ := args_at (pre := pre ++ [b]) t hL' i d (by simpa [env0] using h)
        exact ⟨w, by simpa using e1, q⟩
theorem env0_len : ∀ (as : List Arg) (k : Nat), (env0 as k).length = as.length
  | [], _ => rfl
  | a :: as, k => by cases a <;> simp [env0, env0_len as]
theorem own0_len {fz H : Hp} : ∀ {vs : List V} {as : List Arg}, ArgsOk fz H vs as → (lentsOf vs as).length = (own0 as).length
  | _, _, .nil => rfl
  | v :: vs, a :: as, .cons r t => by
    cases a with
    | p x =>
      show (lentsOf vs as).length = (own0 as).length
      exact own0_len t
    | l xs =>
      obtain ⟨b, us, rfl, h1, h2⟩ := r
      show (lentsOf vs as).length + 1 = (own0 as).length + 1
      rw [own0_len t]
theorem own0_at {g : G} {fz H : Hp} {L : List Addr} : ∀ {vs : List V} {as : List Arg}, ArgsOk fz H vs as → (∀ a ∈ lentsOf vs as, a ∈ g.ln) → ∀ (k : Nat) (a : Addr) (cell : Cell), (lentsOf vs as)[k]? = some a → (own0 as)[k]? = some cell → CellOk g ⟨fz, L, []⟩ H a cell
  | _, _, .nil, _, k, a, cell, h, _ => by simp [lentsOf] at h
  | v :: vs, x :: as, .cons r t, hg, k, a, cell, h, h' => by
    cases x with
    | p x => exact own0_at t hg k a cell h h'
    | l xs =>
      obtain ⟨b, us, rfl, h1, h2⟩ := r
      cases k with
      | zero =>
        have e1 : b = a := by simpa [lentsOf] using h
        have e2 : Cell.lst .lent xs = cell := by simpa [own0] using h'
        subst e1 e2
        exact .lent h1 h2 (hg b (by simp [lentsOf]))
      | succ k => exact own0_at t (fun a ha => hg a (by simp [lentsOf, ha])) k a cell (by simpa [lentsOf] using h) (by simpa [own0] using h')
theorem lents_at {fz H : Hp} : ∀ {vs : List V} {as : List Arg}, ArgsOk fz H vs as → ∀ a ∈ lentsOf vs as, ∃ us, H a = some (.lst us)
  | _, _, .nil, a, h => by simp [lentsOf] at h
  | v :: vs, x :: as, .cons r t, a, h => by
    cases x with
    | p x => exact lents_at t a h
    | l xs =>
      obtain ⟨b, us, rfl, h1, h2⟩ := r
      rcases List.mem_cons.mp (show a ∈ b :: lentsOf vs as from h) with e | e
      · exact ⟨_, e ▸ h1⟩
      · exact lents_at t a e
/-- a def's body, run at its arguments -/
theorem def_run {g : G} {H : Hp} {ms : MS} {slots : Nat} {N : List Str} {fz : Hp} {as : List Arg} {vs : List V} {Q : VK} (hN : N.length = slots) (hle : as.length ≤ slots) (hH : g.H0 = nt H) (nf : Ntb fz) (sf : Same fz H) (tb : LamX.Tabs g.T H) (ha : ArgsOk fz H vs as) (hnd : (lentsOf vs as).Nodup) (hg : g.fz0 = fz) (hln : g.ln = lentsOf vs as)
    (h : Post g (runF slots ms as) fun r _ => ∀ H' v, Same g.H0 H' → LamX.Tabs g.T H' → RetOk fz g.H0 H' v r → Q v H') : tS g ms { nx := fun _ H' => Q .non H', rt := Q } (L2.start N vs) H := by
  refine ⟨⟨fz, lentsOf vs as, []⟩, env0 as 0 ++ List.replicate (slots - as.length) none, own0 as, ⟨sf, by rw [hH]; exact nt_same H, fun a ha' => ?_, by rw [hH]; exact nt_ntb H, nf, tb, by rw [hg]; exact Same.refl _, fun a o e1 e2 => by rw [hg] at e2; exact e2, own0_len ha, hnd, fun k xs hk => (by cases hk), own0_at ha fun a h => by rw [hln]; exact h⟩, ⟨?_, ?_⟩, ?_⟩
  · obtain ⟨o, e⟩ := lents_at ha a (by rw [hln] at ha'; exact ha')
    rw [hH]
    exact ⟨_, nt_at e (fun ps z => (by cases z))⟩
  · unfold L2.start
    simp [env0_len, ha.length, hN]
  · intro i d hi
    unfold L2.start
    by_cases hlt : i < as.length
    · rw [List.getElem?_append_left (by rw [env0_len]; exact hlt)] at hi
      obtain ⟨v, e1, q⟩ := args_at (pre := []) (L := lentsOf vs as) ha rfl i d hi
      refine ⟨v, ?_, q⟩
      rw [List.getElem?_append_left (by rw [List.length_map, ha.length]; exact hlt), List.getElem?_map, e1]
      rfl
    · rw [List.getElem?_append_right (by rw [env0_len]; omega)] at hi
      rw [List.getElem?_replicate] at hi
      split at hi <;> cases hi
  · refine Post.mono (fun f o q => ?_) (Post.bind h)
    have fin : ∀ {c' : C} {H' : Hp} {v : V} {d : PyData}, Step ⟨fz, lentsOf vs as, []⟩ c' → RelH g c' o H' → Rp c'.fz v d → RetOk fz g.H0 H' v (.v d) := fun {c' H' v d} s r rp => ⟨c'.fz, r.ntf, s.fz, r.fz, fun a o e1 e2 => r.low a o e1 (by rw [hg]; exact e2), rp⟩
    cases f with
    | nx e => exact fun c' H' σ' s r _ => q H' .non r.same r.tabs (fin s r .non)
    | rt d =>
      intro c' H' v s r rd
      cases d with
      | p d => exact q H' v r.same r.tabs (fin s r rd)
      | own k =>
        obtain ⟨a, ea, rfl⟩ := rd
        obtain ⟨cell, e1, z⟩ := r.cell ea
        have q : Post g (retOf (.own k) o) fun r _ => ∀ H' v, Same g.H0 H' → LamX.Tabs g.T H' → RetOk fz g.H0 H' v r → Q v H' := q
        unfold retOf at q
        simp only [e1] at q
        cases z with
        | ours h1 h2 h3 h4 => exact q H' _ r.same r.tabs ⟨c'.fz, r.ntf, s.fz, r.fz, fun a o e1 e2 => r.low a o e1 (by rw [hg]; exact e2), a, _, rfl, h3, h4, h1, h2⟩
        | lock h1 h2 h3 h4 => exact q H' _ r.same r.tabs ⟨c'.fz, r.ntf, s.fz, r.fz, fun a o e1 e2 => r.low a o e1 (by rw [hg]; exact e2), a, _, rfl, h3, h4, h1, h2⟩
        | gone h1 h2 => exact q H' _ r.same r.tabs (fin s r (.lst h1 h2))
        | lent => exact q.elim
    | bk e => exact q.elim
    | ct e => exact q.elim
/-- THE RULE for a def -/
theorem md_fn {P : Program} {w : World} {K : PySem.W.Frag} {mg : Str → Option Value} {base : Heap} {CX : CXT} {x qual : Str} {params : Arguments} {body : List Stmt} {scope : Scope} {f : Addr} {fd : FuncData} {N ps : List Str} {k slots : Nat} {ms : MS} {cls : Nat → Addr} {T : List (Addr × Str)}
    {dvs : List V} {kws : List (Str × V)} (F : FunD K x qual params body scope dvs kws f fd) (S : FnScope N ps scope) (hN : N.length = slots)
    (hb : ∀ (cdv : Value) (A : Around) (outer : List PySem.Env) (s : Shared) (H : Hp) (E : XK), Room k (A.deeper (envOfC qual scope s.heap.objs.size f cdv)) → ∀ g : G, g.E = E → g.cls = cls → g.T = T → PSs (cxOf CX P w K mg base N qual scope f cdv A outer s H E) body (tS g ms)) :
    FnOk P w K mg base CX (k + 1) f fd ps (spF cls T ps.length (runF slots ms)) := by
  have hle : ps.length ≤ slots := by
    have := congrArg List.length S.pre
    rw [List.length_take] at this
    omega
  refine F.ok S spF_len fun cdv A outer s H vs Q E hr hsp => ?_
  obtain ⟨fz, as, h0, h1, ht, h2, h3, h4, h5⟩ := hsp
  exact ⟨tS ⟨nt H, fz, lentsOf vs as, E, cls, T⟩ ms, hb cdv A outer s H E hr _ rfl rfl rfl, def_run (g := ⟨nt H, fz, lentsOf vs as, E, cls, T⟩) hN (by rw [h3]; exact hle) rfl h0 h1 ht h2 h4 rfl rfl h5⟩
end
end Mir

set_option maxRecDepth 100000
set_option maxHeartbeats 4000000
namespace Mir
variable [Tab]
open PySem PySem.Spec PyProof.Rows L2
/-! ### the order of data -/
def rLt : List PyData → List PyData → Bool
  | x :: xs, y :: ys => match x, y with
    | .int i, .int j => if i = j then rLt xs ys else decide (i < j)
    | x, y => PyProof.Rows.lexLt itemOrd (PySem.W.keyToksAll (x :: xs)) (PySem.W.keyToksAll (y :: ys))
  | xs, ys => PyProof.Rows.lexLt itemOrd (PySem.W.keyToksAll xs) (PySem.W.keyToksAll ys)
def pLt (x y : PyData) : Bool := match x, y with
  | .int i, .int j => decide (i < j)
  | .tuple xs, .tuple ys => rLt xs ys
  | x, y => PySem.W.dataLt x y
theorem lt_int (i j : Int) : PySem.W.dataLt (.int i) (.int j) = decide (i < j) := by
  have := PySem.W.dataLe_int (β := Int) id
  have h := congrFun (congrFun this j) i
  have h2 : (!PySem.W.dataLt (.int i) (.int j)) = decide (j ≤ i) := h
  have h3 : decide (j ≤ i) = !decide (i < j) := by
    by_cases hh : i < j
    · simp [hh]
    · simp [hh, Int.not_lt.mp hh]
  rw [h3] at h2
  cases hA : PySem.W.dataLt (.int i) (.int j) <;> rw [hA] at h2 <;> cases hB : decide (i < j) <;> simp_all
theorem rLt_eq : ∀ xs ys : List PyData, rLt xs ys = PyProof.Rows.lexLt itemOrd (PySem.W.keyToksAll xs) (PySem.W.keyToksAll ys)
  | [], ys => by unfold rLt; rfl
  | x :: xs, [] => by unfold rLt; rfl
  | x :: xs, y :: ys => by
    unfold rLt
    split
    · rename_i i j
      rw [PySem.W.dataLt_cons (x := .int i) (y := .int j) (by simp [PySem.W.alike]), rLt_eq xs ys, lt_int]
      by_cases h : i = j
      · subst h
        simp [PyData.eqv]
      · simp [PyData.eqv, h]
    · rfl
theorem pLt_eq (x y : PyData) : pLt x y = PySem.W.dataLt x y := by
  unfold pLt
  split
  · exact (lt_int _ _).symm
  · rename_i xs ys
    rw [rLt_eq]
    show _ = PyProof.Rows.lexLt itemOrd (PySem.W.keyToks (.tuple xs)) (PySem.W.keyToks (.tuple ys))
    rw [PySem.W.keyToks, PySem.W.keyToks]
  · rfl
/-! ### sorting -/
def insP (x : PyData) : List PyData → List PyData
  | [] => [x]
  | y :: ys => match pLt y x with
    | true => y :: insP x ys
    | false => x :: y :: ys
def sortP : List PyData → List PyData
  | [] => []
  | x :: xs => insP x (sortP xs)
abbrev leP : PyData → PyData → Bool := PySem.W.dataLe false id
theorem leP_eq (x y : PyData) : leP x y = !pLt y x := by
  rw [pLt_eq]
  rfl
theorem leP_total : PySem.W.TotalLe leP := PySem.W.sortLe_total (listOrd itemOrd) false fun b : PyData => PySem.W.keyToks (id b)
theorem insP_mem {x z : PyData} : ∀ {l : List PyData}, z ∈ insP x l ↔ z = x ∨ z ∈ l
  | [] => by simp [insP]
  | y :: ys => by
    unfold insP
    split
    · rw [List.mem_cons, insP_mem (l := ys), List.mem_cons]
      constructor
      · rintro (h | h | h)
        · exact .inr (.inl h)
        · exact .inl h
        · exact .inr (.inr h)
      · rintro (h | h | h)
        · exact .inr (.inl h)
        · exact .inl h
        · exact .inr (.inr h)
    · rw [List.mem_cons]
theorem insP_ord {x : PyData} : ∀ {l : List PyData}, l.Pairwise (fun a b => leP a b = true) → (insP x l).Pairwise fun a b => leP a b = true
  | [], _ => by simp [insP]
  | y :: ys, h => by
    rw [List.pairwise_cons] at h
    unfold insP
    split
    · rename_i hl
      rw [List.pairwise_cons]
      refine ⟨fun z hz => ?_, insP_ord h.2⟩
      rcases insP_mem.mp hz with rfl | hz
      · rcases leP_total.total y z with q | q
        · exact q
        · rw [leP_eq, hl] at q
          cases q
      · exact h.1 z hz
    · rename_i hl
      have hxy : leP x y = true := by rw [leP_eq, hl]; rfl
      refine List.pairwise_cons.mpr ⟨fun z hz => ?_, List.pairwise_cons.mpr h⟩
      rcases List.mem_cons.mp hz with rfl | hz
      · exact hxy
      · exact leP_total.trans _ _ _ hxy (h.1 z hz)
theorem insP_filter {x c : PyData} : ∀ {l : List PyData}, (insP x l).filter (PySem.W.sameRank leP c) = (x :: l).filter (PySem.W.sameRank leP c)
  | [] => rfl
  | y :: ys => by
    unfold insP
    split
    · rename_i hl
      rw [List.filter_cons, insP_filter (l := ys), List.filter_cons, List.filter_cons, List.filter_cons]
      cases hx : PySem.W.sameRank leP c x with
      | false => rfl
      | true =>
        cases hy : PySem.W.sameRank leP c y with
        | false => rfl
        | true =>
          have h1 : leP c x = true ∧ leP x c = true := by simpa [PySem.W.sameRank] using hx
          have h2 : leP c y = true ∧ leP y c = true := by simpa [PySem.W.sameRank] using hy
          have h3 := leP_total.trans _ _ _ h1.2 h2.1
          rw [leP_eq, hl] at h3
          cases h3
    · rfl
theorem sortP_ord : ∀ l : List PyData, (sortP l).Pairwise fun a b => leP a b = true
  | [] => List.Pairwise.nil
  | x :: xs => insP_ord (sortP_ord xs)
theorem sortP_filter (c : PyData) : ∀ l : List PyData, (sortP l).filter (PySem.W.sameRank leP c) = l.filter (PySem.W.sameRank leP c)
  | [] => rfl
  | x :: xs => by
    unfold sortP
    rw [insP_filter, List.filter_cons, sortP_filter c xs, List.filter_cons]
theorem sortP_eq (l : List PyData) : sortP l = l.mergeSort leP := PySem.W.sort_unique leP_total (sortP_ord l) fun c => sortP_filter c l
/-! ### what can be sorted -/
def isI : PyData → Bool
  | .int _ => true
  | _ => false
def isRow : PyData → Bool
  | .tuple xs => xs.all isI
  | _ => false
def isRow1 : PyData → Bool
  | .tuple [] => false
  | .tuple xs => xs.all isI
  | _ => false
def isT1 : PyData → Bool
  | .tuple (_ :: _) => true
  | _ => false
def isNT : PyData → Bool
  | .tuple _ => false
  | .none => false
  | _ => true
def alikeP (xs : List PyData) : Bool := xs.all isI || xs.all isRow || (xs.all fun x => xs.all fun y => PySem.W.alike x y)
theorem alikeAll_isI : ∀ {xs ys : List PyData}, xs.all isI = true → ys.all isI = true → PySem.W.alikeAll xs ys = true
  | [], _, _, _ => by simp [PySem.W.alikeAll]
  | _ :: _, [], _, _ => by simp [PySem.W.alikeAll]
  | x :: xs, y :: ys, h, h' => by
    rw [List.all_cons, Bool.and_eq_true] at h h'
    rw [PySem.W.alikeAll, alikeAll_isI h.2 h'.2]
    cases x <;> cases y <;> simp [isI] at h h' <;> simp [PySem.W.alike]
theorem isRow_inv {d : PyData} (h : isRow d = true) : ∃ xs, d = .tuple xs ∧ xs.all isI = true := by
  cases d with
  | tuple xs => exact ⟨xs, rfl, h⟩
  | _ => cases h
theorem alikeP_ok {xs : List PyData} (h : alikeP xs = true) : PySem.W.AllAlike xs := by
  unfold alikeP at h
  rw [Bool.or_eq_true, Bool.or_eq_true] at h
  intro d hd d' hd'
  rcases h with (h | h) | h
  · have h1 := List.all_eq_true.mp h d hd
    have h2 := List.all_eq_true.mp h d' hd'
    cases d <;> cases d' <;> simp [isI] at h1 h2 <;> simp [PySem.W.alike]
  · have h1 := List.all_eq_true.mp h d hd
    have h2 := List.all_eq_true.mp h d' hd'
    obtain ⟨xs, rfl, h1⟩ := isRow_inv h1
    obtain ⟨ys, rfl, h2⟩ := isRow_inv h2
    rw [PySem.W.alike]
    exact alikeAll_isI h1 h2
  · exact List.all_eq_true.mp (List.all_eq_true.mp h d hd) d' hd'
def shallow (xs : List PyData) : Bool := xs.all isI || xs.all isRow || xs.all fun x => Nat.ble x.depth 50
theorem depth_isI : ∀ {xs : List PyData}, xs.all isI = true → PyData.depthAll xs = 0
  | [], _ => by simp [PyData.depthAll]
  | x :: xs, h => by
    rw [List.all_cons, Bool.and_eq_true] at h
    rw [PyData.depthAll, depth_isI h.2]
    cases x <;> simp [isI] at h <;> simp [PyData.depth]
theorem shallow_ok {xs : List PyData} (h : shallow xs = true) : ∀ x ∈ xs, x.depth ≤ 50 := by
  unfold shallow at h
  rw [Bool.or_eq_true, Bool.or_eq_true] at h
  intro d hd
  rcases h with (h | h) | h
  · have h1 := List.all_eq_true.mp h d hd
    cases d <;> simp [isI] at h1 <;> simp [PyData.depth]
  · have h1 := List.all_eq_true.mp h d hd
    obtain ⟨xs, rfl, h1⟩ := isRow_inv h1
    rw [PyData.depth, depth_isI h1]
    decide
  · exact Nat.le_of_ble_eq_true (List.all_eq_true.mp h d hd)
def plainP (xs : List PyData) : Bool := xs.all isI || xs.all isRow || PyData.plainAll xs
theorem plain_isI : ∀ {xs : List PyData}, xs.all isI = true → PyData.plainAll xs = true
  | [], _ => by simp [PyData.plainAll]
  | x :: xs, h => by
    rw [List.all_cons, Bool.and_eq_true] at h
    rw [PyData.plainAll, plain_isI h.2]
    cases x <;> simp [isI] at h <;> simp [PyData.plain]
theorem plain_isRow : ∀ {xs : List PyData}, xs.all isRow = true → PyData.plainAll xs = true
  | [], _ => by simp [PyData.plainAll]
  | x :: xs, h => by
    rw [List.all_cons, Bool.and_eq_true] at h
    rw [PyData.plainAll, plain_isRow h.2]
    obtain ⟨ys, rfl, h1⟩ := isRow_inv h.1
    simp [PyData.plain, plain_isI h1]
theorem plainP_ok {xs : List PyData} (h : plainP xs = true) : PyData.plainAll xs = true := by
  unfold plainP at h
  rw [Bool.or_eq_true, Bool.or_eq_true] at h
  rcases h with (h | h) | h
  · exact plain_isI h
  · exact plain_isRow h
  · exact h
def sortable (xs : List PyData) : Bool := (xs.all isT1 || xs.all isNT) && (alikeP xs && (shallow xs && plainP xs))
/-! ### sorted -/
section
variable {X : Cx} {g : G}
theorem Rps.each {H : Hp} : ∀ {ds : List PyData} {vs : List V} {us : List Value}, Rps H vs ds → Vals vs us → PySem.W.EachIs (fun u d => ∃ v, L2.RelV v u ∧ Rp H v d) us ds
  | [], _, _, h, r => by
    cases h
    cases r
    exact .nil
  | d :: ds, _, _, h, r => by
    cases h with
    | cons h1 h2 => cases r with
      | cons r1 r2 => exact .cons ⟨_, r1, h1⟩ (Rps.each h2 r2)
theorem Rps.ofEach {H : Hp} : ∀ {us : List Value} {ds : List PyData}, PySem.W.EachIs (fun u d => ∃ v, L2.RelV v u ∧ Rp H v d) us ds → ∃ vs, Vals vs us ∧ Rps H vs ds
  | _, _, .nil => ⟨[], .nil, .nil⟩
  | _, _, .cons ⟨v, r, h⟩ t => by
    obtain ⟨vs, r', h'⟩ := Rps.ofEach t
    exact ⟨v :: vs, .cons r r', .cons h h'⟩
def rSortedD (K : PySem.W.Frag) : List V → Hp → VK → Prop := fun vs H Q => ∃ (a : Addr) (fz : Hp) (xs : List V) (ds : List PyData), vs = [V.ref a] ∧ (SqL K H a xs ∨ SqT K H a xs) ∧ Same fz H ∧ Rps fz xs ds ∧ sortable ds = true ∧
  ∀ (us : List V) (p : Addr), Rps fz us (sortP ds) → H p = none → Q (.ref p) (upd H p (.lst us))
theorem cr_sortedDL (hu : X.A.units + 64 < cLine) : CallR X (.builtin "sorted") fun vs H Q => ∃ (a : Addr) (fz : Hp) (xs : List V) (ds : List PyData), vs = [V.ref a] ∧ SqL X.K H a xs ∧ Same fz H ∧ Rps fz xs ds ∧ sortable ds = true ∧
  ∀ (us : List V) (p : Addr), Rps fz us (sortP ds) → H p = none → Q (.ref p) (upd H p (.lst us)) := by
  intro pins s σ H vs us Q I r h
  obtain ⟨a, fz, xs, ds, rfl, hs, sf, rp, hz, q⟩ := h
  unfold sortable at hz
  simp only [Bool.and_eq_true] at hz
  obtain ⟨hz1, hz2, hz3, hz4⟩ := hz
  obtain ⟨its, rv, hl, hlen⟩ := I.list hs
  rw [Vals.ref1 r]
  obtain ⟨as, hr⟩ := Dp.readsAll I ds _ its ((Rps.mono sf rp).dp (plainP_ok hz4)) rv
  have er : PySem.W.EachIs (fun v b => ∃ as, Reads s.heap v (id b) as) its ds := PySem.W.readsAll_each id (by rw [List.map_id]; exact hr)
  refine PySem.W.sorted_data (enc := id) hl.isList (Rps.each rp rv) er (by rw [List.map_id]; exact alikeP_ok hz2) ?_ (by rw [← rp.length]; exact hlen) (fun b hb => ?_) fun out hol he => ?_
  · rw [List.map_id]
    rw [Bool.or_eq_true] at hz1
    rcases hz1 with h1 | h1
    · refine .inl fun d hd => ?_
      have := List.all_eq_true.mp h1 d hd
      cases d with
      | tuple ys => cases ys with
        | nil => cases this
        | cons y ys => exact ⟨y, ys, rfl⟩
      | _ => cases this
    · refine .inr fun d hd => ?_
      have := List.all_eq_true.mp h1 d hd
      exact ⟨fun e => (by subst e; cases this), fun ys e => (by subst e; cases this)⟩
  · have := shallow_ok hz3 b hb
    show X.A.units + 2 + b.depth < cLine
    omega
  · rw [← sortP_eq] at he
    obtain ⟨ws, rw', rq⟩ := Rps.ofEach he
    obtain ⟨ep, he'⟩ := PyProof.Rows.sortedAll_at s.heap its out.toArray
    have hl2 : ws.length ≤ sizeLine := by
      rw [rw'.length, hol, ← rp.length]
      exact hlen
    exact ⟨.ref _, upd H (s.heap.objs.size + 1) (.lst ws), I.laid (t' := s.toks) (fun _ _ => PyProof.Rows.sortedAll_old) (Nat.le_succ _) ⟨hl2, out, ep, rw', he'⟩, rfl, q _ _ rq (I.hok.fresh (Nat.le_succ _))⟩
def fSorted : List D → Own → R D := one1 fun d own => match lv d own with
  | some xs => match sortable xs with
    | true => .ok (.own own.length) (own ++ [.lst .ours (sortP xs)])
    | false => .bad
  | none => .bad
theorem cm_sorted (hu : X.A.units + 64 < cLine) : CallR X (.builtin "sorted") (rC g fSorted) := by
  refine CallR.imp (cr_sortedDL hu) fun xs H Q h0 => ?_
  obtain ⟨c, own, x, d, rfl, r, rd, h⟩ := rC_one h0
  split at h
  · rename_i ys e
    split at h
    · rename_i hz
      obtain ⟨a, vs, rfl, h1, h2⟩ := lv_ok r rd e
      refine ⟨a, c.fz, vs, ys, rfl, SqL.of h1, r.fz, h2, hz, fun us p rq hp => ?_⟩
      obtain ⟨c', s, r', q⟩ := r.new hp rq
      exact h c' _ _ s r' q
    · exact h.elim
  · exact h.elim
/-! ### min, max of a list -/
def bestable (xs : List PyData) : Bool := alikeP xs && (shallow xs && (plainP xs && xs.all fun x => match x with | .none => false | _ => true))
theorem alike_of {xs : List PyData} (h : bestable xs = true) : PySem.W.AlikeAll xs ∧ PyData.depthAll xs ≤ 50 ∧ PyData.plainAll xs = true := by
  unfold bestable at h
  simp only [Bool.and_eq_true] at h
  obtain ⟨h1, h2, h3, h4⟩ := h
  refine ⟨⟨alikeP_ok h1, fun x hx e => ?_⟩, ?_, plainP_ok h3⟩
  · have := List.all_eq_true.mp h4 x hx
    subst e
    cases this
  · have := shallow_ok h2
    clear h1 h2 h3 h4
    induction xs with
    | nil => simp [PyData.depthAll]
    | cons x xs ih =>
      rw [PyData.depthAll]
      have h1 := this x (List.mem_cons_self ..)
      have h2 := ih fun y hy => this y (List.mem_cons_of_mem _ hy)
      omega
def minP (x : PyData) (xs : List PyData) : PyData := xs.foldl (fun a y => if pLt y a then y else a) x
def maxP (x : PyData) (xs : List PyData) : PyData := xs.foldl (fun a y => if pLt a y then y else a) x
theorem minP_eq (x : PyData) (xs : List PyData) : minP x xs = PySem.W.minD x xs := by
  unfold minP PySem.W.minD
  have : (fun a y => if pLt y a = true then y else a) = fun a y => if PySem.W.dataLt y a = true then y else a := by
    funext a y
    rw [pLt_eq]
  rw [this]
theorem maxP_eq (x : PyData) (xs : List PyData) : maxP x xs = PySem.W.maxD x xs := by
  unfold maxP PySem.W.maxD
  have : (fun a y => if pLt a y = true then y else a) = fun a y => if PySem.W.dataLt a y = true then y else a := by
    funext a y
    rw [pLt_eq]
  rw [this]
theorem fold_mem {f : PyData → PyData → Bool} : ∀ (xs : List PyData) (x : PyData), xs.foldl (fun a y => if f y a = true then y else a) x ∈ x :: xs
  | [], x => by simp
  | y :: ys, x => by
    rw [List.foldl_cons]
    have := fold_mem (f := f) ys (if f y x = true then y else x)
    rcases List.mem_cons.mp this with e | h
    · rw [e]
      split
      · simp
      · simp
    · exact List.mem_cons_of_mem _ (List.mem_cons_of_mem _ h)
theorem plain_mem : ∀ {xs : List PyData}, PyData.plainAll xs = true → ∀ x ∈ xs, x.plain = true
  | [], _, x, h => absurd h (by simp)
  | y :: ys, p, x, h => by
    simp only [PyData.plainAll, Bool.and_eq_true] at p
    rcases List.mem_cons.mp h with e | h
    · exact e ▸ p.1
    · exact plain_mem p.2 x h
/-- the item at a place reads as its data alone -/
theorem pick_one {fz : Hp} {pins : List (Addr × Obj)} {σ : L2.St} {H : Hp} {s : Shared} {its : List Value} {ds : List PyData} {xs : List V} {i : Nat} {v : Value} {d : PyData} {h' : Heap} {bs : List Addr} (I : Inv X pins σ H s) (sf : Same fz H) (rp : Rps fz xs ds) (rv : Vals xs its) (hp : PyData.plainAll ds = true)
    (hv : its[i]? = some v) (hd : d ∈ ds) (hr : Reads h' v d bs) (hk : ∀ b o, s.heap.get? b = some o → h'.get? b = some o) : ∃ x, L2.RelV x v ∧ Rp fz x d := by
  have hlt : i < ds.length := by
    have := (List.getElem?_eq_some_iff.mp hv).1
    have h1 := rv.length
    have h2 := rp.length
    omega
  obtain ⟨x, ex, rx⟩ := rp.get (List.getElem?_eq_getElem hlt)
  obtain ⟨w, ew, rw'⟩ := rv.get ex
  rw [hv] at ew
  cases ew
  have hpi := plain_mem hp _ (List.getElem_mem hlt)
  obtain ⟨as, h1⟩ := Dp.reads I ds[i] x v ((Rp.mono sf rx).dp hpi) rw'
  have e := SeqAt.plain_unique d ds[i] v _ _ (plain_mem hp _ hd) hr (PyProof.Rows.Reads.keeps hk h1)
  exact ⟨x, rw', e ▸ rx⟩
def rBest (K : PySem.W.Frag) (best : PyData → List PyData → PyData) : List V → Hp → VK → Prop := fun vs H Q => ∃ (a : Addr) (fz : Hp) (xs : List V) (d : PyData) (ds : List PyData), vs = [V.ref a] ∧ (SqL K H a xs ∨ SqT K H a xs) ∧ Same fz H ∧ Rps fz xs (d :: ds) ∧ bestable (d :: ds) = true ∧ ∀ x, Rp fz x (best d ds) → Q x H
theorem cr_minD (hc : X.calm = true) (hu : X.A.units + 64 < cLine) : CallR X (.builtin "min") (rBest X.K minP) := by
  intro pins s σ H vs us Q I r h
  obtain ⟨a, fz, xs, d, ds, rfl, hs, sf, rp, hz, q⟩ := h
  obtain ⟨z1, z2, z3⟩ := alike_of hz
  rw [Vals.ref1 r]
  have hm : PySem.W.minD d ds ∈ d :: ds := fold_mem (f := fun y a => PySem.W.dataLt y a) ds d
  rcases hs with hs | hs
  · obtain ⟨its, rv, hl, hlen⟩ := I.list hs
    obtain ⟨as, hr⟩ := Dp.readsAll I (d :: ds) _ its ((Rps.mono sf rp).dp z3) rv
    refine PySem.W.min_list_data (I.ok.hd hc) hl.isList hr z1 (by omega) fun i v h' tk bs hv hr' hk => ?_
    obtain ⟨x, r1, r2⟩ := pick_one I sf rp rv z3 (by simpa using hv) hm hr' hk
    exact ⟨x, H, I.kept hk, r1, q x (by rw [minP_eq]; exact r2)⟩
  · obtain ⟨its, rv, hl, hlen⟩ := I.tuple hs
    obtain ⟨as, hr⟩ := Dp.readsAll I (d :: ds) _ its ((Rps.mono sf rp).dp z3) rv
    refine PySem.W.min_tuple_data (I.ok.hd hc) hl hr z1 (by omega) fun i v h' tk bs hv hr' hk => ?_
    obtain ⟨x, r1, r2⟩ := pick_one I sf rp rv z3 (by simpa using hv) hm hr' hk
    exact ⟨x, H, I.kept hk, r1, q x (by rw [minP_eq]; exact r2)⟩
theorem cr_maxD (hc : X.calm = true) (hu : X.A.units + 64 < cLine) : CallR X (.builtin "max") (rBest X.K maxP) := by
  intro pins s σ H vs us Q I r h
  obtain ⟨a, fz, xs, d, ds, rfl, hs, sf, rp, hz, q⟩ := h
  obtain ⟨z1, z2, z3⟩ := alike_of hz
  rw [Vals.ref1 r]
  have hm : PySem.W.maxD d ds ∈ d :: ds := fold_mem (f := fun y a => PySem.W.dataLt a y) ds d
  rcases hs with hs | hs
  · obtain ⟨its, rv, hl, hlen⟩ := I.list hs
    obtain ⟨as, hr⟩ := Dp.readsAll I (d :: ds) _ its ((Rps.mono sf rp).dp z3) rv
    refine PySem.W.max_list_data (I.ok.hd hc) hl.isList hr z1 (by omega) fun i v h' tk bs hv hr' hk => ?_
    obtain ⟨x, r1, r2⟩ := pick_one I sf rp rv z3 (by simpa using hv) hm hr' hk
    exact ⟨x, H, I.kept hk, r1, q x (by rw [maxP_eq]; exact r2)⟩
  · obtain ⟨its, rv, hl, hlen⟩ := I.tuple hs
    obtain ⟨as, hr⟩ := Dp.readsAll I (d :: ds) _ its ((Rps.mono sf rp).dp z3) rv
    refine PySem.W.max_tuple_data (I.ok.hd hc) hl hr z1 (by omega) fun i v h' tk bs hv hr' hk => ?_
    obtain ⟨x, r1, r2⟩ := pick_one I sf rp rv z3 (by simpa using hv) hm hr' hk
    exact ⟨x, H, I.kept hk, r1, q x (by rw [maxP_eq]; exact r2)⟩
def fBest (best : PyData → List PyData → PyData) (b2 : Int → Int → Int) : List D → Own → R D := fun ds own => match ds with
  | [d] => match sv d own with
    | some (x :: xs) => match bestable (x :: xs) with
      | true => .ok (.p (best x xs)) own
      | false => .bad
    | _ => .bad
  | [.p (.int i), .p (.int j)] => .ok (.p (.int (b2 i j))) own
  | _ => .bad
def min2 (i j : Int) : Int := if j < i then j else i
def max2 (i j : Int) : Int := if j > i then j else i
theorem cm_best {id : String} {best : PyData → List PyData → PyData} {b2 : Int → Int → Int} (h1 : CallR X (.builtin id) (rBest X.K best)) (h2 : CallR X (.builtin id) (fun xs H Q => ∃ i j, xs = [.int i, .int j] ∧ Q (.int (b2 i j)) H)) : CallR X (.builtin id) (rC g (fBest best b2)) := by
  refine CallR.imp (CallR.or h1 h2) fun xs H Q h0 => ?_
  obtain ⟨c, own, ds, r, rd, h⟩ := h0
  unfold fBest at h
  split at h
  · rename_i d
    split at h
    · rename_i x ys e
      split at h
      · rename_i hz
        cases rd with
        | cons rd rn =>
          cases rn
          obtain ⟨a, vs, rfl, q1, q2⟩ := sv_ok r rd e
          exact .inl ⟨a, c.fz, vs, x, ys, rfl, q1.imp SqL.of SqT.of, r.fz, q2, hz, fun v rv => h c H v (Step.refl c) r rv⟩
      · exact h.elim
    · exact h.elim
  · cases rd with
    | cons ri rd => cases rd with
      | cons rj rn =>
        cases rn
        cases ri
        cases rj
        exact .inr ⟨_, _, rfl, h c H _ (Step.refl c) r (.int _)⟩
  · exact h.elim
theorem cm_min (hc : X.calm = true) (hu : X.A.units + 64 < cLine) : CallR X (.builtin "min") (rC g (fBest minP min2)) := cm_best (cr_minD hc hu) (call_min2 hc)
theorem cm_max (hc : X.calm = true) (hu : X.A.units + 64 < cLine) : CallR X (.builtin "max") (rC g (fBest maxP max2)) := cm_best (cr_maxD hc hu) (call_max2 hc)
end
end Mir

set_option maxRecDepth 100000
set_option maxHeartbeats 4000000
namespace Mir
variable [Tab]
open PySem PySem.Spec PyProof.Rows L2
/-! ### where a derivation stands -/
structure Cxt (X : Cx) (g : G) (cls : Nat → Addr) (T : List (Addr × Str)) (k : Nat) : Prop where
  N : X.N.Nodup
  calm : X.calm = true
  own : PassesOwn (model X.prog X.w) X.A X.env X.xe
  room : Room k X.A
  take : Takes X fun c d _ H => g.E c d H
  cls : g.cls = cls
  T : g.T = T
  K : (Tab.K : PySem.W.Frag) = X.K
section
variable {X : Cx} {g : G} {cls : Nat → Addr} {T : List (Addr × Str)} {k : Nat}
theorem Cxt.u (C : Cxt X g cls T k) : X.A.units + 65 < cLine := by
  have := C.room.un
  omega
theorem Cxt.u4 (C : Cxt X g cls T k) : X.A.units + 64 < cLine := by
  have := C.u
  omega
theorem Cxt.u0 (C : Cxt X g cls T k) : X.A.units < cLine := by
  have := C.u
  omega
theorem Cxt.pass (C : Cxt X g cls T k) : Passes (L2.CX X.prog X.w) X g.E := passes_call C.take fun _ _ _ _ h => h
theorem Cxt.blk {g' : G} {s : Shared} {H : Hp} {scope : Scope} {ce : PySem.Env} {fp : List Addr} (C : Cxt X g cls T k) (h : g.In g') : Cxt (X.blk s H scope ce fp) g' cls T k :=
  ⟨C.N, C.calm, PassesOwn.never, C.room, fun u s' ⟨_, _, _, _, _, _, _, _, _, _, _, _, _, _, _, _, w⟩ => by rw [h.E] at w; exact w, h.cls.trans C.cls, h.T.trans C.T, C.K⟩
end
/-- the context of a def's body -/
abbrev cxL (P : Program) (w : World) (K : PySem.W.Frag) (mg : Str → Option Value) (base : Heap) (N : List Str) (qual : Str) (scope : Scope) (f : Addr) (cd : Value) (A : Around) (outer : List PySem.Env) (s : Shared) (H : Hp) (E : XK) : Cx :=
  cxOf (L2.CX P w) P w K mg base N qual scope f cd A outer s H E
abbrev FnL (P : Program) (w : World) (K : PySem.W.Frag) (mg : Str → Option Value) (base : Heap) (k : Nat) (f : Addr) (fd : FuncData) (ps : List Str) (sp : Sp) : Prop := FnOk P w K mg base (L2.CX P w) k f fd ps sp
section
variable {P : Program} {w : World} {K : PySem.W.Frag} {mg : Str → Option Value} {base : Heap} {cls : Nat → Addr} {T : List (Addr × Str)} {k : Nat}
theorem md_c {x qual : Str} {params : Arguments} {body : List Stmt} {scope : Scope} {f : Addr} {fd : FuncData} {N ps : List Str} {slots : Nat} {ms : MS} {dvs : List V} {kws : List (Str × V)} (F : FunD K x qual params body scope dvs kws f fd) (S : FnScope N ps scope) (hN : N.length = slots) (hK : (Tab.K : PySem.W.Frag) = K)
    (hb : ∀ (cdv : Value) (A : Around) (outer : List PySem.Env) (s : Shared) (H : Hp) (E : XK) (g : G), Cxt (cxL P w K mg base N qual scope f cdv A outer s H E) g cls T k → PSs (cxL P w K mg base N qual scope f cdv A outer s H E) body (tS g ms)) :
    FnL P w K mg base (k + 1) f fd ps (spF cls T ps.length (runF slots ms)) :=
  md_fn F S hN fun cdv A outer s H E hr g h1 h2 h3 => hb cdv A outer s H E g ⟨S.nd, rfl, passes_of rfl, hr, by rw [h1]; exact takes_of rfl rfl rfl rfl, h2, h3, hK⟩
theorem deeper_gd {A : Around} {env : PySem.Env} (h : A.guards = some []) : (A.deeper env).guards = some [] := by
  first
    | exact h
    | (simp [Around.deeper, h])
/-- a def that keeps its mirror -/
structure Cal (P : Program) (w : World) (K : PySem.W.Frag) (mg : Str → Option Value) (base : Heap) (cls : Nat → Addr) (T : List (Addr × Str)) (k : Nat) (x : Str) (n : Nat) (fn : Fn) : Prop where
  ex : ∃ f fd ps, mg x = some (.ref f) ∧ PySem.W.keepIn K (.ref f) = true ∧ L2.Binds K fd ps [] ∧ ps.length = n ∧ FnL P w K mg base k f fd ps (spF cls T ps.length fn)
theorem Cal.mono {j : Nat} {x : Str} {n : Nat} {fn : Fn} (c : Cal P w K mg base cls T j x n fn) (h : j ≤ k) : Cal P w K mg base cls T k x n fn := by
  obtain ⟨f, fd, ps, h1, h2, h3, h4, h5⟩ := c.ex
  exact ⟨f, fd, ps, h1, h2, h3, h4, h5.mono h⟩
theorem Cal.bad {x : Str} {n : Nat} {f : Addr} {fd : FuncData} {ps : List Str} (hm : mg x = some (.ref f)) (hk : PySem.W.keepIn K (.ref f) = true) (hb : L2.Binds K fd ps []) (hn : ps.length = n) : Cal P w K mg base cls T k x n fun _ => .bad := by
  refine ⟨f, fd, ps, hm, hk, hb, hn, ⟨spF_len, fun A outer s H args us vs Q E hr e0 hbi hv h => ?_⟩⟩
  obtain ⟨_, _, _, _, _, _, _, _, z⟩ := h
  exact z.elim
end
section
variable {X : Cx} {g : G} {cls : Nat → Addr} {T : List (Addr × Str)} {k : Nat}
theorem me_c {x : Str} {n : Nat} {fn : Fn} {p pos : Pos} {e : Expr} {es : List Expr} {m : M (List D)} (C : Cxt X g cls T k) (F : Cal X.prog X.w X.K X.mg X.base cls T k x n fn) (ha : PA X (e :: es) (tA g m)) (hg : Gl X x := by rfl)
    (hdb : (x == ("__debug__" : Str)) = false := by decide) (he : starEach (e :: es) X.env = (false, eval e X.env) :: starEach es X.env := by rfl) (hpl : (backTo pos (starEach es X.env)).any (·.1) = false := by rfl) :
    PE X (.Call (.Name x p) (e :: es) [] pos) (tE g (mFn n fn m)) := by
  obtain ⟨f, fd, ps, h1, h2, h3, h4, h5⟩ := F.ex
  subst h4
  have h6 : FnL X.prog X.w X.K X.mg X.base k f fd ps (spF g.cls g.T ps.length fn) := by rw [C.cls, C.T]; exact h5
  exact me_call h6 C.room hg h1 h2 h3 C.pass ha hdb he hpl
/-! ### defs that show data: nothing is being shown around them -/
structure FnG (P : Program) (w : World) (K : PySem.W.Frag) (mg : Str → Option Value) (base : Heap) (k : Nat) (f : Addr) (ps : List Str) (fd : FuncData) (sp : Sp) : Prop where
  len : ∀ vs H Q E, sp vs H Q E → vs.length = ps.length
  run : ∀ (A : Around) (outer : List PySem.Env) (s : Shared) (H : Hp) (args : Args) (us : List Value) (vs : List V) (Q : VK) (E : XK), Room k A → A.guards = some [] → Env0 P w K mg base A outer s H → BindsTo s fd args (ps.zip us) → Vals vs us → sp vs H Q E →
    codeAny (model P w) A (.call (.ref f) args) (CR (L2.CX P w) outer P w H s Q E) s
structure CalG (P : Program) (w : World) (K : PySem.W.Frag) (mg : Str → Option Value) (base : Heap) (cls : Nat → Addr) (T : List (Addr × Str)) (k : Nat) (x : Str) (n : Nat) (fn : Fn) : Prop where
  ex : ∃ f fd ps, mg x = some (.ref f) ∧ PySem.W.keepIn K (.ref f) = true ∧ L2.Binds K fd ps [] ∧ ps.length = n ∧ FnG P w K mg base k f ps fd (spF cls T ps.length fn)
theorem CalG.mono {P : Program} {w : World} {K : PySem.W.Frag} {mg : Str → Option Value} {base : Heap} {j k : Nat} {x : Str} {n : Nat} {fn : Fn} (c : CalG P w K mg base cls T j x n fn) (h : j ≤ k) : CalG P w K mg base cls T k x n fn := by
  obtain ⟨f, fd, ps, h1, h2, h3, h4, h5⟩ := c.ex
  exact ⟨f, fd, ps, h1, h2, h3, h4, h5.len, fun A outer s H args us vs Q E hr => h5.run A outer s H args us vs Q E (hr.mono h)⟩
theorem Cal.toG {P : Program} {w : World} {K : PySem.W.Frag} {mg : Str → Option Value} {base : Heap} {x : Str} {n : Nat} {fn : Fn} (c : Cal P w K mg base cls T k x n fn) : CalG P w K mg base cls T k x n fn := by
  obtain ⟨f, fd, ps, h1, h2, h3, h4, h5⟩ := c.ex
  exact ⟨f, fd, ps, h1, h2, h3, h4, h5.len, fun A outer s H args us vs Q E hr _ => h5.run A outer s H args us vs Q E hr⟩
theorem me_cG {x : Str} {n : Nat} {fn : Fn} {p pos : Pos} {e : Expr} {es : List Expr} {m : M (List D)} (C : Cxt X g cls T k) (gd : X.A.guards = some []) (F : CalG X.prog X.w X.K X.mg X.base cls T k x n fn) (ha : PA X (e :: es) (tA g m)) (hg : Gl X x := by rfl)
    (hdb : (x == ("__debug__" : Str)) = false := by decide) (he : starEach (e :: es) X.env = (false, eval e X.env) :: starEach es X.env := by rfl) (hpl : (backTo pos (starEach es X.env)).any (·.1) = false := by rfl) :
    PE X (.Call (.Name x p) (e :: es) [] pos) (tE g (mFn n fn m)) := by
  obtain ⟨f, fd, ps, h1, h2, h3, h4, h5⟩ := F.ex
  subst h4
  refine ⟨fun pins s σ H Q J h => wpAny_Call_Name_kw (ld_glob J hg h1 (PySem.W.callWith_K (h₀ := X.base) J.ok.mod.kin h2 (thn (ha.run pos pins s σ H _ J (sp_of h)) fun us s1 q => ?_) he hpl) hdb)⟩
  obtain ⟨vs, H1, J1, r, q⟩ := q
  refine ⟨J1.kIn, ?_⟩
  have q : spF cls T ps.length fn vs H1 Q g.E := by
    have := q
    rwa [C.cls, C.T] at this
  have bi := h3 s1 us J1.kIn (by rw [List.append_nil, ← r.length]; exact spF_len _ _ _ _ q)
  rw [List.append_nil] at bi
  refine wpAny_call (codeAny_mono (h5.run X.A X.stack s1 H1 ⟨us, []⟩ us vs Q g.E C.room gd J1.env0 bi r q) fun rr s' hq => ?_)
  cases rr with
  | error er => exact C.pass pins σ H1 s1 er s' J1 hq
  | ok fl =>
    cases fl with
    | ret u => exact J1.after hq
    | next => exact hq.elim
    | brk => exact hq.elim
    | cont => exact hq.elim
/-! ### built-in functions: by name -/
variable {e : Expr} {es : List Expr} {m : M (List D)} {p pos : Pos}
theorem me_len (h0 : X.mg "len" = none) (ha : PA X [e] (tA g m)) (hg : Gl X "len" := by rfl) (he : starEach [e] X.env = [(false, eval e X.env)] := by rfl) : PE X (.Call (.Name "len" p) [e] [] pos) (tE g (mCall fLen m)) := me_callB cr_len hg h0 boot_len ha (he := he)
theorem me_all (C : Cxt X g cls T k) (h0 : X.mg "all" = none) (ha : PA X [e] (tA g m)) (hg : Gl X "all" := by rfl) (he : starEach [e] X.env = [(false, eval e X.env)] := by rfl) : PE X (.Call (.Name "all" p) [e] [] pos) (tE g (mCall fAll m)) := me_callB (cm_all C.calm) hg h0 boot_all ha (he := he)
theorem me_any (C : Cxt X g cls T k) (h0 : X.mg "any" = none) (ha : PA X [e] (tA g m)) (hg : Gl X "any" := by rfl) (he : starEach [e] X.env = [(false, eval e X.env)] := by rfl) : PE X (.Call (.Name "any" p) [e] [] pos) (tE g (mCall fAny m)) := me_callB (cm_any C.calm) hg h0 boot_any ha (he := he)
theorem me_sum (C : Cxt X g cls T k) (h0 : X.mg "sum" = none) (ha : PA X [e] (tA g m)) (hg : Gl X "sum" := by rfl) (he : starEach [e] X.env = [(false, eval e X.env)] := by rfl) : PE X (.Call (.Name "sum" p) [e] [] pos) (tE g (mCall fSum m)) := me_callB (cm_sum C.calm) hg h0 boot_sum ha (he := he)
theorem me_sorted (C : Cxt X g cls T k) (h0 : X.mg "sorted" = none) (ha : PA X [e] (tA g m)) (hg : Gl X "sorted" := by rfl) (he : starEach [e] X.env = [(false, eval e X.env)] := by rfl) : PE X (.Call (.Name "sorted" p) [e] [] pos) (tE g (mCall fSorted m)) := me_callB (cm_sorted C.u4) hg h0 boot_sorted ha (he := he)
theorem me_min (C : Cxt X g cls T k) (h0 : X.mg "min" = none) (ha : PA X (e :: es) (tA g m)) (hg : Gl X "min" := by rfl) (he : starEach (e :: es) X.env = (false, eval e X.env) :: starEach es X.env := by rfl) (hpl : (backTo pos (starEach es X.env)).any (·.1) = false := by rfl) : PE X (.Call (.Name "min" p) (e :: es) [] pos) (tE g (mCall (fBest minP min2) m)) := me_callB (cm_min C.calm C.u4) hg h0 boot_min ha (he := he) (hpl := hpl)
theorem me_max (C : Cxt X g cls T k) (h0 : X.mg "max" = none) (ha : PA X (e :: es) (tA g m)) (hg : Gl X "max" := by rfl) (he : starEach (e :: es) X.env = (false, eval e X.env) :: starEach es X.env := by rfl) (hpl : (backTo pos (starEach es X.env)).any (·.1) = false := by rfl) : PE X (.Call (.Name "max" p) (e :: es) [] pos) (tE g (mCall (fBest maxP max2) m)) := me_callB (cm_max C.calm C.u4) hg h0 boot_max ha (he := he) (hpl := hpl)
theorem me_abs (h0 : X.mg "abs" = none) (ha : PA X [e] (tA g m)) (hg : Gl X "abs" := by rfl) (he : starEach [e] X.env = [(false, eval e X.env)] := by rfl) : PE X (.Call (.Name "abs" p) [e] [] pos) (tE g (mCall fAbs m)) := me_callB cm_abs hg h0 boot_abs ha (he := he)
theorem me_toInt (h0 : X.mg "int" = none) (ha : PA X [e] (tA g m)) (hg : Gl X "int" := by rfl) (he : starEach [e] X.env = [(false, eval e X.env)] := by rfl) : PE X (.Call (.Name "int" p) [e] [] pos) (tE g (mCall fInt m)) := me_callTy cm_int hg h0 PyProof.Rows.boot_int ha (he := he)
theorem me_list (h0 : X.mg "list" = none) (ha : PA X [e] (tA g m)) (hg : Gl X "list" := by rfl) (he : starEach [e] X.env = [(false, eval e X.env)] := by rfl) : PE X (.Call (.Name "list" p) [e] [] pos) (tE g (mCall fList m)) := me_callTy cm_list hg h0 PyProof.Rows.boot_list ha (he := he)
theorem me_tuple (h0 : X.mg "tuple" = none) (ha : PA X [e] (tA g m)) (hg : Gl X "tuple" := by rfl) (he : starEach [e] X.env = [(false, eval e X.env)] := by rfl) : PE X (.Call (.Name "tuple" p) [e] [] pos) (tE g (mCall fTuple m)) := me_callTy cm_tuple hg h0 PyProof.Rows.boot_tuple ha (he := he)
/-! ### list(range(..)), tuple(range(..)) -/
theorem rgV_ok {H : Hp} (a b : Int) : Rps H (rgV a b) (rangeP a (b - a).toNat) := by
  unfold rgV
  generalize (b - a).toNat = n
  have key : ∀ (n : Nat) (a : Int), Rps H ((List.range n).map fun i => V.int (a + (i : Nat))) (rangeP a n) := by
    intro n
    induction n with
    | zero => intro a; exact .nil
    | succ n ih =>
      intro a
      rw [List.range_succ_eq_map, List.map_cons, List.map_map, rangeP]
      have h1 : V.int (a + ((0 : Nat) : Int)) = V.int a := by simp
      rw [h1]
      refine .cons (.int a) ?_
      have h2 : ((fun i : Nat => V.int (a + (i : Int))) ∘ Nat.succ) = fun i : Nat => V.int (a + 1 + (i : Int)) := by
        funext i
        show V.int (a + ((i + 1 : Nat) : Int)) = _
        congr 1
        omega
      rw [h2]
      exact ih (a + 1)
  exact key n a
def rgOk (a b : Int) : Bool := small a && (small b && Nat.ble (b - a).toNat 16777216)
theorem rgOk_ok {a b : Int} (h : rgOk a b = true) : RgOk a b := by
  unfold rgOk at h
  simp only [Bool.and_eq_true] at h
  obtain ⟨h1, h2, h3⟩ := h
  obtain ⟨a1, a2⟩ := small_ok h1
  obtain ⟨b1, b2⟩ := small_ok h2
  exact ⟨a1, a2, b1, b2, Nat.le_of_ble_eq_true h3⟩
def oRg (mk : List PyData → Own → R D) (a b : Int) (o : Own) : R D := match rgOk a b with
  | true => mk (rangeP a (b - a).toNat) o
  | false => .bad
def mkL (xs : List PyData) (o : Own) : R D := .ok (.own o.length) (o ++ [.lst .ours xs])
def mkT (xs : List PyData) (o : Own) : R D := .ok (.p (.tuple xs)) o
def mRg1 (mk : List PyData → Own → R D) (m : M D) : M D := fun env own => (m env own).bind fun d o => match d with
  | .p (.int j) => oRg mk 0 j o
  | _ => .bad
def mRg2 (mk : List PyData → Own → R D) (m m' : M D) : M D := fun env own => (m env own).bind fun d o => (m' env o).bind fun d' o => match d, d' with
  | .p (.int i), .p (.int j) => oRg mk i j o
  | _, _ => .bad
def tR (g : G) (m : M (Int × Int)) : L2.St → Hp → (Int → Int → Hp → Prop) → Prop := fun σ H Q => ∃ c env own, RelH g c own H ∧ RelE c env σ ∧ Post g (m env own) fun p own' => ∀ c' H', Step c c' → RelH g c' own' H' → Q p.1 p.2 H'
theorem rg1_of {mk : List PyData → Own → R D} {m : M D} {σ : L2.St} {H : Hp} {Q : VK} (h : tE g (mRg1 mk m) σ H Q) : tRg1 (tE g m) σ H fun a b H1 => ∃ c c1 own, Step c c1 ∧ RelH g c1 own H1 ∧ Post g (oRg mk a b own) (PQ g c Q) := by
  obtain ⟨c, env, own, r, e, h⟩ := h
  refine tE.go r e h fun d o c1 H1 v s1 r1 e1 rd q => ?_
  split at q
  · cases rd
    exact ⟨_, rfl, c, c1, o, s1, r1, q⟩
  · exact q.elim
theorem rg2_of {mk : List PyData → Own → R D} {m m' : M D} {σ : L2.St} {H : Hp} {Q : VK} (h : tE g (mRg2 mk m m') σ H Q) : tRg2 (tE g m) (tE g m') σ H fun a b H1 => ∃ c c1 own, Step c c1 ∧ RelH g c1 own H1 ∧ Post g (oRg mk a b own) (PQ g c Q) := by
  obtain ⟨c, env, own, r, e, h⟩ := h
  refine tE.go r e h fun d o c1 H1 v s1 r1 e1 rd q => ?_
  refine tE.go r1 e1 q fun d' o' c2 H2 v' s2 r2 e2 rd' q => ?_
  split at q
  · cases rd
    cases rd'
    exact ⟨_, _, rfl, rfl, c, c2, o', s1.trans s2, r2, q⟩
  · exact q.elim
theorem rgL_of {c c1 : C} {own : Own} {H : Hp} {Q : VK} {a b : Int} (s : Step c c1) (r : RelH g c1 own H) (h : Post g (oRg mkL a b own) (PQ g c Q)) : RgOk a b ∧ ∀ q, H q = none → Q (.ref q) (upd H q (.lst (rgV a b))) := by
  unfold oRg at h
  split at h
  · rename_i hz
    refine ⟨rgOk_ok hz, fun q hq => ?_⟩
    obtain ⟨c', s', r', d'⟩ := r.new hq (rgV_ok a b)
    exact h c' _ _ (s.trans s') r' d'
  · exact h.elim
theorem rgT_of {c c1 : C} {own : Own} {H : Hp} {Q : VK} {a b : Int} (s : Step c c1) (r : RelH g c1 own H) (h : Post g (oRg mkT a b own) (PQ g c Q)) : RgOk a b ∧ ∀ q, H q = none → Q (.ref q) (upd H q (.tup (rgV a b))) := by
  unfold oRg at h
  split at h
  · rename_i hz
    refine ⟨rgOk_ok hz, fun q hq => ?_⟩
    obtain ⟨c', s', r', d'⟩ := r.newT hq (rgV_ok a b)
    exact h c' _ _ (s.trans s') r' d'
  · exact h.elim
variable {a b : Expr} {ma mb : M D} {p2 pos2 : Pos}
theorem prg_imp {X : Cx} {e : Expr} {t t' : L2.St → Hp → (Int → Int → Hp → Prop) → Prop} (h : PRg X e t) (i : ∀ σ H Q, t' σ H Q → t σ H Q) : PRg X e t' := fun pins s σ H Q I q => h pins s σ H Q I (i σ H Q q)
theorem me_listRg1 (C : Cxt X g cls T k) (h0 : X.mg "list" = none) (h1 : X.mg "range" = none) (ha : PE X a (tE g ma)) (hg0 : Gl X "list" := by rfl) (hg1 : Gl X "range" := by rfl) (na : starEach [a] X.env = (false, eval a X.env) :: starEach [] X.env := by rfl)
    (na2 : starEach [.Call (.Name "range" p2) [a] [] pos2] X.env = (false, eval (.Call (.Name "range" p2) [a] [] pos2) X.env) :: starEach [] X.env := by rfl) :
    PE X (.Call (.Name "list" p) [.Call (.Name "range" p2) [a] [] pos2] [] pos) (tE g (mRg1 mkL ma)) :=
  pe_imp (pe_listRg C.calm hg0 h0 (prg_1 hg1 h1 ha na) na2) fun σ H Q h => by
    obtain ⟨c, env, own, r, e, q⟩ := h
    have := rg1_of (mk := mkL) ⟨c, env, own, r, e, q⟩
    obtain ⟨c0, env0, own0, r0, e0, q0⟩ := this
    exact ⟨c0, env0, own0, r0, e0, Post.mono (fun d o z c' H' v s r' rd => by
      obtain ⟨n, rfl, c3, c4, o4, s4, r4, q4⟩ := z c' H' v s r' rd
      exact ⟨n, rfl, rgL_of s4 r4 q4⟩) q0⟩
theorem me_tupRg1 (C : Cxt X g cls T k) (h0 : X.mg "tuple" = none) (h1 : X.mg "range" = none) (ha : PE X a (tE g ma)) (hg0 : Gl X "tuple" := by rfl) (hg1 : Gl X "range" := by rfl) (na : starEach [a] X.env = (false, eval a X.env) :: starEach [] X.env := by rfl)
    (na2 : starEach [.Call (.Name "range" p2) [a] [] pos2] X.env = (false, eval (.Call (.Name "range" p2) [a] [] pos2) X.env) :: starEach [] X.env := by rfl) :
    PE X (.Call (.Name "tuple" p) [.Call (.Name "range" p2) [a] [] pos2] [] pos) (tE g (mRg1 mkT ma)) :=
  pe_imp (pe_tupRg C.calm hg0 h0 (prg_1 hg1 h1 ha na) na2) fun σ H Q h => by
    obtain ⟨c0, env0, own0, r0, e0, q0⟩ := rg1_of h
    exact ⟨c0, env0, own0, r0, e0, Post.mono (fun d o z c' H' v s r' rd => by
      obtain ⟨n, rfl, c3, c4, o4, s4, r4, q4⟩ := z c' H' v s r' rd
      exact ⟨n, rfl, rgT_of s4 r4 q4⟩) q0⟩
theorem me_listRg2 (C : Cxt X g cls T k) (h0 : X.mg "list" = none) (h1 : X.mg "range" = none) (ha : PE X a (tE g ma)) (hb : PE X b (tE g mb)) (hg0 : Gl X "list" := by rfl) (hg1 : Gl X "range" := by rfl) (na : starEach [a, b] X.env = (false, eval a X.env) :: starEach [b] X.env := by rfl) (nb : starEach [b] X.env = (false, eval b X.env) :: starEach [] X.env := by rfl) (hp : (backTo pos2 (starEach [b] X.env)).any (·.1) = false := by rfl)
    (na2 : starEach [.Call (.Name "range" p2) [a, b] [] pos2] X.env = (false, eval (.Call (.Name "range" p2) [a, b] [] pos2) X.env) :: starEach [] X.env := by rfl) :
    PE X (.Call (.Name "list" p) [.Call (.Name "range" p2) [a, b] [] pos2] [] pos) (tE g (mRg2 mkL ma mb)) :=
  pe_imp (pe_listRg C.calm hg0 h0 (prg_2 hg1 h1 ha hb na nb hp) na2) fun σ H Q h => by
    obtain ⟨c0, env0, own0, r0, e0, q0⟩ := rg2_of h
    refine ⟨c0, env0, own0, r0, e0, Post.mono (fun d o z c' H' v s r' rd => ?_) q0⟩
    obtain ⟨c1, env1, own1, r1, e1, q1⟩ := z c' H' v s r' rd
    refine ⟨c1, env1, own1, r1, e1, Post.mono (fun d o z c' H' v s r' rd => ?_) q1⟩
    obtain ⟨i, j, e1, e2, c3, c4, o4, s4, r4, q4⟩ := z c' H' v s r' rd
    exact ⟨i, j, e1, e2, rgL_of s4 r4 q4⟩
theorem me_tupRg2 (C : Cxt X g cls T k) (h0 : X.mg "tuple" = none) (h1 : X.mg "range" = none) (ha : PE X a (tE g ma)) (hb : PE X b (tE g mb)) (hg0 : Gl X "tuple" := by rfl) (hg1 : Gl X "range" := by rfl) (na : starEach [a, b] X.env = (false, eval a X.env) :: starEach [b] X.env := by rfl) (nb : starEach [b] X.env = (false, eval b X.env) :: starEach [] X.env := by rfl) (hp : (backTo pos2 (starEach [b] X.env)).any (·.1) = false := by rfl)
    (na2 : starEach [.Call (.Name "range" p2) [a, b] [] pos2] X.env = (false, eval (.Call (.Name "range" p2) [a, b] [] pos2) X.env) :: starEach [] X.env := by rfl) :
    PE X (.Call (.Name "tuple" p) [.Call (.Name "range" p2) [a, b] [] pos2] [] pos) (tE g (mRg2 mkT ma mb)) :=
  pe_imp (pe_tupRg C.calm hg0 h0 (prg_2 hg1 h1 ha hb na nb hp) na2) fun σ H Q h => by
    obtain ⟨c0, env0, own0, r0, e0, q0⟩ := rg2_of h
    refine ⟨c0, env0, own0, r0, e0, Post.mono (fun d o z c' H' v s r' rd => ?_) q0⟩
    obtain ⟨c1, env1, own1, r1, e1, q1⟩ := z c' H' v s r' rd
    refine ⟨c1, env1, own1, r1, e1, Post.mono (fun d o z c' H' v s r' rd => ?_) q1⟩
    obtain ⟨i, j, e1, e2, c3, c4, o4, s4, r4, q4⟩ := z c' H' v s r' rd
    exact ⟨i, j, e1, e2, rgT_of s4 r4 q4⟩
/-! ### zip of two -/
def zipP : List PyData → List PyData → List PyData
  | x :: xs, y :: ys => .tuple [x, y] :: zipP xs ys
  | _, _ => []
theorem zipP_get : ∀ {xs ys : List PyData} {i : Nat} {z : PyData}, (zipP xs ys)[i]? = some z → ∃ x y, xs[i]? = some x ∧ ys[i]? = some y ∧ z = .tuple [x, y]
  | [], _, i, z, h => by simp [zipP] at h
  | _ :: _, [], i, z, h => by simp [zipP] at h
  | x :: xs, y :: ys, 0, z, h => by
    simp [zipP] at h
    exact ⟨x, y, rfl, rfl, h.symm⟩
  | x :: xs, y :: ys, i + 1, z, h => by
    rw [zipP, List.getElem?_cons_succ] at h
    obtain ⟨a, b, h1, h2, h3⟩ := zipP_get h
    exact ⟨a, b, by simpa using h1, by simpa using h2, h3⟩
theorem zipP_len : ∀ xs ys : List PyData, (zipP xs ys).length = min xs.length ys.length
  | [], _ => by simp [zipP]
  | _ :: _, [] => by simp [zipP]
  | x :: xs, y :: ys => by
    rw [zipP, List.length_cons, zipP_len xs ys, List.length_cons, List.length_cons]
    omega
theorem walks_zipT {g : G} {c0 : C} {a b : Addr} {xs ys : List V} {ds es : List PyData} (h1 : c0.fz a = some (.tup xs)) (q1 : Rps c0.fz xs ds) (h2 : c0.fz b = some (.tup ys)) (q2 : Rps c0.fz ys es) : Walks g ⟨zipP ds es, none⟩ c0 (RZ.ItzT X.K a b) := by
  intro g' c own H gr r hl i
  have k1 := SqT.of (K := X.K) (r.fz _ _ (gr.fz _ _ h1))
  have k2 := SqT.of (K := X.K) (r.fz _ _ (gr.fz _ _ h2))
  refine ⟨fun z hz => ?_, fun hle => ⟨xs, ys, k1, k2, ?_⟩⟩
  · have hz : (zipP ds es)[i]? = some z := hz
    obtain ⟨x, y, e1, e2, rfl⟩ := zipP_get hz
    obtain ⟨u, f1, r1⟩ := q1.get e1
    obtain ⟨v, f2, r2⟩ := q2.get e2
    refine ⟨⟨xs, ys, u, v, k1, k2, f1, f2⟩, fun w H' yl => ?_⟩
    obtain ⟨T, u', v', rfl, hT, rfl, g1, g2⟩ := yl
    have a1 := g1 xs k1
    have a2 := g2 ys k2
    rw [f1] at a1
    rw [f2] at a2
    cases a1
    cases a2
    obtain ⟨c', s, r', d'⟩ := r.newT (vs := [u, v]) (xs := [x, y]) hT (.cons (Rp.mono gr.fz r1) (.cons (Rp.mono gr.fz r2) .nil))
    exact ⟨c', s, r', d', fun D o e => same_new hT _ _ e⟩
  · have hle : (zipP ds es).length ≤ i := hle
    rw [zipP_len] at hle
    have l1 := q1.length
    have l2 := q2.length
    omega
theorem walks_zipL {g : G} {c0 : C} {a b : Addr} {xs ys : List V} {ds es : List PyData} (h1 : c0.fz a = some (.lst xs)) (q1 : Rps c0.fz xs ds) (h2 : c0.fz b = some (.lst ys)) (q2 : Rps c0.fz ys es) : Walks g ⟨zipP ds es, none⟩ c0 (Itz X.K a b) := by
  intro g' c own H gr r hl i
  have k1 := SqL.of (K := X.K) (r.fz _ _ (gr.fz _ _ h1))
  have k2 := SqL.of (K := X.K) (r.fz _ _ (gr.fz _ _ h2))
  refine ⟨fun z hz => ?_, fun hle => ⟨xs, ys, k1, k2, ?_⟩⟩
  · have hz : (zipP ds es)[i]? = some z := hz
    obtain ⟨x, y, e1, e2, rfl⟩ := zipP_get hz
    obtain ⟨u, f1, r1⟩ := q1.get e1
    obtain ⟨v, f2, r2⟩ := q2.get e2
    refine ⟨⟨xs, ys, u, v, k1, k2, f1, f2⟩, fun w H' yl => ?_⟩
    obtain ⟨T, u', v', rfl, hT, rfl, g1, g2⟩ := yl
    have a1 := g1 xs k1
    have a2 := g2 ys k2
    rw [f1] at a1
    rw [f2] at a2
    cases a1
    cases a2
    obtain ⟨c', s, r', d'⟩ := r.newT (vs := [u, v]) (xs := [x, y]) hT (.cons (Rp.mono gr.fz r1) (.cons (Rp.mono gr.fz r2) .nil))
    exact ⟨c', s, r', d', fun D o e => same_new hT _ _ e⟩
  · have hle : (zipP ds es).length ≤ i := hle
    rw [zipP_len] at hle
    have l1 := q1.length
    have l2 := q2.length
    omega
/-- two lists of the run's own are walked as data: they go into it -/
def mSrcZ (m : M (List D)) : M Src := fun env own => (m env own).bind fun ds o => match freezeAll ds o with
  | some ([.tuple xs, .tuple ys], o) => .ok ⟨zipP xs ys, none⟩ o
  | some ([.list xs, .list ys], o) => .ok ⟨zipP xs ys, none⟩ o
  | _ => .bad
theorem mi_zip {e e2 : Expr} {elts : List Expr} {kk : Nat} {tpos : Pos} {m : M (List D)} (h0 : X.mg "zip" = none) (ha : PA X [e, e2] (tA g m)) (hg : Gl X "zip" := by rfl)
    (hs : starEach [e, e2] X.env = (false, eval e X.env) :: starEach [e2] X.env := by rfl) (hpl : (backTo pos (starEach [e2] X.env)).any (·.1) = false := by rfl) :
    PI X (.Tuple elts kk tpos) (.Call (.Name "zip" p) [e, e2] [] pos) (tI g (mSrcZ m)) := by
  refine pi_imp (RZ.pi_zipA hg h0 ha hs hpl) fun σ H R h => ?_
  obtain ⟨c, env, own, r, e, h⟩ := h
  refine tA.go r e h fun ds o c1 H1 vs s1 r1 e1 rd q => ?_
  split at q
  · rename_i xs ys o2 hf
    obtain ⟨c2, s2, r2, q2⟩ := freezeAll_ok r1 rd hf
    cases q2 with
    | cons z1 z2 => cases z2 with
      | cons z2 z3 =>
        cases z3
        cases z1 with
        | @tup a us _ f1 g1 => cases z2 with
          | @tup b ws _ f2 g2 =>
            exact ⟨a, b, us, ws, rfl, .inr ⟨SqT.of (r2.fz _ _ f1), SqT.of (r2.fz _ _ f2), q c2 H1 _ (s1.trans s2) r2 (e1.step s2) (walks_zipT f1 g1 f2 g2) fun k hk => by cases hk⟩⟩
  · rename_i xs ys o2 hf
    obtain ⟨c2, s2, r2, q2⟩ := freezeAll_ok r1 rd hf
    cases q2 with
    | cons z1 z2 => cases z2 with
      | cons z2 z3 =>
        cases z3
        cases z1 with
        | @lst a us _ f1 g1 => cases z2 with
          | @lst b ws _ f2 g2 =>
            exact ⟨a, b, us, ws, rfl, .inl ⟨SqL.of (r2.fz _ _ f1), SqL.of (r2.fz _ _ f2), q c2 H1 _ (s1.trans s2) r2 (e1.step s2) (walks_zipL f1 g1 f2 g2) fun k hk => by cases hk⟩⟩
  · exact q.elim
/-! ### == and != of lists of another length, whatever they hold -/
def rLen2 (K : PySem.W.Frag) (r : Bool) : R2 := fun x y H Q => ∃ a b xs ys, x = .ref a ∧ y = .ref b ∧ SqL K H a xs ∧ SqL K H b ys ∧ xs.length ≠ ys.length ∧ Q (.bl r) H
theorem op_eqLen (hu : X.A.units < cLine) : OpR X (compareOp .Eq) (rLen2 X.K false) := by
  intro pins s σ H x y v u Q I rx ry h
  obtain ⟨a, b, xs, ys, rfl, rfl, h1, h2, h3, q⟩ := h
  cases rx
  cases ry
  obtain ⟨its, rv, hl, _⟩ := I.list h1
  obtain ⟨its2, rv2, hl2, _⟩ := I.list h2
  have l1 := rv.length
  have l2 := rv2.length
  refine SeqAt.eq_list_lengthsAt hl.isList hl2.isList ?_ hu ⟨.bl false, H, I, rfl, q⟩
  simp
  omega
theorem op_neLen (hu : X.A.units < cLine) : OpR X (compareOp .NotEq) (rLen2 X.K true) := by
  intro pins s σ H x y v u Q I rx ry h
  obtain ⟨a, b, xs, ys, rfl, rfl, h1, h2, h3, q⟩ := h
  cases rx
  cases ry
  obtain ⟨its, rv, hl, _⟩ := I.list h1
  obtain ⟨its2, rv2, hl2, _⟩ := I.list h2
  have l1 := rv.length
  have l2 := rv2.length
  refine SeqAt.RcNeAt.lists_lengths hl.isList hl2.isList ?_ hu X.prog X.w X.xe _ ⟨.bl true, H, I, rfl, q⟩
  simp
  omega
def oLen2 (r : Bool) (f : D → D → Own → R D) : D → D → Own → R D := fun x y own => match lv x own, lv y own with
  | some xs, some ys => match Nat.beq xs.length ys.length with
    | true => f x y own
    | false => .ok (.p (.bool r)) own
  | _, _ => f x y own
theorem or_len2 {op : CmpOp} {r : Bool} {f : D → D → Own → R D} (h1 : OpR X (compareOp op) (rM g f)) (h2 : OpR X (compareOp op) (rLen2 X.K r)) : OpR X (compareOp op) (rM g (oLen2 r f)) := by
  refine OpR.imp (OpR.or h1 h2) fun x y H Q h => ?_
  obtain ⟨c, own, dx, dy, rh, rx, ry, h⟩ := h
  unfold oLen2 at h
  split at h
  · rename_i xs ys e1 e2
    split at h
    · exact .inl ⟨c, own, dx, dy, rh, rx, ry, h⟩
    · rename_i hz
      obtain ⟨a, us, rfl, f1, f2⟩ := lv_ok rh rx e1
      obtain ⟨b, ws, rfl, g1, g2⟩ := lv_ok rh ry e2
      refine .inr ⟨a, b, us, ws, rfl, rfl, SqL.of f1, SqL.of g1, ?_, h c H _ (Step.refl c) rh (.bl _)⟩
      rw [f2.length, g2.length]
      intro e
      rw [e, Nat.beq_refl] at hz
      cases hz
  · exact .inl ⟨c, own, dx, dy, rh, rx, ry, h⟩
def oEq2 : D → D → Own → R D := oLen2 false oEq
def oNe2 : D → D → Own → R D := oLen2 true oNe
theorem or_eq2 (C : Cxt X g cls T k) : OpR X (compareOp .Eq) (rM g oEq2) := or_len2 (or_eq C.u4) (op_eqLen C.u0)
theorem or_ne2 (C : Cxt X g cls T k) : OpR X (compareOp .NotEq) (rM g oNe2) := or_len2 (or_ne C.u4) (op_neLen C.u0)
end
end Mir

set_option maxRecDepth 100000
set_option maxHeartbeats 4000000
namespace Mir
variable [Tab]
open PySem PySem.Spec PyProof.Rows L2
theorem setAll_len : ∀ {is : List Nat} {ds : List D} {e e' : Env}, setAll is ds e = some e' → ds.length = is.length
  | [], [], _, _, _ => rfl
  | i :: is, d :: ds, e, e', h => by
    have h : setAll is ds (e.set i (some d)) = some e' := h
    rw [List.length_cons, List.length_cons, setAll_len h]
  | [], _ :: _, _, _, h => by cases h
  | _ :: _, [], _, _, h => by cases h
section
variable {X : Cx} {g : G} {cls : Nat → Addr} {T : List (Addr × Str)} {k : Nat}
/-! ### what is walked: a list or a tuple -/
def iSeq (K : PySem.W.Frag) (te : TE) : TI := fun σ H R => te σ H fun x H1 => ∃ a, x = .ref a ∧ ((∃ xs, SqL K H1 a xs) ∧ R (Itl K a) H1 ∨ (∃ xs, SqT K H1 a xs) ∧ R (Itt K a) H1)
theorem pi_seq {l tg : Expr} {tl : TE} (hl : PE X l tl) : PI X tg l (iSeq X.K tl) := by
  refine ⟨fun pins s σ H R I h => ?_⟩
  refine thn (hl.run pins s σ H _ I h) fun v s1 ⟨x, H1, I1, r1, q1⟩ => ?_
  obtain ⟨a, e, q⟩ := q1
  subst e
  cases r1
  rcases q with ⟨⟨xs, hq⟩, q⟩ | ⟨⟨xs, hq⟩, q⟩
  · obtain ⟨its, rv, p, hz⟩ := I1.list hq
    refine wpAny_pyIter_list p.isList ?_
    refine ⟨s1.heap.objs.size, [s1.heap.objs.size], _, _, H1, rfl, I1.kept (t' := s1.toks) fun b o e => Heap.get?_push_of_some _ e, turn_list a _, ⟨_, Heap.get?_push_size _ rfl, rfl, rfl⟩, fun b hb => ?_, q⟩
    have e : b = s1.heap.objs.size := by simpa using hb
    subst e
    exact I1.fpOk (Nat.le_refl _) (I1.hok.fresh (Nat.le_refl _))
  · obtain ⟨its, rv, p, hz⟩ := I1.tuple hq
    refine wpAny_pyIter_tuple (show s1.heap.IsTuple a its.toArray from p) ?_
    refine ⟨s1.heap.objs.size, [s1.heap.objs.size], _, _, H1, rfl, I1.kept (t' := s1.toks) fun b o e => Heap.get?_push_of_some _ e, turn_tuple a _, ⟨_, Heap.get?_push_size _ rfl, rfl, rfl⟩, fun b hb => ?_, q⟩
    have e : b = s1.heap.objs.size := by simpa using hb
    subst e
    exact I1.fpOk (Nat.le_refl _) (I1.hok.fresh (Nat.le_refl _))
def mSrc (m : M D) : M Src := fun env own => (m env own).bind fun d o => match d with
  | .p d => match d with
    | .list xs => .ok ⟨xs, none⟩ o
    | .tuple xs => .ok ⟨xs, none⟩ o
    | _ => .bad
  | .own k => match o[k]? with
    | some (.lst _ xs) => .ok ⟨xs, some k⟩ o
    | none => .bad
theorem mi_seq {l tg : Expr} {m : M D} (hl : PE X l (tE g m)) : PI X tg l (tI g (mSrc m)) := by
  refine pi_imp (pi_seq hl) fun σ H R h => ?_
  obtain ⟨c, env, own, r, e, h⟩ := h
  refine tE.go r e h fun d o c1 H1 v s1 r1 e1 rd q => ?_
  split at q
  · split at q
    · rename_i xs
      cases rd with
      | @lst a vs _ h1 h2 =>
        exact ⟨a, rfl, .inl ⟨⟨vs, SqL.of (r1.fz _ _ h1)⟩, q c1 H1 _ s1 r1 e1 (walks_list fun g' c own H gr r _ => ⟨vs, r.fz _ _ (gr.fz _ _ h1), Rps.mono gr.fz h2⟩) fun k hk => by cases hk⟩⟩
    · rename_i xs
      cases rd with
      | @tup a vs _ h1 h2 =>
        exact ⟨a, rfl, .inr ⟨⟨vs, SqT.of (r1.fz _ _ h1)⟩, q c1 H1 _ s1 r1 e1 (walks_tup fun g' c own H gr r _ => ⟨vs, r.fz _ _ (gr.fz _ _ h1), Rps.mono gr.fz h2⟩) fun k hk => by cases hk⟩⟩
    · exact q.elim
  · rename_i k
    split at q
    · rename_i mm xs ek
      obtain ⟨a, ea, rfl⟩ := rd
      obtain ⟨cell, e2, z⟩ := r1.cell ea
      rw [ek] at e2
      cases e2
      obtain ⟨vs, h1, h2⟩ := z.list r1.fz
      refine ⟨a, rfl, .inl ⟨⟨vs, SqL.of h1⟩, q c1 H1 _ s1 r1 e1 (walks_list fun g' c own H gr r hl => ?_) fun j hj => by cases hj; exact ⟨mm, ek⟩⟩⟩
      obtain ⟨l, hrho⟩ := gr.rho
      have ea' : c.rho[k]? = some a := by
        rw [hrho, List.getElem?_append_left (List.getElem?_eq_some_iff.mp ea).1]
        exact ea
      obtain ⟨m', e3, _⟩ := r.lks k xs (hl k rfl)
      obtain ⟨cell, e4, z'⟩ := r.cell ea'
      rw [e3] at e4
      cases e4
      exact z'.list r.fz
    · exact q.elim
/-! ### methods of lists: by name -/
section
variable {o e : Expr} {es : List Expr} {apos cpos : Pos} {mo : M D} {ma : M (List D)}
theorem me_append (ho : PE X o (tE g mo)) (ha : PA X [e] (tA g ma)) (hbase : attributeBase o "append" X.env (eval o X.env) = eval o X.env := by rfl)
    (hfew : ((backTo cpos (starEach [e] X.env)).all (fun x => !x.1) && (backToKw cpos (keywordEach [] X.env)).all (fun x => x.1.isSome) && decide ([e].length + ([] : List Keyword).length + (if ([] : List Keyword).isEmpty then 0 else 1) < 30)) = true := by rfl)
    (hline : (apos.endLine == cpos.line) = true := by rfl) (hs : starEach [e] X.env = (false, eval e X.env) :: starEach [] X.env := by rfl) (hplain : (backTo cpos (starEach [] X.env)).any (·.1) = false := by rfl) :
    PE X (.Call (.Attribute o "append" apos) [e] [] cpos) (tE g (mMeth fAppend mo ma)) := me_bm PySem.F.plainAttrs_list PySem.F.slot_list_append PySem.F.type_list_append mr_append ho ha hbase hfew hline hs hplain
theorem me_extend (ho : PE X o (tE g mo)) (ha : PA X [e] (tA g ma)) (hbase : attributeBase o "extend" X.env (eval o X.env) = eval o X.env := by rfl)
    (hfew : ((backTo cpos (starEach [e] X.env)).all (fun x => !x.1) && (backToKw cpos (keywordEach [] X.env)).all (fun x => x.1.isSome) && decide ([e].length + ([] : List Keyword).length + (if ([] : List Keyword).isEmpty then 0 else 1) < 30)) = true := by rfl)
    (hline : (apos.endLine == cpos.line) = true := by rfl) (hs : starEach [e] X.env = (false, eval e X.env) :: starEach [] X.env := by rfl) (hplain : (backTo cpos (starEach [] X.env)).any (·.1) = false := by rfl) :
    PE X (.Call (.Attribute o "extend" apos) [e] [] cpos) (tE g (mMeth fExtend mo ma)) := me_bm PySem.F.plainAttrs_list PySem.F.slot_list_extend PySem.F.type_list_extend mr_extend ho ha hbase hfew hline hs hplain
theorem me_index (C : Cxt X g cls T k) (ho : PE X o (tE g mo)) (ha : PA X [e] (tA g ma)) (hbase : attributeBase o "index" X.env (eval o X.env) = eval o X.env := by rfl)
    (hfew : ((backTo cpos (starEach [e] X.env)).all (fun x => !x.1) && (backToKw cpos (keywordEach [] X.env)).all (fun x => x.1.isSome) && decide ([e].length + ([] : List Keyword).length + (if ([] : List Keyword).isEmpty then 0 else 1) < 30)) = true := by rfl)
    (hline : (apos.endLine == cpos.line) = true := by rfl) (hs : starEach [e] X.env = (false, eval e X.env) :: starEach [] X.env := by rfl) (hplain : (backTo cpos (starEach [] X.env)).any (·.1) = false := by rfl) :
    PE X (.Call (.Attribute o "index" apos) [e] [] cpos) (tE g (mMeth fIndex mo ma)) := me_bm PySem.F.plainAttrs_list PySem.F.slot_list_index PySem.F.type_list_index (mr_index C.u) ho ha hbase hfew hline hs hplain
theorem me_pop1 (ho : PE X o (tE g mo)) (ha : PA X [e] (tA g ma)) (hbase : attributeBase o "pop" X.env (eval o X.env) = eval o X.env := by rfl)
    (hfew : ((backTo cpos (starEach [e] X.env)).all (fun x => !x.1) && (backToKw cpos (keywordEach [] X.env)).all (fun x => x.1.isSome) && decide ([e].length + ([] : List Keyword).length + (if ([] : List Keyword).isEmpty then 0 else 1) < 30)) = true := by rfl)
    (hline : (apos.endLine == cpos.line) = true := by rfl) (hs : starEach [e] X.env = (false, eval e X.env) :: starEach [] X.env := by rfl) (hplain : (backTo cpos (starEach [] X.env)).any (·.1) = false := by rfl) :
    PE X (.Call (.Attribute o "pop" apos) [e] [] cpos) (tE g (mMeth fPopAt mo ma)) := me_bm PySem.F.plainAttrs_list PySem.F.slot_list_pop PySem.F.type_list_pop mr_popAt ho ha hbase hfew hline hs hplain
theorem me_pop0 (ho : PE X o (tE g mo)) (hbase : attributeBase o "pop" X.env (eval o X.env) = eval o X.env := by rfl) (hline : (apos.endLine == cpos.line) = true := by rfl) :
    PE X (.Call (.Attribute o "pop" apos) [] [] cpos) (tE g (mMeth0 fPop mo)) := me_bm0 PySem.F.plainAttrs_list PySem.F.slot_list_pop PySem.F.type_list_pop mr_pop ho hbase hline
end
/-! ### isinstance, the truth of any data, an index -/
theorem me_isi' {e : Expr} {m : M D} {T : Str} {t : String} {p p2 pos : Pos} (hm : X.mg "isinstance" = none) (hmT : X.mg T = none) (he : PE X e (tE g m)) (hv : bootBuiltins T = some (.type t) := by decide +kernel) (hg : Gl X "isinstance" := by rfl) (hgT : Gl X T := by rfl) (hT : t ∈ ["int", "bool", "str", "tuple", "list"] := by decide)
    (hn : T ≠ "__name__" := by decide) (hd : (T == ("__debug__" : Str)) = false := by decide) (h1 : starEach [e, .Name T p2] X.env = (false, eval e X.env) :: starEach [.Name T p2] X.env := by rfl) (h2 : starEach [.Name T p2] X.env = (false, eval (.Name T p2) X.env) :: starEach [] X.env := by rfl)
    (hpl : (backTo pos (starEach [.Name T p2] X.env)).any (·.1) = false := by rfl) : PE X (.Call (.Name "isinstance" p) [e, .Name T p2] [] pos) (tE g (mIsi t m)) := me_isi he hg hm hgT hmT hv hT hn hd h1 h2 hpl
end
end Mir

set_option maxRecDepth 100000
set_option maxHeartbeats 4000000
namespace Mir
variable [Tab]
open PySem PySem.Spec PyProof.Rows L2
/-! ### raise -/
/-- the promise of an __init__ that keeps its one argument as value -/
def spIni (K : PySem.W.Frag) : Sp := fun vs H Q _ => ∃ (a C : Addr) (y : V), vs = [.ref a, y] ∧ H a = some (exo a C none) ∧ OexC K C ∧ PySem.W.findIn K (.ref C) "value" = some none ∧
  ∀ dx, H dx = none → dx ≠ a → Q .non (upd (upd H dx (exd dx [("value", y)])) a (exo a C (some dx)))
theorem spIni_len {K : PySem.W.Frag} : ∀ vs H Q E, spIni K vs H Q E → vs.length = 2 := fun vs H Q E ⟨_, _, _, e, _⟩ => by rw [e]; rfl
theorem vis_of {sc : Scope} {x : Str} (h : sc.names.lookup x = some .local ∨ sc.names.lookup x = some .cell) : Vis sc x := h.elim .inl fun h => .inr (.inl h)
/-- __init__(self, value=..): self.value = value -/
theorem ini_ok {P : Program} {w : World} {K : PySem.W.Frag} {mg : Str → Option Value} {base : Heap} {x qual : Str} {params : Arguments} {scope : Scope} {f : Addr} {fd : FuncData} {dvs : List V} {kws : List (Str × V)} {p1 p2 p3 p4 : Pos} {k : Nat}
    (F : FunD K x qual params [.Assign [.Attribute (.Name "self" p1) "value" p2] (.Name "value" p3) p4] scope dvs kws f fd) (S : FnScope ["self", "value"] ["self", "value"] scope) : FnL P w K mg base (k + 1) f fd ["self", "value"] (spIni K) := by
  refine F.ok S spIni_len fun cdv A outer s H vs Q E hr h => ?_
  obtain ⟨a, C, y, rfl, h1, h2, h3, h4⟩ := h
  refine ⟨tOst K "value" (tVar 0) (tVar 1), pss_one (ps_ost (pv 0 rfl (vis_of (S.par "self" (by simp)))) (pv 1 rfl (vis_of (S.par "value" (by simp))))), ?_⟩
  exact ⟨y, rfl, .ref a, rfl, a, C, rfl, h2, h3, .inl ⟨h1, fun dx e1 e2 => h4 dx e1 e2⟩⟩
/-- an own exception class -/
structure ExF (P : Program) (w : World) (K : PySem.W.Frag) (mg : Str → Option Value) (base : Heap) (k : Nat) (x : Str) (C : Addr) : Prop where
  gm : mg x = some (.ref C)
  oex : OexC K C
  no : PySem.W.findIn K (.ref C) "value" = some none
  ini : ∃ fI fd ps, PySem.W.findIn K (.ref C) "__init__" = some (some (.ref fI)) ∧ PySem.W.typeIn K (.ref fI) = some (.type "function") ∧ L2.Binds K fd ps [] ∧ FnL P w K mg base k fI fd ps (spIni K)
section
variable {X : Cx} {g : G} {cls : Nat → Addr} {T : List (Addr × Str)} {k : Nat}
def sRaise (n : Nat) (m : M (List D)) : MS := fun env own => (m env own).bind fun ds o => match freezeAll ds o with
  | some (xs, _) => match xs with
    | [d] => .exc n d
    | _ => .bad
  | none => .bad
theorem ms_raise (n : Nat) {x : Str} {e : Expr} {m : M (List D)} {p pos pos' : Pos} (C : Cxt X g cls T (k + 1)) (F : ExF X.prog X.w X.K X.mg X.base k x (cls n)) (ha : PA X [e] (tA g m)) (hg : Gl X x := by rfl)
    (hdb : (x == ("__debug__" : Str)) = false := by decide) (he : starEach [e] X.env = (false, eval e X.env) :: starEach [] X.env := by rfl) (hpl : (backTo pos (starEach [] X.env)).any (·.1) = false := by rfl) :
    PS X (.Raise (some (.Call (.Name x p) [e] [] pos)) none pos') (tS g (sRaise n m)) := by
  obtain ⟨fI, fd, ps, f1, f2, f3, f4⟩ := F.ini
  refine ps_imp (ps_raise C.calm C.take (pmk_oex F.oex f1 f2 f4 C.room f3 .nil (fun _ _ _ _ _ _ _ h => by
    obtain ⟨_, _, _, _, _, _, _, _, _, _, _, _, z⟩ := h
    exact z.elim) hg F.gm ha hdb he hpl)) fun D σ H h => ?_
  obtain ⟨c, env, own, r, e, h⟩ := h
  refine tA.go r e h fun ds o c1 H1 vs s1 r1 e1 rd q => ?_
  split at q
  · rename_i xs o2 hf
    split at q
    · rename_i d
      obtain ⟨c2, s2, r2, q2⟩ := freezeAll_ok r1 rd hf
      cases q2 with
      | @cons v _ _ _ rp q2 =>
        cases q2
        refine ⟨(by show 1 ≤ 1000; decide), fun a ha => ⟨a, cls n, v, by rw [List.append_nil], upd_same, F.oex, F.no, fun dx hd hda => ⟨rfl, dx, [("value", v)], upd_same, ?_, ?_, ?_⟩⟩⟩
        · rw [upd_ne hda, upd_same]
        · rw [upd_ne hda] at hd
          exact hd
        · rw [upd_ne hda] at hd
          have hS : ∀ b u, H1 b = some u → upd (del (upd (upd (upd H1 a (exo a (cls n) none)) dx (exd dx [("value", v)])) a (exo a (cls n) (some dx))) a) dx (.xd [("value", v)]) b = some u := fun b u eb => by
            have b1 : b ≠ dx := ne_of_none eb hd
            have b2 : b ≠ a := ne_of_none eb ha
            rw [upd_ne b1, del_ne b2, upd_ne b2, upd_ne b1, upd_ne b2]
            exact eb
          have := q _ dx v (fun b u eb => hS b u (r2.same _ _ eb)) (r2.tabs.ext hS) (r2.h0 hd) upd_same (Rp.mono (fun b u eb => hS b u (r2.fz _ _ eb)) rp)
          rw [C.cls] at this
          exact this
    · exact q.elim
  · exact q.elim
end
end Mir

set_option maxRecDepth 100000
set_option maxHeartbeats 4000000
namespace Mir
variable [Tab]
open PySem PySem.Spec PyProof.Rows L2
section
variable {X : Cx} {g : G} {cls : Nat → Addr} {T : List (Addr × Str)} {k : Nat}
/-! ### the script: its length, its items -/
def fLen2 : List D → Own → R D := one1 fun d own => match d with
  | .p (.dict [(.none, .list xs)]) => .ok (.p (.int (xs.length : Nat))) own
  | d => match sv d own with
    | some xs => .ok (.p (.int (xs.length : Nat))) own
    | none => .bad
theorem cr_len2 (hK : (Tab.K : PySem.W.Frag) = X.K) : CallR X (.builtin "len") (rC g fLen2) := by
  refine CallR.imp call_len fun xs H Q h0 => ?_
  obtain ⟨c, own, x, d, rfl, r, rd, h⟩ := rC_one h0
  split at h
  · rename_i ys
    cases rd with
    | @scr a ns hs =>
      have hs := SqL.same r.fz hs
      rw [hK] at hs
      exact ⟨_, _, rfl, .inl ⟨_, hs, rfl⟩, by simpa using h c H _ (Step.refl c) r (.int _)⟩
  · split at h
    · rename_i ys e
      obtain ⟨a, vs, rfl, h1, h2⟩ := sv_ok r rd e
      refine ⟨_, ys.length, rfl, ?_, h c H _ (Step.refl c) r (.int _)⟩
      rcases h1 with h1 | h1
      · exact .inl ⟨vs, SqL.of h1, h2.length.symm⟩
      · exact .inr ⟨vs, SqT.of h1, h2.length.symm⟩
    · exact h.elim
theorem me_len2 {e : Expr} {m : M (List D)} {p pos : Pos} (C : Cxt X g cls T k) (h0 : X.mg "len" = none) (ha : PA X [e] (tA g m)) (hg : Gl X "len" := by rfl) (he : starEach [e] X.env = [(false, eval e X.env)] := by rfl) : PE X (.Call (.Name "len" p) [e] [] pos) (tE g (mCall fLen2 m)) := me_callB (cr_len2 C.K) hg h0 boot_len ha (he := he)
def oIx2 : D → D → Own → R D := fun x y own => match x with
  | .p (.dict [(.none, .list xs)]) => match y with
    | .p (.int i) => match atI xs i with
      | some d => .ok (.p d) own
      | none => .bad
    | _ => .bad
  | x => oIx x y own
theorem atI_map {f : Int → PyData} {h : Int → V} {ns : List Int} {i : Int} {d : PyData} (e : atI (ns.map f) i = some d) : ∃ n, d = f n ∧ atI (ns.map h) i = some (h n) := by
  unfold L2.atI at e ⊢
  rw [List.length_map] at e ⊢
  cases q : ixN ns.length i with
  | none => rw [q] at e; cases e
  | some j =>
    rw [q] at e
    have e : (ns.map f)[j]? = some d := e
    rw [List.getElem?_map] at e
    cases q2 : ns[j]? with
    | none => rw [q2] at e; cases e
    | some n =>
      rw [q2] at e
      cases e
      refine ⟨n, rfl, ?_⟩
      show (ns.map h)[j]? = _
      rw [List.getElem?_map, q2]
      rfl
theorem or_ix2 (hK : (Tab.K : PySem.W.Frag) = X.K) : IxR X (rM g oIx2) := by
  refine IxR.imp (IxR.or ix_list (or_ix (g := g))) fun x y H Q h => ?_
  obtain ⟨c, own, dx, dy, r, rx, ry, h⟩ := h
  unfold oIx2 at h
  split at h
  · split at h
    · split at h
      · rename_i d ed
        cases rx with
        | @scr a ns hs =>
          have hs := SqL.same r.fz hs
          rw [hK] at hs
          obtain ⟨n, rfl, e2⟩ := atI_map (h := V.int) ed
          cases ry
          exact .inl ⟨a, _, _, _, rfl, rfl, hs, e2, h c H _ (Step.refl c) r (.int _)⟩
      · exact h.elim
    · exact h.elim
  · exact .inr ⟨c, own, _, dy, r, rx, ry, h⟩
/-! ### powers, divmod -/
def oPow : D → D → Own → R D := fun x y own => match x, y with
  | .p (.int i), .p (.int j) => match Nat.blt i.natAbs 18446744073709551616 && (Nat.ble j.toNat 1000 && decide (0 ≤ j)) with
    | true => .ok (.p (.int (i ^ j.toNat))) own
    | false => .bad
  | _, _ => .bad
theorem or_pow : OpR X (binaryOp .Pow) (rM g oPow) := by
  refine OpR.imp op_pow fun x y H Q h => ?_
  obtain ⟨c, own, dx, dy, r, rx, ry, h⟩ := h
  unfold oPow at h
  split at h
  · cases rx; cases ry
    split at h
    · rename_i hz
      simp only [Bool.and_eq_true, decide_eq_true_eq] at hz
      have h1 := nblt hz.1
      have h2 := Nat.le_of_ble_eq_true hz.2.1
      have h3 := hz.2.2
      exact ⟨_, _, rfl, rfl, ⟨h3, by omega, h1⟩, h c H _ (Step.refl c) r (.int _)⟩
    · exact h.elim
  · exact h.elim
def fDivmod : List D → Own → R D := fun ds own => match ds with
  | [.p (.int i), .p (.int j)] => match Nat.blt 0 j.toNat && Nat.blt j.toNat 1073741824 with
    | true => .ok (.p (.tuple [.int (i / j), .int (i % j)])) own
    | false => .bad
  | _ => .bad
theorem cm_divmod : CallR X (.builtin "divmod") (rC g fDivmod) := by
  refine CallR.imp call_divmod fun xs H Q h0 => ?_
  obtain ⟨c, own, ds, r, rd, h⟩ := h0
  unfold fDivmod at h
  split at h
  · split at h
    · rename_i hz
      rw [Bool.and_eq_true] at hz
      have h1 := nblt hz.1
      have h2 := nblt hz.2
      cases rd with
      | cons ri rd => cases rd with
        | cons rj rn =>
          cases rn
          cases ri
          cases rj
          refine ⟨_, _, rfl, ⟨by omega, by omega⟩, fun p hp => ?_⟩
          obtain ⟨c', s, r', q⟩ := r.newT hp (.cons (.int _) (.cons (.int _) .nil))
          exact h c' _ _ s r' q
    · exact h.elim
  · exact h.elim
theorem me_divmod {e e2 : Expr} {m : M (List D)} {p pos : Pos} (h0 : X.mg "divmod" = none) (ha : PA X [e, e2] (tA g m)) (hg : Gl X "divmod" := by rfl) (he : starEach [e, e2] X.env = (false, eval e X.env) :: starEach [e2] X.env := by rfl) (hpl : (backTo pos (starEach [e2] X.env)).any (·.1) = false := by rfl) :
    PE X (.Call (.Name "divmod" p) [e, e2] [] pos) (tE g (mCall fDivmod m)) := me_callB cm_divmod hg h0 (by decide +kernel) ha (he := he) (hpl := hpl)
/-! ### xs[i], y = a pair -/
def sAsgSN (i : Nat) (me mo mi : M D) : MS := fun env own => (me env own).bind fun d o => match d with
  | .p (.tuple [a, b]) => (mo env o).bind fun x o => (mi env o).bind fun y o => match x, y with
    | .own k, .p (.int j) => match o[k]? with
      | some (.lst m xs) => match m with
        | .ours => match ixN xs.length j with
          | some n => .ok (.nx (env.set i (some (.p b)))) (o.set k (.lst .ours (xs.set n a)))
          | none => .bad
        | _ => .bad
      | none => .bad
    | _, _ => .bad
  | _ => .bad
theorem ms_asgSN (i : Nat) {y : Str} {o ix e : Expr} {me mo mi : M D} {p py p1 pos : Pos} {k1} (hc : X.calm = true) (hN : X.N.Nodup) (he : PE X e (tE g me)) (ho : PE X o (tE g mo)) (hi : PE X ix (tE g mi)) (hy : X.N[i]? = some y := by rfl) (hx : Loc X.env.scope y := by first | exact Or.inl rfl | exact Or.inr rfl)
    (hf : X.fn y = true ∨ X.env.scope.names.lookup y = some .local := by first | exact .inl rfl | exact .inr rfl | assumption)
    (hs : swapsWithSole [.Tuple [.Subscript o ix p, .Name y py] k1 p1] e pos.line X.env = pure false := by rfl) (hw : swappedStores [.Tuple [.Subscript o ix p, .Name y py] k1 p1] e X.env = pure none := by rfl)
    (h1 : (assignEach [.Tuple [.Subscript o ix p, .Name y py] k1 p1] X.env).map (·.2) = [assign (.Tuple [.Subscript o ix p, .Name y py] k1 p1) X.env] := by rfl)
    (hn : (assignEach [.Subscript o ix p, .Name y py] X.env).length = 2 := by rfl) (hst : (assignEach [.Subscript o ix p, .Name y py] X.env).findIdx? (·.1) = none := by rfl)
    (hc1 : (assignEach [.Subscript o ix p, .Name y py] X.env).map (·.2) = assign (.Subscript o ix p) X.env :: (assignEach [.Name y py] X.env).map (·.2) := by rfl)
    (hc2 : (assignEach [.Name y py] X.env).map (·.2) = assign (.Name y py) X.env :: (assignEach [] X.env).map (·.2) := by rfl)
    (ha : ∀ v, assign (.Subscript o ix p) X.env v = (do
      let ov ← holding [v] (eval o X.env)
      let iv ← holding [v, ov] (eval ix X.env)
      standAt p
      holding [v, ov, iv] (setItem ov iv v)
      release [v, ov, iv] []) := by intro _; rfl) : PS X (.Assign [.Tuple [.Subscript o ix p, .Name y py] k1 p1] e pos) (tS g (sAsgSN i me mo mi)) := by
  refine ps_imp (ps_asg he (pg_tup hc (pgs_cons (pg_sub ho hi set_list ha) (pgs_cons (pg_name hN hy hx hf) pgs_nil hc2) hc1) hn hst) hs hw h1) fun D σ H h => ?_
  obtain ⟨c, env, own, r, e, h⟩ := h
  refine tE.go r e h fun d o1 c1 H1 v1 s1 r1 e1 d1 h1 => ?_
  split at h1
  · rename_i a b
    cases d1 with
    | @tup t vs _ f1 f2 =>
      cases f2 with
      | @cons va _ _ _ ra f2 => cases f2 with
        | @cons vb _ _ _ rb f2 =>
          cases f2
          refine ⟨t, _, rfl, SqT.of (r1.fz _ _ f1), rfl, va, _, rfl, ?_⟩
          refine tE.go r1 e1 h1 fun x o2 c2 H2 v2 s2 r2 e2 d2 h2 => ?_
          refine tE.go r2 e2 h2 fun y o3 c3 H3 v3 s3 r3 e3 d3 h3 => ?_
          split at h3
          · rename_i k j
            split at h3
            · rename_i m xs ek
              split at h3
              · split at h3
                · rename_i n en
                  cases d3
                  obtain ⟨q, ea, rfl⟩ := d2.step s3
                  obtain ⟨cell, e2', z⟩ := r3.cell ea
                  rw [ek] at e2'
                  cases e2'
                  cases z with
                  | ours z1 z2 z3 z4 =>
                    have ra3 := Rp.mono (s2.trans s3).fz ra
                    have rb3 := Rp.mono (s2.trans s3).fz rb
                    refine ⟨q, _, j, n, rfl, rfl, z1, by rw [z2.length]; exact en, vb, _, rfl, rfl, ?_⟩
                    exact h3 c3 _ _ (s1.trans (s2.trans s3)) (r3.write ea ek (z2.set ra3 n)) (e3.set (show RelD c3 vb (.p b) from rb3) i)
                · exact h3.elim
              · exact h3.elim
            · exact h3.elim
          · exact h3.elim
  · exact h1.elim
end
end Mir

set_option maxRecDepth 100000
set_option maxHeartbeats 4000000
namespace Mir
variable [Tab]
open PySem PySem.Spec PyProof.Rows L2
/-! ### a list of two ints, opaque -/
theorem potO_own {a x : Addr} : potO a ≠ .own x := fun z => by
  have z' : HO.ext _ = HO.own x := z
  cases z'
theorem potO_tup {a : Addr} {xs : List V} : potO a ≠ .tup xs := fun z => by
  have z' : HO.ext _ = HO.tup xs := z
  cases z'
theorem potO_frz {a : Addr} {o : Obj} {u : HO} : potO a ≠ .frz o u := fun z => by
  have z' : HO.ext _ = HO.frz o u := z
  cases z'
theorem potO_tbl {a : Addr} {ps : Array Value} : potO a ≠ .tbl ps := fun z => by
  have z' : HO.ext _ = HO.tbl ps := z
  cases z'
section
variable {P : Program} {w : World} {H : Hp} {h : Heap} {a : Addr}
/-- one label for another: the new one holds, the old one is none that others lean on -/
theorem hok_relabel {o u : HO} (hk : HOk P w H h) (ha : H a = some o) (n1 : ∀ x, o ≠ .own x) (n2 : ∀ xs, o ≠ .tup xs) (new : ObjOk P w (upd H a u) h a u) : HOk P w (upd H a u) h := fun b v hb => by
  by_cases e : b = a
  · subst e
    rw [upd_same] at hb
    cases hb
    exact new
  · rw [upd_ne e] at hb
    refine (hk b v hb).stay (fun c z _ q => q) (fun c q => ?_) fun c xs q => ?_
    · rw [upd_ne (fun e' => n1 _ (Option.some.inj ((e' ▸ ha).symm.trans q)))]
      exact q
    · rw [upd_ne (fun e' => n2 _ (Option.some.inj ((e' ▸ ha).symm.trans q)))]
      exact q
theorem pot_lst (hk : HOk P w H h) (ha : H a = some (potO a)) : ∃ i j : Int, 0 ≤ i ∧ 0 ≤ j ∧ HOk P w (upd H a (.lst [.int i, .int j])) h := by
  obtain ⟨⟨i, j, t, u, n, h1, h2, h3⟩, _, _⟩ : ObjOk P w H h a (.ext fun h => ∃ (i j : Int) (t u : Tok) (n : Nat), 0 ≤ i ∧ 0 ≤ j ∧ h.get? a = some { cls := .type "list", data := .seq #[.int i t, .int j u] n }) := hk a _ ha
  refine ⟨i, j, h1, h2, hok_relabel hk ha (fun _ => potO_own) (fun _ => potO_tup) ⟨(by show 2 ≤ sizeLine; decide), [.int i t, .int j u], n, .cons ⟨t, rfl⟩ (.cons ⟨u, rfl⟩ .nil), h3⟩⟩
theorem lst_pot {i j : Int} (hk : HOk P w H h) (ha : H a = some (.lst [.int i, .int j])) (hi : 0 ≤ i) (hj : 0 ≤ j) : HOk P w (upd H a (potO a)) h := by
  obtain ⟨_, its, n, rv, e⟩ : ObjOk P w H h a (.lst [.int i, .int j]) := hk a _ ha
  cases rv with
  | cons r1 rv => cases rv with
    | cons r2 rv =>
      cases rv
      obtain ⟨t, rfl⟩ := r1
      obtain ⟨u, rfl⟩ := r2
      refine hok_relabel hk ha (fun x z => by cases z) (fun x z => by cases z) ⟨⟨i, j, t, u, n, hi, hj, e⟩, ⟨_, e⟩, fun h1 h2 z k => ?_⟩
      obtain ⟨i', j', t', u', n', q1, q2, q3⟩ := z
      exact ⟨i', j', t', u', n', q1, q2, k _ q3⟩
end
section
variable {P : Program} {w : World} {K : PySem.W.Frag} {mg : Str → Option Value} {base : Heap} {k : Nat} {f : Addr} {fd : FuncData} {ps : List Str}
theorem code_pot {H : Hp} {h : Heap} {a : Addr} (hk : HOk P w H h) (ha : H a = some (potO a)) (q : Str) : LamX.CodeO a q ≠ potO a := fun e => by
  obtain ⟨⟨i, j, t, u, n, h1, h2, h3⟩, _, _⟩ : ObjOk P w H h a (.ext fun h => ∃ (i j : Int) (t u : Tok) (n : Nat), 0 ≤ i ∧ 0 ≤ j ∧ h.get? a = some { cls := .type "list", data := .seq #[.int i t, .int j u] n }) := hk a _ ha
  rw [← e] at ha
  obtain ⟨⟨oc, vs, t', e1, e2, _⟩, _, _⟩ : ObjOk P w H h a (.ext fun h => ∃ (oc : Obj) (vs : Array Value) (t : Tok), h.get? a = some oc ∧ oc.data = Data.fields vs ∧ vs[1]? = some (Value.str q t)) := hk a _ ha
  rw [h3] at e1
  cases e1
  cases e2
theorem cx_false {outer : List PySem.Env} {H : Hp} {s : Shared} {e : Value} {s' : Shared} (h : L2.CX P w outer H s E0 e s') : False := by
  obtain ⟨_, _, _, _, _, _, _, _, _, _, _, _, z⟩ := h
  exact z.elim
/-- the opaque list is opened for a call -/
theorem pot_open {sp sp2 : Sp} (F : FnL P w K mg base k f fd ps sp2) (len : ∀ vs H Q E, sp vs H Q E → vs.length = ps.length)
    (h : ∀ vs H Q E, sp vs H Q E → ∃ a, H a = some (potO a) ∧ ((∀ q, LamX.CodeO a q ≠ potO a) → ∀ i j : Int, 0 ≤ i → 0 ≤ j → sp2 vs (upd H a (.lst [.int i, .int j])) (fun v H2 => (∃ i' j' : Int, 0 ≤ i' ∧ 0 ≤ j' ∧ H2 a = some (.lst [.int i', .int j'])) ∧ Q v (upd H2 a (potO a))) E0)) :
    FnL P w K mg base k f fd ps sp := by
  refine ⟨len, fun A outer s H args us vs Q E hr e0 hb hv hs => ?_⟩
  obtain ⟨a, ha, h2⟩ := h vs H Q E hs
  obtain ⟨i, j, hi, hj, hk⟩ := pot_lst e0.hok ha
  have na : ∀ b, H b = none → b ≠ a := fun b n e => by rw [e, ha] at n; cases n
  have e2 : Env0 P w K mg base A outer s (upd H a (.lst [.int i, .int j])) := ⟨e0.frames, e0.mod, fun b o eb => ⟨(e0.bs b o eb).1, by rw [upd_ne (na _ (e0.bs b o eb).2)]; exact (e0.bs b o eb).2⟩, e0.bsz, e0.funs, fun b hb => by rw [upd_ne (na _ (e0.frf b hb))]; exact e0.frf b hb, hk, e0.bare⟩
  refine codeAny_mono (F.run A outer s _ args us vs _ E0 hr e2 hb hv (h2 (code_pot e0.hok ha) i j hi hj)) fun r s' hq => ?_
  cases r with
  | error e => exact (cx_false hq).elim
  | ok fl =>
    cases fl with
    | ret u =>
      obtain ⟨v, H2, os, bare, un, hok, rv, ⟨i', j', hi', hj', e'⟩, q⟩ := hq
      have nb : ∀ {b : Addr} {o : HO}, H b = some o → (o ≠ potO a) → b ≠ a := fun {b o} e n z => n (by rw [z, ha] at e; exact (Option.some.inj e).symm)
      have at2 : ∀ {b : Addr} {o : HO}, b ≠ a → H b = some o → upd H a (.lst [.int i, .int j]) b = some o := fun {b o} n e => by rw [upd_ne n]; exact e
      refine ⟨v, upd H2 a (potO a), os, bare, ⟨fun b o z n => ?_, fun b o z n => ?_, fun b o z n x => ?_, fun b o z x => un.there b o z x, fun b xs z => ?_, fun b o u z => ?_, fun b qs z => ?_⟩, lst_pot hok e' hi' hj', rv, q⟩
      · exact un.keep b o z (by rw [upd_ne (na _ n)]; exact n)
      · exact un.slot b o z (by rw [upd_ne (na _ n)]; exact n)
      · rw [upd_ne (na _ n)]
        exact un.free b o z (by rw [upd_ne (na _ n)]; exact n) x
      · have n := nb z (fun q => potO_tup q.symm)
        rw [upd_ne n]
        exact un.tups b xs (at2 n z)
      · have n := nb z (fun q => potO_frz q.symm)
        rw [upd_ne n]
        exact un.frzs b o u (at2 n z)
      · have n := nb z (fun q => potO_tbl q.symm)
        rw [upd_ne n]
        exact un.tbls b qs (at2 n z)
    | next => exact False.elim hq
    | brk => exact False.elim hq
    | cont => exact False.elim hq
/-! ### a draw -/
def mDraw : Fn := fun as => match as with
  | [.p (.dict [(.none, .none)]), .p (.int n)] => match Nat.blt 0 n.toNat && Nat.blt n.toNat 1073741824 with
    | true => .draw n.toNat fun d => .ok (.v (.int (d : Nat))) []
    | false => .bad
  | _ => .bad
variable {cls : Nat → Addr} {T : List (Addr × Str)}
def spDraw (T : List (Addr × Str)) : Sp := fun vs H Q _ => ∃ (a : Addr) (i j n : Int), vs = [.ref a, .int n] ∧ H a = some (.lst [.int i, .int j]) ∧ 0 ≤ i ∧ 0 ≤ j ∧ 0 < n ∧ n < 1073741824 ∧ LamX.Tabs T H ∧
  ∀ (i' j' d : Int) (H' : Hp), 0 ≤ i' → 0 ≤ j' → 0 ≤ d → d < n → (∀ b o, b ≠ a → nt H b = some o → H' b = some o) → LamX.Tabs T H' → H' a = some (.lst [.int i', .int j']) → Q (.int d) H'
theorem draw_body {x qual : Str} {params : Arguments} {body : List Stmt} {scope : Scope} {N : List Str} {ms : MS} {dvs : List V} {kws : List (Str × V)} (F : FunD K x qual params body scope dvs kws f fd) (hps : ps.length = 2) (S : FnScope N ps scope) (hN : N.length = 3) (hK : (Tab.K : PySem.W.Frag) = K)
    (hb : ∀ (cdv : Value) (A : Around) (outer : List PySem.Env) (s : Shared) (H : Hp) (E : XK) (g : G), Cxt (cxL P w K mg base N qual scope f cdv A outer s H E) g cls T k → PSs (cxL P w K mg base N qual scope f cdv A outer s H E) body (tS g ms))
    (pure_ : ∀ i j n : Int, 0 ≤ i → 0 ≤ j → 0 < n → n < 1073741824 → ∃ i' j' d : Int, 0 ≤ i' ∧ 0 ≤ j' ∧ 0 ≤ d ∧ d < n ∧ ms [some (.own 0), some (.p (.int n)), none] [.lst .ours [.int i, .int j]] = .ok (.rt (.p (.int d))) [.lst .ours [.int i', .int j']]) :
    FnL P w K mg base (k + 1) f fd ps (spDraw T) := by
  refine F.ok S (fun vs H Q E h => by obtain ⟨_, _, _, _, e, _⟩ := h; rw [e, hps]; rfl) fun cdv A outer s H vs Q E hr h => ?_
  obtain ⟨a, i, j, n, rfl, ha, hi, hj, h1, h2, ht, q⟩ := h
  obtain ⟨i', j', d, k1, k2, k3, k4, e⟩ := pure_ i j n hi hj h1 h2
  refine ⟨_, hb cdv A outer s H E ⟨del (nt H) a, fun _ => none, [], E, cls, T⟩ ⟨S.nd, rfl, passes_of rfl, hr, takes_of rfl rfl rfl rfl, rfl, rfl, hK⟩, ?_⟩
  refine ⟨⟨fun _ => none, [a], []⟩, [some (.own 0), some (.p (.int n)), none], [.lst .ours [.int i, .int j]], ⟨fun b o z => (by cases z), fun b o z => ?_, fun b z => absurd z (by simp), fun b qs z => ?_, fun b qs z => (by cases z), ht, fun b o z => z, fun b o z1 z2 => rfl, rfl, by simp, fun m xs z => absurd z (by simp), fun m b cell z1 z2 => ?_⟩, ⟨?_, ?_⟩, ?_⟩
  · by_cases hb : b = a
    · subst hb
      have z : del (nt H) b b = some o := z
      rw [del_same] at z
      cases z
    · have z : del (nt H) a b = some o := z
      rw [del_ne hb] at z
      exact nt_same H b o z
  · by_cases hb : b = a
    · subst hb
      have z : del (nt H) b b = _ := z
      rw [del_same] at z
      cases z
    · have z : del (nt H) a b = _ := z
      rw [del_ne hb] at z
      exact nt_ntb H b qs z
  · match m, z1, z2 with
    | 0, z1, z2 =>
      simp at z1 z2
      subst z1 z2
      exact .ours ha (.cons (.int i) (.cons (.int j) .nil)) del_same rfl
    | m + 1, z1, z2 => simp at z1
  · unfold L2.start
    simp [hN]
  · intro m d' hm
    match m, hm with
    | 0, hm => simp at hm; subst hm; exact ⟨.ref a, by unfold L2.start; rfl, a, rfl, rfl⟩
    | 1, hm => simp at hm; subst hm; exact ⟨.int n, by unfold L2.start; rfl, .int n⟩
    | 2, hm => simp at hm
    | m + 3, hm => simp at hm
  · rw [e]
    intro c' H' v st r rd
    obtain ⟨l, hl⟩ := st.rho
    have h0 : c'.rho[0]? = some a := by rw [hl]; rfl
    have z := r.cells 0 a _ h0 (show ([Cell.lst .ours [.int i', .int j']] : Own)[0]? = some _ from rfl)
    cases rd
    cases z with
    | ours z1 z2 z3 z4 =>
      cases z2 with
      | cons y1 z2 => cases z2 with
        | cons y2 z2 =>
          cases z2
          cases y1
          cases y2
          refine q i' j' d H' k1 k2 k3 k4 (fun b o hb eb => r.same b o ?_) r.tabs z1
          show del (nt H) a b = some o
          rw [del_ne hb]
          exact eb
theorem tabs_pot {H : Hp} {a : Addr} {u : HO} (t : LamX.Tabs T H) (ha : H a = some (potO a)) (n : ∀ q, LamX.CodeO a q ≠ potO a) : LamX.Tabs T (upd H a u) := fun q hq => by
  obtain ⟨qs, h1, h2, h3⟩ := t q hq
  have n1 : q.1 ≠ a := fun e => by rw [e, ha] at h1; exact potO_tbl (Option.some.inj h1)
  refine ⟨qs, by rw [upd_ne n1]; exact h1, h2, fun pos cv hc => ?_⟩
  obtain ⟨c, e1, e2⟩ := h3 pos cv hc
  refine ⟨c, e1, ?_⟩
  have n2 : c ≠ a := fun e => by
    subst e
    rw [ha] at e2
    exact n _ (Option.some.inj e2).symm
  rw [upd_ne n2]
  exact e2
/-- a draw from the opaque list -/
theorem draw_ok {j : Nat} (F : FnL P w K mg base j f fd ps (spDraw T)) (hps : ps.length = 2) : FnL P w K mg base j f fd ps (spF cls T 2 mDraw) := by
  refine pot_open F (fun vs H Q E h => by rw [hps]; exact spF_len _ _ _ _ h) fun vs H Q E h => ?_
  obtain ⟨fz, as, n1, sf, tb, ha, hl, nd, h⟩ := h
  unfold mDraw at h
  split at h
  · rename_i n
    cases ha with
    | @cons _ vs1 _ _ ra ha => cases ha with
      | @cons v2 _ _ _ rn ha =>
        cases ha
        cases ra with
        | @pot a ea =>
          cases rn
          have hH := sf _ _ ea
          refine ⟨a, hH, fun nc i j hi hj => ?_⟩
          split at h
          · rename_i hz
            rw [Bool.and_eq_true] at hz
            have h1 := nblt hz.1
            have h2 := nblt hz.2
            refine ⟨a, i, j, n, rfl, upd_same, hi, hj, by omega, by omega, tabs_pot tb hH nc, fun i' j' d H' k1 k2 k3 k4 k5 k6 k7 => ⟨⟨i', j', k1, k2, k7⟩, ?_⟩⟩
            have hd : ∀ H' v, Same (nt H) H' → LamX.Tabs T H' → RetOk fz (nt H) H' v (.v (.int ((d.toNat : Nat) : Int))) → Q v H' := h d.toNat (by omega)
            rw [Int.toNat_of_nonneg k3] at hd
            have sm : Same (nt H) (upd H' a (potO a)) := fun b o eb => by
              by_cases hb : b = a
              · subst hb
                rw [nt_at hH fun qs => potO_tbl] at eb
                cases eb
                exact upd_same
              · rw [upd_ne hb]
                refine k5 b o hb ?_
                unfold nt at eb ⊢
                rw [upd_ne hb]
                exact eb
            exact hd _ _ sm (tabs_lst k6 k7) ⟨fz, n1, Same.refl _, fun b o e => sm _ _ (nt_at (sf _ _ e) fun qs z => n1 b qs (by rw [e, z])), fun b o _ e => e, .int d⟩
          · exact h.elim
  · exact absurd h (by simp [Post])
/-! ### the opaque list is made -/
def mPot : Fn := fun as => match as with
  | [.p (.dict [(.none, .list _)]), .p (.int k)] => match Nat.blt k.natAbs 1000 && decide (0 ≤ k) with
    | true => .ok (.v potD) []
    | false => .bad
  | _ => .bad
theorem pot_ok {j : Nat} {m : Fn} (F : FnL P w K mg base j f fd ps (spF cls T 2 m)) (hps : ps.length = 2) (hp : ∀ (ns : List Int) (k : Int), 0 ≤ k → k < 1000 → ∃ x y : Int, 0 ≤ x ∧ 0 ≤ y ∧ m [.p (scrD ns), .p (.int k)] = .ok (.l [.int x, .int y]) []) :
    FnL P w K mg base j f fd ps (spF cls T 2 mPot) := by
  refine ⟨fun vs H Q E h => by rw [hps]; exact spF_len _ _ _ _ h, fun A outer s H args us vs Q E hr e0 hb hv hs => ?_⟩
  obtain ⟨fz, as, n1, sf, tb, ha, hl, nd, h⟩ := hs
  unfold mPot at h
  split at h
  · rename_i ds k
    cases ha with
    | @cons _ vs1 _ _ ra ha => cases ha with
      | @cons v2 _ _ _ rn ha =>
        cases ha
        cases ra with
        | @scr a ns hsc =>
          cases rn
          split at h
          · rename_i hz
            simp only [Bool.and_eq_true, decide_eq_true_eq] at hz
            have h1 := nblt hz.1
            obtain ⟨x, y, hx, hy, e⟩ := hp ns k hz.2 (by omega)
            refine codeAny_mono (F.run A outer s H args us _ (fun v H2 => ∃ p, v = .ref p ∧ H2 p = some (.lst [.int x, .int y]) ∧ Q v (upd H2 p (potO p))) E0 hr e0 hb hv ⟨fz, [.p (scrD ns), .p (.int k)], n1, sf, tb, .cons (.scr hsc) (.cons (.int k) .nil), rfl, by exact List.nodup_nil, ?_⟩) fun r s' hq => ?_
            · rw [e]
              intro H' v sm tb' rt
              obtain ⟨fz', m1, m2, m3, m4, p, ws, rfl, p1, p2, p3, p4⟩ := rt
              cases p4 with
              | cons y1 p4 => cases p4 with
                | cons y2 p4 =>
                  cases p4
                  cases y1
                  cases y2
                  refine ⟨p, rfl, p3, h _ _ (fun b o eb => ?_) (tabs_lst tb' p3) ⟨upd fz' p (potO p), m1.upd fun qs => potO_tbl, m2.trans (same_new p2), fun b o eb => ?_, fun b o eb1 eb2 => ?_, .pot upd_same⟩⟩
                  · rw [upd_ne (ne_of_none eb p1)]
                    exact sm _ _ eb
                  · by_cases hbp : b = p
                    · subst hbp
                      rw [upd_same] at eb ⊢
                      exact eb
                    · rw [upd_ne hbp] at eb ⊢
                      exact m3 _ _ eb
                  · rw [upd_ne (ne_of_none eb1 p1)]
                    exact m4 b o eb1 eb2
            · cases r with
              | error e => exact (cx_false hq).elim
              | ok fl =>
                cases fl with
                | ret u =>
                  obtain ⟨v, H2, os, bare, un, hok, rv, p, rfl, ep, q⟩ := hq
                  have nb : ∀ {b : Addr} {o : HO}, H2 b = some o → (o ≠ .lst [.int x, .int y]) → b ≠ p := fun {b o} e n z => n (by rw [z, ep] at e; exact (Option.some.inj e).symm)
                  refine ⟨_, upd H2 p (potO p), os, bare, ⟨fun b o z n => un.keep b o z n, fun b o z n => un.slot b o z n, fun b o z n x => ?_, fun b o z x => un.there b o z x, fun b xs z => ?_, fun b o u z => ?_, fun b qs z => ?_⟩, lst_pot hok ep hx hy, rv, q⟩
                  · have z2 := un.free b o z n x
                    rw [upd_ne (fun e => by rw [e, ep] at z2; cases z2)]
                    exact z2
                  · have z2 := un.tups b xs z
                    rw [upd_ne (nb z2 (fun e => by cases e))]
                    exact z2
                  · have z2 := un.frzs b o u z
                    rw [upd_ne (nb z2 (fun e => by cases e))]
                    exact z2
                  · obtain ⟨more, z2⟩ := un.tbls b qs z
                    rw [upd_ne (nb z2 (fun e => by cases e))]
                    exact ⟨more, z2⟩
                | next => exact False.elim hq
                | brk => exact False.elim hq
                | cont => exact False.elim hq
          · exact h.elim
  · exact h.elim
end
end Mir

set_option maxRecDepth 100000
set_option maxHeartbeats 4000000
namespace Mir
variable [Tab]
open PySem PySem.Spec PyProof.Rows L2
/-! ### facts of own exception classes, as a Bool -/
def oexB (K : PySem.W.Frag) (C : Addr) : Bool :=
  (match K.lookup C with
  | some ⟨.type "type", _, .cls cd, sl⟩ => (match cd.mro, sl.toList with
    | .ref C' :: bm, [_, _, _, _, some (.builtin n), _] => C' == C && (n == "ValueError.__new__" && (!cd.hasDel && (cd.hasDict && PySem.HandSPX.refsVE bm)))
    | _, _ => false)
  | _ => false) && (decide (PySem.W.findIn K (.ref C) "__setattr__" = some (some (.builtin "object.__setattr__"))) && (decide (PySem.W.subIn K (.ref C) (.type "BaseException") = some true) && (decide (PySem.W.typeIn K (.ref C) = some (.type "type")) && PySem.W.keepIn K (.ref C))))
theorem oexB_ok {K : PySem.W.Frag} {C : Addr} (h : oexB K C = true) : OexC K C := by
  unfold oexB at h
  simp only [Bool.and_eq_true, decide_eq_true_eq] at h
  obtain ⟨h1, h2, h3, h4, h5⟩ := h
  refine ⟨?_, h2, h3, h4, h5⟩
  split at h1
  · rename_i dd cd sl hl
    split at h1
    · rename_i C' bm k0 k1 k2 k3 n k5 hm hs
      simp only [Bool.and_eq_true, beq_iff_eq, Bool.not_eq_true'] at h1
      obtain ⟨rfl, rfl, q1, q2, q3⟩ := h1
      obtain ⟨nm, bs, mro, ns, qn, hd, sn, sub, ab, col, del⟩ := cd
      dsimp only at hm q1 q2
      subst hm q1 q2
      have es : sl = #[k0, k1, k2, k3, some (.builtin "ValueError.__new__"), k5] := Array.toList_inj.mp hs
      subst es
      exact ⟨nm, qn, ns, bs, bm, sn, sub, ab, col, dd, k0, k1, k2, k3, k5, hl, q3⟩
    · cases h1
  · cases h1
/-- the class x, whose __init__ is B's -/
def exB (K : PySem.W.Frag) (x B : Str) : Bool := oexB K (He.ga K x) && (decide (PySem.W.findIn K (.ref (He.ga K x)) "value" = some none) &&
  (decide (PySem.W.findIn K (.ref (He.ga K x)) "__init__" = some (some (.ref (He.ma K (He.ga K B) "__init__")))) && decide (PySem.W.typeIn K (.ref (He.ma K (He.ga K B) "__init__")) = some (.type "function"))))
theorem exF_of {P : Program} {w : World} {K : PySem.W.Frag} {mg : Str → Option Value} {base : Heap} {k : Nat} {x B : Str} {qual : Str} {params : Arguments} {scope : Scope} {fd : FuncData} {v : V} {p1 p2 p3 p4 : Pos} (hm : mg x = some (.ref (He.ga K x))) (h : exB K x B = true)
    (F : FunD K "__init__" qual params [.Assign [.Attribute (.Name "self" p1) "value" p2] (.Name "value" p3) p4] scope [v] [] (He.fAd K (B, some "__init__")) fd) (S : FnScope ["self", "value"] ["self", "value"] scope)
    (hb : ∀ (T : Addr) (kV doc pm : Value) (an : Option Addr) (cdv ct : Value) (us its : List Value), us.length = 2 → its.length = 1 →
      ∃ k, bindArgs (PySem.W.fnOf "__init__" qual params [.Assign [.Attribute (.Name "self" p1) "value" p2] (.Name "value" p3) p4] scope (.ref T) kV doc pm an cdv ct) ⟨us, []⟩ = seqItems? (.ref T) >>= k ∧ k (some its.toArray) = pure ((["self", "value"] : List Str).zip (us ++ its.drop 1))) :
    ExF P w K mg base (k + 1) x (He.ga K x) := by
  unfold exB at h
  simp only [Bool.and_eq_true, decide_eq_true_eq] at h
  obtain ⟨h1, h2, h3, h4⟩ := h
  obtain ⟨ds, hv, hd⟩ := FunD.binds1 (ps := ["self", "value"]) F 2 1 (by simp) rfl hb
  cases hv
  exact ⟨hm, oexB_ok h1, h2, _, fd, ["self", "value"], h3, h4, hd, ini_ok F S⟩
end Mir
namespace Mir
open PySem PySem.Spec PyProof.Rows L2
theorem oMul_r {i j : Int} {own : Own} (h : Nat.blt j.natAbs 18446744073709551616 = true) : oMul (.p (.int i)) (.p (.int j)) own = .ok (.p (.int (i * j))) own := by
  unfold oMul
  simp only [h]
  cases Nat.blt i.natAbs 18446744073709551616 <;> rfl
theorem oMul_l {i j : Int} {own : Own} (h : Nat.blt i.natAbs 18446744073709551616 = true) : oMul (.p (.int i)) (.p (.int j)) own = .ok (.p (.int (i * j))) own := by
  unfold oMul
  simp only [h]
theorem oMod_n {i j : Int} {own : Own} (h : Nat.blt 0 j.toNat = true) : oMod (.p (.int i)) (.p (.int j)) own = .ok (.p (.int (i % j))) own := by
  unfold oMod
  simp only [h]
theorem oFdiv_n {i j : Int} {own : Own} (h : (Nat.blt 0 j.toNat && Nat.blt j.toNat 1073741824) = true) : oFdiv (.p (.int i)) (.p (.int j)) own = .ok (.p (.int (i / j))) own := by
  unfold oFdiv
  simp only [h]
theorem blt_of {a b : Nat} (h : a < b) : Nat.blt a b = true := Nat.ble_eq_true_of_le h
end Mir

set_option maxRecDepth 100000
set_option maxHeartbeats 4000000
namespace Mir
variable [Tab]
open PySem PySem.Spec PyProof.Rows L2
section
variable {X : Cx} {g : G} {cls : Nat → Addr} {T : List (Addr × Str)} {k : Nat}
/-! ### lambdas that are kept -/
theorem RelH.extN {c : C} {own : Own} {H H' : Hp} (r : RelH g c own H) (e : LamX.ExtN H H') (t : LamX.Tabs g.T H') : RelH g c own H' :=
  ⟨fun b o z => e b o (r.fz _ _ z) fun ps q => r.ntf b ps (by rw [z, q]), fun b o z => e b o (r.same _ _ z) fun ps q => r.nt0 b ps (by rw [z, q]), r.lnH, r.nt0, r.ntf, t, r.base, r.low, r.len, r.nd, r.lks, fun j a cell z1 z2 => by
    have q := r.cells j a cell z1 z2
    obtain ⟨us, eo⟩ := q.isl r.fz
    exact q.up (Same.refl _) (fun o z => e _ _ z fun ps w => by rw [eo, w] at z; cases z) fun z => z⟩
/-- what the making of lambda number n asks -/
structure LamB (X : Cx) (T : List (Addr × Str)) (n : Nat) (params : Arguments) (body : Expr) (scope : Scope) : Prop where
  tb : ∃ c P, LamX.TabB X.base X.mg c P ∧ X.env.code = .ref c ∧ (P, X.env.qual ++ "<lambda>") ∈ T ∧ ∀ p ∈ T, p.1 = P → p.2 = X.env.qual ++ "<lambda>"
  df : defaultsOf params X.env = ([], [])
  sc : LamX.LamS X.env.scope scope
  tab : Tab.tab n = ⟨X.env.qual ++ "<lambda>", params, body, scope⟩
def clo (X : Cx) (n : Nat) : List (Str × Addr) := cloFrom X.env.cells (Tab.tab n).scope.names []
theorem lamO_ok {P : Program} {w : World} {H : Hp} {h : Heap} {f c' : Addr} {n : Nat} {cl : List (Str × Addr)} {pm ctv : Value} (e : h.get? f = some (PySem.W.kla_obj "<lambda>" (Tab.tab n).qual (Tab.tab n).params (Tab.tab n).body (Tab.tab n).scope cl pm c' ctv)) : ObjOk P w H h f (lamO f c' n cl) :=
  ⟨⟨pm, ctv, e⟩, ⟨_, e⟩, fun h1 h2 z st => by
    obtain ⟨pm', ctv', z⟩ := z
    exact ⟨pm', ctv', st _ z⟩⟩
def tLam (X : Cx) (T : List (Addr × Str)) (n : Nat) : TE := fun _ H Q => LamX.Tabs T H ∧ ∀ (f c' : Addr) (H' : Hp), LamX.ExtN H H' → LamX.Tabs T H' → H f = none → H' f = some (lamO f c' n (clo X n)) → H' c' = some (LamX.CodeO c' (Tab.tab n).qual) → Q (.ref f) H'
theorem pe_lam {n : Nat} {params : Arguments} {body : Expr} {scope : Scope} {pos : Pos} (B : LamB X T n params body scope) : PE X (.Lambda params body scope pos) (tLam X T n) := by
  refine ⟨fun pins s σ H Q J h => ?_⟩
  obtain ⟨hT, h⟩ := h
  obtain ⟨c, P, TB, hcode, hm, hu⟩ := B.tb
  obtain ⟨ps, hP, ht, ha⟩ := hT _ hm
  have bP := TB.bm.keeps J.bk
  have oP : s.heap.get? P = some { cls := .none, data := .fields ps } := J.hok P _ hP
  have eq_ : clo X n = cloFrom X.env.cells scope.names [] := by unfold clo; rw [B.tab]
  have qq : (Tab.tab n).qual = X.env.qual ++ "<lambda>" := by rw [B.tab]
  refine PySem.W.kla_eval B.df ?_
  cases hc : codeAmong pos ps.toList with
  | none =>
    refine PySem.W.kla_makeFunction (mg := X.mg) (c := c) (P := P) (ps := ps) (closure_ok (B.sc.has J.ok)) J.ok.glob (J.mod.glob.keeps J.bk) hcode
      (TB.code.keeps J.bk) oP ht hc TB.gP bP fun c' ctv h' tk hx hge hlt hrec htb => ?_
    obtain ⟨c2, oc, vs, t, e2, hoc, hd, hv⟩ := hrec
    cases e2
    have nC : H c' = none := J.hok.fresh hge
    have hsz : s.heap.objs.size ≤ h'.objs.size := Nat.le_trans hge (Nat.le_of_lt hlt)
    have J1 := LamX.inv_table (t' := tk) (more := #[rawInt pos.line, rawInt pos.col, .ref c']) (h' := h') J hP (fun b o hb e => hx b o hb e) htb hge ⟨oc, vs, t, hoc, hd, hv⟩
    have hE : LamX.ExtN H (upd (upd H P (.tbl (ps ++ #[rawInt pos.line, rawInt pos.col, .ref c']))) c' (LamX.CodeO c' (X.env.qual ++ "<lambda>"))) := fun b o e n => by
      have b2 : b ≠ P := fun z => n ps (Option.some.inj (e.symm.trans (z ▸ hP)))
      rw [upd_ne (ne_of_none e nC), upd_ne b2]
      exact e
    have nf := J1.hok.fresh (Nat.le_refl h'.objs.size)
    have kp : ∀ b u, h'.get? b = some u → (h'.push (PySem.W.kla_obj "<lambda>" (X.env.qual ++ "<lambda>") params body scope (cloFrom X.env.cells scope.names []) ((X.mg "__name__").getD .none) c' ctv)).get? b = some u := fun b u e => Heap.get?_push_of_some _ e
    have J2 := J1.laid (o := lamO h'.objs.size c' n (clo X n)) (t' := tk) kp (Nat.le_refl _) (lamO_ok (by
      rw [B.tab, eq_]
      exact Heap.get?_push_size _ rfl))
    have hTab : LamX.Tabs T (upd (upd H P (.tbl (ps ++ #[rawInt pos.line, rawInt pos.col, .ref c']))) c' (LamX.CodeO c' (X.env.qual ++ "<lambda>"))) := fun p hp => by
      by_cases hb : p.1 = P
      · rw [hu p hp hb, hb]
        have eL : (ps ++ #[rawInt pos.line, rawInt pos.col, .ref c']).toList = ps.toList ++ [rawInt pos.line, rawInt pos.col, .ref c'] := by simp
        refine ⟨_, (upd_ne (ne_of_none hP nC)).trans upd_same, by rw [eL]; exact PySem.TriplesOk_snoc _ _ _ _ ht, fun p' cv hcv => ?_⟩
        rw [eL] at hcv
        rcases LamX.among_app _ ht hcv with z | z
        · obtain ⟨c0, e1, e2⟩ := ha p' cv z
          exact ⟨c0, e1, hE _ _ e2 LamX.codeO_ne⟩
        · exact ⟨c', z, upd_same⟩
      · obtain ⟨qs, a1, a2, a3⟩ := hT p hp
        refine ⟨qs, (upd_ne (ne_of_none a1 nC)).trans ((upd_ne hb).trans a1), a2, fun p' cv hcv => ?_⟩
        obtain ⟨c0, e1, e2⟩ := a3 p' cv hcv
        exact ⟨c0, e1, hE _ _ e2 LamX.codeO_ne⟩
    have sm := same_new (o := lamO h'.objs.size c' n (clo X n)) nf
    exact ⟨.ref _, _, J2, rfl, h _ c' _ (fun b o e n => sm _ _ (hE b o e n)) (hTab.ext sm) (J.hok.fresh hsz) upd_same (sm _ _ (by rw [qq]; exact upd_same))⟩
  | some cv =>
    obtain ⟨c', e, hco⟩ := ha pos cv hc
    subst e
    refine PySem.W.kla_makeFunctionHit (mg := X.mg) (c := c) (P := P) (ps := ps) (closure_ok (B.sc.has J.ok)) J.ok.glob (J.mod.glob.keeps J.bk) hcode
      (TB.code.keeps J.bk) oP ht hc bP fun ctv h' tk hx hsz => ?_
    have J1 : Inv X pins σ H { s with heap := h', toks := tk } := J.kept hx
    have nf := J1.hok.fresh (Nat.le_refl h'.objs.size)
    have kp : ∀ b u, h'.get? b = some u → (h'.push (PySem.W.kla_obj "<lambda>" (X.env.qual ++ "<lambda>") params body scope (cloFrom X.env.cells scope.names []) ((X.mg "__name__").getD .none) c' ctv)).get? b = some u := fun b u e => Heap.get?_push_of_some _ e
    have J2 := J1.laid (o := lamO h'.objs.size c' n (clo X n)) (t' := tk) kp (Nat.le_refl _) (lamO_ok (by
      rw [B.tab, eq_]
      exact Heap.get?_push_size _ rfl))
    have sm := same_new (o := lamO h'.objs.size c' n (clo X n)) nf
    exact ⟨.ref _, _, J2, rfl, h _ c' _ (fun b o e _ => sm _ _ e) (hT.ext sm) nf upd_same (sm _ _ (by rw [qq]; exact hco))⟩
/-! ### a list of them that is being made -/
inductive LEl where
  | d (x : PyData) | n (k : Nat)
inductive Els (X : Cx) (fz H : Hp) : List V → List LEl → Prop
  | nil : Els X fz H [] []
  | d {v : V} {vs : List V} {x : PyData} {es : List LEl} : Rp fz v x → Els X fz H vs es → Els X fz H (v :: vs) (.d x :: es)
  | n {f c' : Addr} {k : Nat} {vs : List V} {es : List LEl} : H f = some (lamO f c' k (clo X k)) → H c' = some (LamX.CodeO c' (Tab.tab k).qual) → Els X fz H vs es → Els X fz H (.ref f :: vs) (.n k :: es)
theorem lamO_tbl {f c' : Addr} {n : Nat} {cl : List (Str × Addr)} {ps : Array Value} : lamO f c' n cl ≠ .tbl ps := fun z => by
  have z' : HO.ext _ = HO.tbl ps := z
  cases z'
theorem codeO_tbl {c : Addr} {q : Str} {ps : Array Value} : LamX.CodeO c q ≠ .tbl ps := LamX.codeO_ne ps
theorem Els.up {fz fz' H H' : Hp} (s : Same fz fz') (e : LamX.ExtN H H') : ∀ {vs : List V} {es : List LEl}, Els X fz H vs es → Els X fz' H' vs es
  | _, _, .nil => .nil
  | _, _, .d r t => .d (Rp.mono s r) (Els.up s e t)
  | _, _, .n h1 h2 t => .n (e _ _ h1 fun _ => lamO_tbl) (e _ _ h2 fun _ => codeO_tbl) (Els.up s e t)
theorem Els.snoc {fz H : Hp} {f c' : Addr} {k : Nat} (h1 : H f = some (lamO f c' k (clo X k))) (h2 : H c' = some (LamX.CodeO c' (Tab.tab k).qual)) : ∀ {vs : List V} {es : List LEl}, Els X fz H vs es → Els X fz H (vs ++ [.ref f]) (es ++ [.n k])
  | _, _, .nil => .n h1 h2 .nil
  | _, _, .d r t => .d r (Els.snoc h1 h2 t)
  | _, _, .n a b t => .n a b (Els.snoc h1 h2 t)
theorem Els.length {fz H : Hp} : ∀ {vs : List V} {es : List LEl}, Els X fz H vs es → vs.length = es.length
  | _, _, .nil => rfl
  | _, _, .d _ t => by rw [List.length_cons, List.length_cons, t.length]
  | _, _, .n _ _ t => by rw [List.length_cons, List.length_cons, t.length]
theorem lamO_lst {f c' : Addr} {n : Nat} {cl : List (Str × Addr)} {us : List V} : lamO f c' n cl ≠ .lst us := fun z => by
  have z' : HO.ext _ = HO.lst us := z
  cases z'
theorem codeO_lst {c : Addr} {q : Str} {us : List V} : LamX.CodeO c q ≠ .lst us := fun z => by
  have z' : HO.ext _ = HO.lst us := z
  cases z'
theorem Els.upL {fz H : Hp} {a : Addr} {us ws : List V} (ha : H a = some (.lst us)) : ∀ {vs : List V} {es : List LEl}, Els X fz H vs es → Els X fz (upd H a (.lst ws)) vs es
  | _, _, .nil => .nil
  | _, _, .d r t => .d r (Els.upL ha t)
  | _, _, .n h1 h2 t => .n ((upd_ne fun z => lamO_lst (Option.some.inj ((z ▸ h1).symm.trans ha))).trans h1) ((upd_ne fun z => codeO_lst (Option.some.inj ((z ▸ h2).symm.trans ha))).trans h2) (Els.upL ha t)
/-- the list at slot i, being made; slot i is none in env -/
structure Lst (X : Cx) (g : G) (i : Nat) (c : C) (env : Env) (own : Own) (els : List LEl) (σ : L2.St) (H : Hp) : Prop where
  r : RelH g c own H
  e : RelE c env σ
  l : ∃ a vs, σ[i]? = some (some (.ref a)) ∧ H a = some (.lst vs) ∧ g.H0 a = none ∧ c.fz a = none ∧ a ∉ c.rho ∧ Els X c.fz H vs els
/-- calls = [lambda: ..] -/
theorem ps_lam1 (i : Nat) {n : Nat} {y : Str} {params : Arguments} {body : Expr} {scope : Scope} {lpos p1 p2 pos : Pos} (C : Cxt X g cls T k) (B : LamB X T n params body scope) (hi : X.N[i]? = some y := by rfl)
    (hx : Loc X.env.scope y := by first | exact Or.inl rfl | exact Or.inr rfl) (hs : swapsWith (.List [.Lambda params body scope lpos] p2) (some (.Name y p1)) pos.line X.env = pure false := by rfl)
    (hf : X.fn y = true ∨ X.env.scope.names.lookup y = some .local := by first | exact .inl rfl | exact .inr rfl | assumption) :
    PS X (.Assign [.Name y p1] (.List [.Lambda params body scope lpos] p2) pos) (fun D σ H => ∃ c env own, RelH g c own H ∧ RelE c env σ ∧ i < env.length ∧ ∀ σ' H', Lst X g i c (env.set i none) own [.n n] σ' H' → D.nx σ' H') := by
  refine ps_imp (ps_set C.N hi hx (pe_lst (pa_cons (pe_lam B) pa_nil)) hs hf) fun D σ H h => ?_
  obtain ⟨c, env, own, r, e, hl, h⟩ := h
  have tb := r.tabs
  rw [C.T] at tb
  refine ⟨tb, fun f c' H' ex t' hn h1 h2 => ⟨by show 1 ≤ sizeLine; decide, fun p hp => ?_⟩⟩
  have r1 := r.extN ex (by rw [C.T]; exact t')
  have r2 := r1.ext (same_new (o := .lst [.ref f]) hp)
  have hlen : i < σ.length := by rw [← e.1]; exact hl
  refine h _ _ ⟨r2, e.set0 i _, p, [.ref f], by rw [List.getElem?_set_self hlen], upd_same, r1.h0 hp, r1.fz0 hp, fun z => ?_, .n (same_new hp _ _ h1) (same_new hp _ _ h2) .nil⟩
  obtain ⟨o, eo⟩ := r1.taken z
  rw [hp] at eo
  cases eo
/-- calls.append(lambda: ..) -/
theorem ps_lamA (i : Nat) {n : Nat} {y : Str} {params : Arguments} {body : Expr} {scope : Scope} {lpos p1 apos cpos pos : Pos} (C : Cxt X g cls T k) (B : LamB X T n params body scope) (hi : X.N[i]? = some y := by rfl)
    (hv : Vis X.env.scope y := by first | exact Or.inl rfl | exact Or.inr (Or.inl rfl) | exact Or.inr (Or.inr rfl)) (hd : (y == ("__debug__" : Str)) = false := by decide) (hcd : (y == ("__classdict__" : Str)) = false := by decide)
    (hbase : attributeBase (.Name y p1) "append" X.env (eval (.Name y p1) X.env) = eval (.Name y p1) X.env := by rfl)
    (hfew : ((backTo cpos (starEach [.Lambda params body scope lpos] X.env)).all (fun x => !x.1) && (backToKw cpos (keywordEach [] X.env)).all (fun x => x.1.isSome) && decide ([Expr.Lambda params body scope lpos].length + ([] : List Keyword).length + (if ([] : List Keyword).isEmpty then 0 else 1) < 30)) = true := by rfl)
    (hline : (apos.endLine == cpos.line) = true := by rfl) (hs : starEach [.Lambda params body scope lpos] X.env = (false, eval (.Lambda params body scope lpos) X.env) :: starEach [] X.env := by rfl) (hpl : (backTo cpos (starEach [] X.env)).any (·.1) = false := by rfl)
    (hsw : swapsWith (.Call (.Attribute (.Name y p1) "append" apos) [.Lambda params body scope lpos] [] cpos) none pos.line X.env = pure false := by rfl) :
    PS X (.Expr (.Call (.Attribute (.Name y p1) "append" apos) [.Lambda params body scope lpos] [] cpos) pos) (fun D σ H => ∃ c env own els, Lst X g i c env own els σ H ∧ els.length < 1000 ∧ ∀ σ' H', Lst X g i c env own (els ++ [.n n]) σ' H' → D.nx σ' H') := by
  refine ps_imp (ps_expr (pe_bm PySem.F.plainAttrs_list PySem.F.slot_list_append PySem.F.type_list_append mt_append (pe_var hi hv hd hcd) (pa_cons (pe_lam B) pa_nil hs) hbase hfew hline hs hpl) hsw) fun D σ H h => ?_
  obtain ⟨c, env, own, els, ⟨r, e, a, vs, hσ, ha, h0, hf, hr, he⟩, hl, h⟩ := h
  have tb := r.tabs
  rw [C.T] at tb
  refine ⟨.ref a, hσ, .inl ⟨rfl, vs, SqL.of ha⟩, tb, fun f c' H' ex t' hn h1 h2 => ?_⟩
  have r1 := r.extN ex (by rw [C.T]; exact t')
  have ha' := ex _ _ ha fun ps z => by cases z
  refine ⟨a, vs, .ref f, rfl, rfl, ha', ?_, ?_⟩
  · rw [he.length, sizeLine_eq]
    omega
  · have he' := (he.up (Same.refl _) ex).snoc h1 h2
    exact h _ _ ⟨r1.poke ha' h0 hf hr, e, a, vs ++ [.ref f], hσ, upd_same, h0, hf, hr, he'.upL ha'⟩
/-- .. as readings of a run -/
def tL (X : Cx) (g : G) (i : Nat) (ms : List LEl → MS) : TS := fun D σ H => ∃ c env own els, Lst X g i c env own els σ H ∧ Post g (ms els env own) (PF g c D)
def sLam1 (i n : Nat) (ms : List LEl → MS) : MS := fun env own => match Nat.blt i env.length with
  | true => ms [.n n] (env.set i none) own
  | false => .bad
def sLamA (n : Nat) (ms : List LEl → MS) : List LEl → MS := fun els env own => match Nat.blt els.length 1000 with
  | true => ms (els ++ [.n n]) env own
  | false => .bad
theorem ms_lam1 {i n : Nat} {ms : List LEl → MS} {st : Stmt} {rest : List Stmt} (h1 : PS X st (fun D σ H => ∃ c env own, RelH g c own H ∧ RelE c env σ ∧ i < env.length ∧ ∀ σ' H', Lst X g i c (env.set i none) own [.n n] σ' H' → D.nx σ' H')) (h2 : PSs X rest (tL X g i ms)) :
    PSs X (st :: rest) (tS g (sLam1 i n ms)) := by
  refine pss_imp (pss_cons h1 h2) fun D σ H h => ?_
  obtain ⟨c, env, own, r, e, h⟩ := h
  unfold sLam1 at h
  split at h
  · rename_i hl
    exact ⟨c, env, own, r, e, nblt hl, fun σ' H' L => ⟨c, _, own, _, L, h⟩⟩
  · exact h.elim
theorem ms_lamA {i n : Nat} {ms : List LEl → MS} {st : Stmt} {rest : List Stmt} (h1 : PS X st (fun D σ H => ∃ c env own els, Lst X g i c env own els σ H ∧ els.length < 1000 ∧ ∀ σ' H', Lst X g i c env own (els ++ [.n n]) σ' H' → D.nx σ' H')) (h2 : PSs X rest (tL X g i ms)) :
    PSs X (st :: rest) (tL X g i (sLamA n ms)) := by
  refine pss_imp (pss_cons h1 h2) fun D σ H h => ?_
  obtain ⟨c, env, own, els, L, h⟩ := h
  unfold sLamA at h
  split at h
  · rename_i hl
    exact ⟨c, env, own, els, L, nblt hl, fun σ' H' L => ⟨c, env, own, _, L, h⟩⟩
  · exact h.elim
end
end Mir

set_option maxRecDepth 100000
set_option maxHeartbeats 4000000
namespace Mir
variable [Tab]
open PySem PySem.Spec PyProof.Rows L2
/-! ### a frame's cells, tracked while it calls -/
def cellL (X : Cx) : List Addr := (X.env.cells.map (·.1)).filterMap fun y => X.env.cells.lookup y
theorem cellL_mem {X : Cx} {b : Addr} (h : b ∈ cellL X) : ∃ y, X.env.cells.lookup y = some b := by
  obtain ⟨y, _, e⟩ := List.mem_filterMap.mp h
  exact ⟨y, e⟩
theorem mem_cellL {X : Cx} {y : Str} {b : Addr} (h : X.env.cells.lookup y = some b) : b ∈ cellL X := by
  refine List.mem_filterMap.mpr ⟨y, ?_, h⟩
  have := PySem.mem_of_lookup h
  exact List.mem_map.mpr ⟨_, this, rfl⟩
theorem objO_own {a x : Addr} {o : Obj} : objO a o ≠ .own x := fun z => by
  have z' : HO.ext _ = HO.own x := z
  cases z'
theorem objO_tup {a : Addr} {o : Obj} {xs : List V} : objO a o ≠ .tup xs := fun z => by
  have z' : HO.ext _ = HO.tup xs := z
  cases z'
theorem objO_lst {a : Addr} {o : Obj} {us : List V} : objO a o ≠ .lst us := fun z => by
  have z' : HO.ext _ = HO.lst us := z
  cases z'
theorem objO_tbl {a : Addr} {o : Obj} {ps : Array Value} : objO a o ≠ .tbl ps := fun z => by
  have z' : HO.ext _ = HO.tbl ps := z
  cases z'
open Classical in
noncomputable def withC (L : List Addr) (h : Heap) (H : Hp) : Hp := fun b => if b ∈ L then (h.get? b).map (objO b) else H b
open Classical in
noncomputable def noC (L : List Addr) (H : Hp) : Hp := fun b => if b ∈ L then none else H b
section
variable {X : Cx} {pins : List (Addr × Obj)} {σ : L2.St} {H : Hp} {s : Shared}
theorem withC_in {L : List Addr} {h : Heap} {b : Addr} {o : Obj} (hb : b ∈ L) (e : h.get? b = some o) : withC L h H b = some (objO b o) := by
  unfold withC
  rw [if_pos hb, e]
  rfl
theorem withC_out {L : List Addr} {h : Heap} {b : Addr} (hb : b ∉ L) : withC L h H b = H b := if_neg hb
theorem cellL_none (I : Inv X pins σ H s) {b : Addr} (h : b ∈ cellL X) : H b = none := by
  obtain ⟨y, e⟩ := cellL_mem h
  exact I.freeC y b e
theorem cellL_obj (I : Inv X pins σ H s) {b : Addr} (h : b ∈ cellL X) : ∃ o v, s.heap.get? b = some o ∧ o.data = .cell v := by
  obtain ⟨y, e⟩ := cellL_mem h
  obtain ⟨v, o, e1, e2⟩ := I.cell y b e
  exact ⟨o, v, e1, e2⟩
theorem withC_up (I : Inv X pins σ H s) {b : Addr} {o : HO} (e : H b = some o) : withC (cellL X) s.heap H b = some o := by
  rw [withC_out fun hb => by rw [cellL_none I hb] at e; cases e]
  exact e
theorem env0_cells (I : Inv X pins σ H s) (hfn : ∀ y, X.fn y = true) : Env0 X.prog X.w X.K X.mg X.base X.A X.stack s (withC (cellL X) s.heap H) := by
  have e0 := I.env0
  have old : ∀ {b : Addr}, b ∈ cellL X → X.s_0.heap.objs.size ≤ b := fun {b} hb => by
    obtain ⟨y, e⟩ := cellL_mem hb
    exact I.ok.cab y b (hfn y) e
  refine ⟨e0.frames, e0.mod, fun b o eb => ⟨(e0.bs b o eb).1, ?_⟩, e0.bsz, e0.funs, fun b hb => ?_, fun b o eb => ?_, e0.bare⟩
  · rw [withC_out fun hb => ?_]
    · exact (e0.bs b o eb).2
    · exact absurd (Nat.lt_of_lt_of_le (Heap.lt_size eb) (Nat.le_trans I.ok.bsz (old hb))) (Nat.lt_irrefl _)
  · rw [withC_out fun hc => ?_]
    · exact e0.frf b hb
    · rcases List.mem_cons.mp (I.stkSub b hb) with z | z
      · obtain ⟨y, e⟩ := cellL_mem hc
        exact I.cne y b e z
      · obtain ⟨_, ob, ho, _⟩ := I.ok.funs.mem z
        exact absurd (Nat.lt_of_lt_of_le (Heap.lt_size ho) (old hc)) (Nat.lt_irrefl _)
  · by_cases hb : b ∈ cellL X
    · obtain ⟨ob, v, e1, _⟩ := cellL_obj I hb
      rw [withC_in hb e1] at eb
      cases eb
      exact ⟨e1, ⟨ob, e1⟩, fun h1 h2 z k => k _ z⟩
    · rw [withC_out hb] at eb
      exact (I.hok b o eb).stay (fun c z _ q => q) (fun c q => withC_up I q) fun c xs q => withC_up I q
/-- behind such a call -/
theorem ce_cells (I : Inv X pins σ H s) {Q Q' : VK} {u : Value} {s' : Shared} (h : CE X.stack X.prog X.w (withC (cellL X) s.heap H) s Q u s')
    (hQ : ∀ v H', Q v H' → (∀ b ∈ cellL X, ∀ o, withC (cellL X) s.heap H b = some o → H' b = some o) ∧ ((∀ b ∈ cellL X, ∀ q, H' b ≠ some (LamX.CodeO b q)) → Q' v (noC (cellL X) H'))) : CE X.stack X.prog X.w H s Q' u s' := by
  obtain ⟨v, H', os, bare, un, hok, rv, q⟩ := h
  obtain ⟨hc, q⟩ := hQ v H' q
  have up : ∀ {b : Addr}, b ∉ cellL X → withC (cellL X) s.heap H b = H b := fun hb => withC_out hb
  have out : ∀ {b : Addr}, b ∉ cellL X → noC (cellL X) H' b = H' b := fun hb => if_neg hb
  have stay : ∀ b ∈ cellL X, ∀ o, s.heap.get? b = some o → s'.heap.get? b = some o := fun b hb o e => by
    have z := hok b _ (hc b hb _ (withC_in hb e))
    exact z.1
  have nin : ∀ {b : Addr} {o : HO}, H b = some o → b ∉ cellL X := fun {b o} e hb => by rw [cellL_none I hb] at e; cases e
  refine ⟨v, noC (cellL X) H', os, bare, ⟨fun b o z n hf hx => ?_, fun b o z n hf hx => ?_, fun b o z n hx => ?_, fun b o z hx => un.there b o z hx, fun b xs z => ?_, fun b o u z => ?_, fun b qs z => ?_⟩, fun b o z => ?_, rv, q fun b hb cq hcd => ?_⟩
  · by_cases hb : b ∈ cellL X
    · exact stay b hb o z
    · exact un.keep b o z (by rw [up hb]; exact n) hf hx
  · by_cases hb : b ∈ cellL X
    · exact ⟨o.slots, stay b hb o z⟩
    · exact un.slot b o z (by rw [up hb]; exact n) hf hx
  · by_cases hb : b ∈ cellL X
    · exact if_pos hb
    · rw [out hb]
      exact un.free b o z (by rw [up hb]; exact n) hx
  · have hb := nin z
    rw [out hb]
    exact un.tups b xs (by rw [up hb]; exact z)
  · have hb := nin z
    rw [out hb]
    exact un.frzs b o u (by rw [up hb]; exact z)
  · have hb := nin z
    rw [out hb]
    exact un.tbls b qs (by rw [up hb]; exact z)
  · have hb : b ∉ cellL X := fun hb => by
      have z2 : noC (cellL X) H' b = none := if_pos hb
      rw [z2] at z
      cases z
    rw [out hb] at z
    refine (hok b o z).stay (fun c w _ q => q) (fun c q => ?_) fun c xs q => ?_
    · have : c ∉ cellL X := fun hc' => by
        obtain ⟨ob, _, e1, _⟩ := cellL_obj I hc'
        rw [hc c hc' _ (withC_in hc' e1)] at q
        exact objO_own (Option.some.inj q)
      rw [out this]
      exact q
    · have : c ∉ cellL X := fun hc' => by
        obtain ⟨ob, _, e1, _⟩ := cellL_obj I hc'
        rw [hc c hc' _ (withC_in hc' e1)] at q
        exact objO_tup (Option.some.inj q)
      rw [out this]
      exact q
  · obtain ⟨ob, cv, e1, e2⟩ := cellL_obj I hb
    have z := hok b _ hcd
    obtain ⟨⟨oc, vs, t', y1, y2, _⟩, _, _⟩ : ObjOk X.prog X.w H' s'.heap b (.ext fun h => ∃ (oc : Obj) (vs : Array Value) (t : Tok), h.get? b = some oc ∧ oc.data = Data.fields vs ∧ vs[1]? = some (Value.str cq t)) := z
    rw [stay b hb ob e1] at y1
    cases y1
    rw [e2] at y2
    cases y2
end
/-! ### what a lambda has captured -/
theorem clo_names {cells : List (Str × Addr)} : ∀ (names : List (Str × NameKind)) (acc : List Str), cloFrom cells names (acc.map fun y => (y, (cells.lookup y).getD 0)) = (freeN names acc).map fun y => (y, (cells.lookup y).getD 0)
  | [], _ => rfl
  | (n, k) :: r, acc => by
    unfold cloFrom freeN
    split
    · exact clo_names r (n :: acc)
    · exact clo_names r acc
def capV (env : Env) : List Nat → Option (List PyData)
  | [] => some []
  | i :: is => match env[i]? with
    | some (some (.p d)) => match capV env is with
      | some ds => some (d :: ds)
      | none => none
    | _ => none
def capsB (N : List Str) (sc : Scope) : List Str → List Nat → Bool
  | [], [] => true
  | y :: ys, i :: is => decide (N[i]? = some y) && (decide (sc.names.lookup y = some .cell) && capsB N sc ys is)
  | _, _ => false
section
variable {X : Cx} {g : G} {cls : Nat → Addr} {T : List (Addr × Str)} {k : Nat} {pins : List (Addr × Obj)} {σ : L2.St} {H : Hp} {s : Shared}
theorem cells_at (I : Inv X pins σ H s) {c : C} {env : Env} {F : Hp} (hF : Same c.fz F) (hG : ∀ b o, withC (cellL X) s.heap H b = some o → (∀ ps, o ≠ .tbl ps) → (∀ us, o ≠ .lst us) → F b = some o) (e : RelE c env σ) : ∀ {ys : List Str} {is : List Nat} {ds : List PyData}, capsB X.N X.env.scope ys is = true → capV env is = some ds →
    ∃ vs, CellsAt F (ys.map fun y => (y, (X.env.cells.lookup y).getD 0)) vs ∧ Rps F vs ds
  | [], [], _, _, h => by cases h; exact ⟨[], .nil, .nil⟩
  | [], _ :: _, _, h, _ => by cases h
  | _ :: _, [], _, h, _ => by cases h
  | y :: ys, i :: is, ds, h, h' => by
    unfold capsB at h
    simp only [Bool.and_eq_true, decide_eq_true_eq] at h
    obtain ⟨h1, h2, h3⟩ := h
    unfold capV at h'
    split at h'
    · rename_i d hd
      split at h'
      · rename_i ds' hds
        cases h'
        obtain ⟨vs, q1, q2⟩ := cells_at I hF hG e h3 hds
        obtain ⟨v, ev, rv⟩ := e.2 i _ hd
        obtain ⟨m, _, hl⟩ := I.loc
        obtain ⟨u, ru, lk⟩ := hl i y v h1 ev (.inr (.inl h2))
        rcases lk with ⟨kd, _⟩ | ⟨_, a, ea, o, eo, ed⟩
        · have kd : X.env.scope.names.lookup y = some .local := kd
          rw [h2] at kd
          cases kd
        · refine ⟨v :: vs, ?_, .cons (Rp.mono hF rv) q2⟩
          rw [List.map_cons, ea]
          exact .cons (hG _ _ (withC_in (mem_cellL ea) eo) (fun ps => objO_tbl) fun us => objO_lst) ed ru q1
      · cases h'
    · cases h'
theorem caps_cell (I : Inv X pins σ H s) : ∀ {ys : List Str} {is : List Nat}, capsB X.N X.env.scope ys is = true → ∀ {y : Str}, y ∈ ys → ∃ a, X.env.cells.lookup y = some a
  | [], [], _, y, hy => absurd hy (by simp)
  | [], _ :: _, h, _, _ => by cases h
  | _ :: _, [], h, _, _ => by cases h
  | z :: ys, i :: is, h, y, hy => by
    unfold capsB at h
    simp only [Bool.and_eq_true, decide_eq_true_eq] at h
    rcases List.mem_cons.mp hy with e | hy
    · subst e
      exact I.ok.has y (.inl h.2.1)
    · exact caps_cell I h.2.2 hy
def closeEls (caps : Nat → List Nat) (env : Env) : List LEl → Option (List PyData)
  | [] => some []
  | .d x :: es => match closeEls caps env es with
    | some xs => some (x :: xs)
    | none => none
  | .n k :: es => match capV env (caps k) with
    | some ds => match closeEls caps env es with
      | some xs => some (lamD k ds :: xs)
      | none => none
    | none => none
theorem els_close (I : Inv X pins σ H s) {c : C} {env : Env} {caps : Nat → List Nat} {F : Hp} (hF : Same c.fz F) (hG : ∀ b o, withC (cellL X) s.heap H b = some o → (∀ ps, o ≠ .tbl ps) → (∀ us, o ≠ .lst us) → F b = some o) (e : RelE c env σ) (hc : ∀ k, capsB X.N X.env.scope (freeN (Tab.tab k).scope.names []) (caps k) = true ∨ caps k = [1000000]) (hlen : env.length < 1000000) :
    ∀ {es : List LEl} {vs : List V} {xs : List PyData}, Els X c.fz H vs es → closeEls caps env es = some xs → Rps F vs xs
  | [], _, _, .nil, h => by cases h; exact .nil
  | .d x :: es, _, xs, .d r t, h => by
    unfold closeEls at h
    split at h
    · rename_i ys hy
      cases h
      exact .cons (Rp.mono hF r) (els_close I hF hG e hc hlen t hy)
    · cases h
  | .n k :: es, _, xs, .n h1 h2 t, h => by
    unfold closeEls at h
    split at h
    · rename_i ds hds
      split at h
      · rename_i ys hy
        cases h
        rcases hc k with hk | hk
        · obtain ⟨vs, q1, q2⟩ := cells_at I hF hG e hk hds
          have ec : clo X k = (freeN (Tab.tab k).scope.names []).map fun y => (y, (X.env.cells.lookup y).getD 0) := clo_names _ []
          refine .cons (.lam (hG _ _ (withC_up I h1) (fun ps => lamO_tbl) fun us => lamO_lst) (hG _ _ (withC_up I h2) (fun ps => codeO_tbl) fun us => codeO_lst) ?_ ?_ ?_ q2) (els_close I hF hG e hc hlen t hy)
          · rw [ec]
            exact q1
          · rw [ec, List.map_map]
            exact List.map_id _
          · have key : ∀ x a, (clo X k).lookup x = some a → X.env.cells.lookup x = some a := fun x a hx => by
              rw [ec] at hx
              have hm := PySem.mem_of_lookup hx
              obtain ⟨y, hy, e⟩ := List.mem_map.mp hm
              cases e
              obtain ⟨a0, ea⟩ := caps_cell I hk hy
              rw [ea]
              rfl
            exact fun x y a h1 h2 => I.ok.inj x y a (key x a h1) (key y a h2)
        · rw [hk] at hds
          unfold capV at hds
          rw [List.getElem?_eq_none (by omega)] at hds
          cases hds
      · cases h
    · cases h
/-! ### the state of a frame, shielded while another expression is told -/
open Classical in
noncomputable def G.sh (g : G) (c : C) (H : Hp) : G := { g with H0 := fun b => if b ∈ c.rho then g.H0 b else nt H b, fz0 := c.fz, E := E0 }
theorem sh_in {c : C} {b : Addr} (h : b ∈ c.rho) : (g.sh c H).H0 b = g.H0 b := if_pos h
theorem sh_out {c : C} {b : Addr} (h : b ∉ c.rho) : (g.sh c H).H0 b = nt H b := if_neg h
theorem RelH.sub {c : C} {own : Own} (r : RelH g c own H) : Same g.H0 (g.sh c H).H0 := fun b o e => by
  by_cases hb : b ∈ c.rho
  · rw [sh_in hb]; exact e
  · rw [sh_out hb]; exact nt_at (r.same _ _ e) fun ps z => r.nt0 b ps (by rw [e, z])
theorem RelH.sh {c : C} {own : Own} (r : RelH g c own H) : RelH (g.sh c H) c own H := by
  refine ⟨r.fz, fun b o e => ?_, fun a ha => ?_, fun b ps e => ?_, r.ntf, r.tabs, Same.refl _, fun a o _ z => z, r.len, r.nd, r.lks, fun j a cell h1 h2 => ?_⟩
  · by_cases hb : b ∈ c.rho
    · rw [sh_in hb] at e; exact r.same _ _ e
    · rw [sh_out hb] at e; exact nt_same H _ _ e
  · obtain ⟨o, e⟩ := r.lnH a ha
    exact ⟨o, r.sub _ _ e⟩
  · by_cases hb : b ∈ c.rho
    · rw [sh_in hb] at e; exact r.nt0 b ps e
    · rw [sh_out hb] at e; exact nt_ntb H b ps e
  · have hm := List.mem_of_getElem? h1
    cases r.cells j a cell h1 h2 with
    | ours z1 z2 z3 z4 => exact .ours z1 z2 (by rw [sh_in hm]; exact z3) z4
    | lock z1 z2 z3 z4 => exact .lock z1 z2 (by rw [sh_in hm]; exact z3) z4
    | gone z1 z2 => exact .gone z1 z2
    | lent z1 z2 z3 => exact .lent z1 z2 z3
theorem RelH.unsh {c c' : C} {own own' : Own} {H' : Hp} (r : RelH g c own H) (st : Step c c') (q : RelH (g.sh c H) c' own' H') : RelH g c' own' H' := by
  refine ⟨q.fz, r.sub.trans q.same, r.lnH, r.nt0, q.ntf, q.tabs, r.base.trans st.fz, fun a o e1 e2 => q.low a o (r.sub _ _ e1) (r.low a o e1 e2), q.len, q.nd, q.lks, fun j a cell h1 h2 => ?_⟩
  cases q.cells j a cell h1 h2 with
  | ours z1 z2 z3 z4 => exact .ours z1 z2 (Same.free r.sub z3) z4
  | lock z1 z2 z3 z4 => exact .lock z1 z2 (Same.free r.sub z3) z4
  | gone z1 z2 => exact .gone z1 z2
  | lent z1 z2 z3 => exact .lent z1 z2 z3
theorem RelH.kept {c c' : C} {own' : Own} {H' : Hp} (q : RelH (g.sh c H) c' own' H') {b : Addr} {o : HO} (hb : b ∉ c.rho) (e : H b = some o) (n : ∀ ps, o ≠ .tbl ps) : H' b = some o :=
  q.same _ _ (by rw [sh_out hb]; exact nt_at e n)
theorem sh_In {c : C} : g.In (g.sh c H) := ⟨rfl, rfl, rfl⟩
theorem Cxt.sh {g' : G} (C : Cxt X g cls T k) (h : g.In g') : Cxt X g' cls T k := ⟨C.N, C.calm, C.own, C.room, C.take.imp fun c d σ H z => by rw [h.E] at z; exact z.elim, h.cls.trans C.cls, h.T.trans C.T, C.K⟩
end
end Mir

set_option maxRecDepth 100000
set_option maxHeartbeats 4000000
namespace Mir
variable [Tab]
open PySem PySem.Spec PyProof.Rows L2
section
variable {X : Cx} {g : G} {cls : Nat → Addr} {T : List (Addr × Str)} {k : Nat}
theorem Els.up2 {fz fz' H H' : Hp} (s : Same fz fz') (e : ∀ b o, H b = some o → (∀ ps, o ≠ .tbl ps) → (∀ us, o ≠ .lst us) → H' b = some o) : ∀ {vs : List V} {es : List LEl}, Els X fz H vs es → Els X fz' H' vs es
  | _, _, .nil => .nil
  | _, _, .d r t => .d (Rp.mono s r) (Els.up2 s e t)
  | _, _, .n h1 h2 t => .n (e _ _ h1 (fun _ => lamO_tbl) fun _ => lamO_lst) (e _ _ h2 (fun _ => codeO_tbl) fun _ => codeO_lst) (Els.up2 s e t)
/-- such a list as a value -/
structure LstV (X : Cx) (g : G) (c : C) (env : Env) (own : Own) (els : List LEl) (v : V) (σ : L2.St) (H : Hp) : Prop where
  r : RelH g c own H
  e : RelE c env σ
  l : ∃ a vs, v = .ref a ∧ H a = some (.lst vs) ∧ g.H0 a = none ∧ c.fz a = none ∧ a ∉ c.rho ∧ Els X c.fz H vs els
abbrev ML := List LEl → Env → Own → R (List LEl)
def tLE (X : Cx) (g : G) (i : Nat) (ml : ML) : TE := fun σ H Q => ∃ c env own els, Lst X g i c env own els σ H ∧ Post g (ml els env own) fun es own' => ∀ c' H' v, Step c c' → LstV X g c' env own' es v σ H' → Q v H'
def mlN : ML := fun els _ o => .ok els o
theorem pe_lname {i : Nat} {y : Str} {p : Pos} (hi : X.N[i]? = some y := by rfl) (hv : Vis X.env.scope y := by first | exact Or.inl rfl | exact Or.inr (Or.inl rfl) | exact Or.inr (Or.inr rfl)) (hd : (y == ("__debug__" : Str)) = false := by decide) (hcd : (y == ("__classdict__" : Str)) = false := by decide) :
    PE X (.Name y p) (tLE X g i mlN) := pe_imp (pe_var hi hv hd hcd) fun σ H Q h => by
  obtain ⟨c, env, own, els, ⟨r, e, a, vs, hσ, l⟩, h⟩ := h
  exact ⟨.ref a, hσ, h c H _ (Step.refl c) ⟨r, e, a, vs, rfl, l⟩⟩
/-- two arguments, the first a list of lambdas being closed -/
def mAre (caps : Nat → List Nat) (fn : Fn) (m : M D) (els : List LEl) : M D := fun env own => (m env own).nx.bind fun d o => match closeEls caps env els with
  | none => .bad
  | some xs => match toArg d o with
    | none => .bad
    | some ad => (fn [.l xs, ad]).nx.bind fun r _ => match r with
      | .v (.bool b) => .ok (.p (.bool b)) o
      | _ => .bad
def tAre (X : Cx) (g : G) (i : Nat) (ml : ML) (caps : Nat → List Nat) (fn : Fn) (m : M D) : TE := fun σ H Q => ∃ c env own els, Lst X g i c env own els σ H ∧ env.length < 1000000 ∧ Post g ((ml els env own).bind fun es o => mAre caps fn m es env o) (PQ g c Q)
theorem Lst.apart {c c2 : C} {own2 : Own} {H H2 : Hp} {a : Addr} {vs : List V} {own : Own} (r : RelH g c own H) (ha : H a = some (.lst vs)) (h0 : g.H0 a = none) (hf : c.fz a = none) (hr : a ∉ c.rho) (q : RelH (g.sh c H) c2 own2 H2) : a ∉ c2.rho := fun z => by
  obtain ⟨j, hj⟩ := List.mem_iff_getElem?.mp z
  obtain ⟨cell, _, w⟩ := q.cell hj
  have e0 : (g.sh c H).H0 a = some (.lst vs) := by rw [sh_out hr]; exact nt_at ha fun ps z => by cases z
  cases w with
  | ours _ _ z _ => rw [e0] at z; cases z
  | lock _ _ z _ => rw [e0] at z; cases z
  | gone z _ =>
    rw [q.low a _ e0 hf] at z
    cases z
  | lent _ _ z =>
    obtain ⟨o, eo⟩ := r.lnH a z
    rw [h0] at eo
    cases eo
theorem pe_are {i : Nat} {ml : ML} {caps : Nat → List Nat} {fn : Fn} {m : M D} {x : Str} {e0 e : Expr} {p pos : Pos} (C : Cxt X g cls T k) (gd : X.A.guards = some []) (F : CalG X.prog X.w X.K X.mg X.base cls T k x 2 fn) (hE : PE X e0 (tLE X g i ml)) (hm : ∀ g', g.In g' → PE X e (tE g' m)) (hfn : ∀ y, X.fn y = true)
    (hc : ∀ k, capsB X.N X.env.scope (freeN (Tab.tab k).scope.names []) (caps k) = true ∨ caps k = [1000000]) (hg : Gl X x := by rfl)
    (hdb : (x == ("__debug__" : Str)) = false := by decide)
    (he : starEach [e0, e] X.env = (false, eval e0 X.env) :: starEach [e] X.env := by rfl) (he2 : starEach [e] X.env = (false, eval e X.env) :: starEach [] X.env := by rfl) (hpl : (backTo pos (starEach [e] X.env)).any (·.1) = false := by rfl) :
    PE X (.Call (.Name x p) [e0, e] [] pos) (tAre X g i ml caps fn m) := by
  refine ⟨fun pins s σ H Q I h => ?_⟩
  obtain ⟨c0, env, own0, els0, L0, hlen, h⟩ := h
  obtain ⟨f, fd, ps, f1, f2, f3, f4, f5⟩ := F.ex
  refine wpAny_Call_Name_kw (ld_glob I hg f1 ?_ hdb)
  refine PySem.W.callWith_K (h₀ := X.base) I.ok.mod.kin f2 (thn ((pa_cons hE (pa_cons (pe_x hm) pa_nil he2) he).run pos pins s σ H (fun us H1 => ∃ y c H own els a vs c2 own2 d, us = [.ref a, y] ∧ Step c0 c ∧ RelH g c own H ∧ RelE c env σ ∧ H a = some (.lst vs) ∧ g.H0 a = none ∧ c.fz a = none ∧ a ∉ c.rho ∧ Els X c.fz H vs els ∧ RelH (g.sh c H) c2 own2 H1 ∧ Step c c2 ∧ RelD c2 y d ∧
    Post g (match closeEls caps env els with
      | none => .bad
      | some xs => match toArg d own2 with
        | none => .bad
        | some ad => (fn [.l xs, ad]).nx.bind fun r _ => match r with
          | .v (.bool b) => .ok (.p (.bool b)) own2
          | _ => (.bad : R D)) (PQ g c0 Q)) I ⟨c0, env, own0, els0, L0, Post.mono (fun els own z c H v st0 LV => ?_) (Post.bind h)⟩) fun us s1 ⟨vs1, H1, I1, r1, q1⟩ => ⟨I1.kIn, ?_⟩) he hpl
  · obtain ⟨r, re, a, vs, rfl, ha, h0, hf, hr, hel⟩ := LV
    exact ⟨g.sh c H, sh_In, c, env, own, r.sh, re, Post.mono (fun d own2 q c2 H2 v st rq rd => ⟨v, c, H, own, els, a, vs, c2, own2, d, rfl, st0, r, re, ha, h0, hf, hr, hel, rq, st, rd, q⟩) (Post.nx (Post.bind z))⟩
  · obtain ⟨y, c, H, own, els, a, vs, c2, own2, d, rfl, st0, r, re, ha, h0, hf, hr, hel, rq, st, rd, q⟩ := q1
    have hr2 := Lst.apart r ha h0 hf hr rq
    have ha1 := rq.kept hr ha fun ps z => by cases z
    have notrho : ∀ {b : Addr} {o : HO}, H b = some o → (∀ us, o ≠ .lst us) → b ∉ c.rho := fun {b o} eb nl z => by
      obtain ⟨j, hj⟩ := List.mem_iff_getElem?.mp z
      obtain ⟨cell, _, w⟩ := r.cell hj
      obtain ⟨us, eo⟩ := w.isl r.fz
      rw [eb] at eo
      exact nl us (Option.some.inj eo)
    have hel1 : Els X c2.fz H1 vs els := hel.up2 st.fz fun b o eb nt_ nl => rq.kept (notrho eb nl) eb nt_
    have re2 := re.step st
    split at q
    · exact q.elim
    · rename_i xs hxs
      split at q
      · exact q.elim
      · rename_i ad had
        have up : Same c2.fz (nt (withC (cellL X) s1.heap H1)) := fun b o z => nt_at (withC_up I1 (rq.fz _ _ z)) fun ps w => rq.ntf b ps (by rw [z, w])
        have cl := els_close I1 up (fun b o z n _ => nt_at z n) re2 hc hlen hel1 hxs
        have tb : LamX.Tabs T H1 := by
          have := rq.tabs
          rwa [show (g.sh c H).T = T from C.T] at this
        have tb3 : LamX.Tabs T (withC (cellL X) s1.heap H1) := tb.ext fun b o z => withC_up I1 z
        have arg2 : ArgRel (nt (withC (cellL X) s1.heap H1)) (withC (cellL X) s1.heap H1) y ad ∧ ((ad = ad) ∧ ∀ ys, ad = .l ys → ∃ j b, d = .own j ∧ y = .ref b ∧ c2.rho[j]? = some b) := by
          cases d with
          | p z =>
            cases had
            exact ⟨Rp.mono up rd, rfl, fun ys z => by cases z⟩
          | own j =>
            obtain ⟨b, eb, rfl⟩ := rd
            obtain ⟨cell, ec, w⟩ := rq.cell eb
            unfold toArg at had
            simp only [ec] at had
            cases cell with
            | lst m zs =>
              cases had
              obtain ⟨us, u1, u2⟩ := w.list rq.fz
              exact ⟨⟨b, us, rfl, withC_up I1 u1, Rps.mono up u2⟩, rfl, fun ys z => ⟨j, b, rfl, rfl, eb⟩⟩
        have nd : (lentsOf [V.ref a, y] [.l xs, ad]).Nodup := by
          cases ad with
          | p z => show [a].Nodup; simp
          | l zs =>
            obtain ⟨j, b, _, rfl, eb⟩ := arg2.2.2 zs rfl
            refine List.nodup_cons.mpr ⟨fun z => ?_, (show [b].Nodup by simp)⟩
            have e : a = b := by simpa [lentsOf] using z
            exact hr2 (e ▸ List.mem_of_getElem? eb)
        have bi := f3 s1 us I1.kIn (by rw [List.append_nil, ← r1.length, f4]; rfl)
        rw [List.append_nil] at bi
        refine wpAny_call (codeAny_mono (f5.run X.A X.stack s1 (withC (cellL X) s1.heap H1) ⟨us, []⟩ us [.ref a, y] (fun v H' => ∃ b, v = .bl b ∧ Same (nt (withC (cellL X) s1.heap H1)) H' ∧ LamX.Tabs T H' ∧ PQ g c0 Q (.p (.bool b)) own2) E0 C.room gd (env0_cells I1 hfn) bi r1
          ⟨nt (withC (cellL X) s1.heap H1), [.l xs, ad], nt_ntb _, nt_same _, tb3, .cons ⟨a, vs, rfl, withC_up I1 ha1, cl⟩ (.cons arg2.1 .nil), f4.symm, nd, Post.mono (fun rt _ z H' v sm tb' ok => ?_) (Post.nx (Post.bind q))⟩) fun rr s' hq => ?_)
        · split at z
          · rename_i b
            obtain ⟨fz', _, _, _, _, rp⟩ := ok
            cases rp
            exact ⟨b, rfl, sm, tb', z⟩
          · exact z.elim
        · cases rr with
          | error er => exact (cx_false hq).elim
          | ok fl =>
            cases fl with
            | ret u =>
              refine I1.after (ce_cells I1 hq fun v H' hv => ?_)
              obtain ⟨b, rfl, sm, tb', z⟩ := hv
              have part1 : ∀ b ∈ cellL X, ∀ o, withC (cellL X) s1.heap H1 b = some o → H' b = some o := fun b hb o eo => by
                obtain ⟨ob, _, e1, _⟩ := cellL_obj I1 hb
                refine sm _ _ (nt_at eo fun ps w => ?_)
                rw [withC_in hb e1] at eo
                exact objO_tbl ((Option.some.inj eo).trans w)
              refine ⟨part1, fun ncode => ?_⟩
              have tb4 : LamX.Tabs T (noC (cellL X) H') := fun p hp => by
                obtain ⟨qs, t1, t2, t3⟩ := tb' p hp
                have np : p.1 ∉ cellL X := fun hb => by
                  obtain ⟨ob, _, e1, _⟩ := cellL_obj I1 hb
                  rw [part1 _ hb _ (withC_in hb e1)] at t1
                  exact objO_tbl (Option.some.inj t1)
                refine ⟨qs, (show noC (cellL X) H' p.1 = H' p.1 from if_neg np).trans t1, t2, fun ps cv hcv => ?_⟩
                obtain ⟨c0, w1, w2⟩ := t3 ps cv hcv
                have nc : c0 ∉ cellL X := fun hb => ncode c0 hb _ w2
                exact ⟨c0, w1, (show noC (cellL X) H' c0 = H' c0 from if_neg nc).trans w2⟩
              have ex : LamX.ExtN H1 (noC (cellL X) H') := fun b o eb n => by
                have nb : b ∉ cellL X := fun hb => by rw [cellL_none I1 hb] at eb; cases eb
                rw [show noC (cellL X) H' b = H' b from if_neg nb]
                exact sm _ _ (nt_at (withC_up I1 eb) n)
              exact z c2 _ _ (st0.trans st) ((r.unsh st rq).extN ex (by rw [C.T]; exact tb4)) (.bl b)
            | next => exact False.elim hq
            | brk => exact False.elim hq
            | cont => exact False.elim hq
/-- if not f(calls, e): return False -/
def sChk (ml : ML) (caps : Nat → List Nat) (fn : Fn) (m : M D) (ms : MS) : List LEl → MS := fun els env own => match Nat.blt env.length 1000000 with
  | true => (asB ((ml els env own).bind fun es o => mAre caps fn m es env o)).bind fun b o => match b with
    | true => ms env o
    | false => .ok (.rt (.p (.bool false))) o
  | false => .bad
theorem ms_chk {i : Nat} {ml : ML} {caps : Nat → List Nat} {fn : Fn} {m : M D} {ms : MS} {e : Expr} {p1 p2 pos pos' : Pos} {jj : Nat} {rest : List Stmt} (h1 : PE X e (tAre X g i ml caps fn m)) (h2 : PSs X rest (tS g ms)) (he : ∀ whole, isTrue e X.env whole = (do let v ← whole; standAt e.pos; holding [v] (truthy v)) := by intro _; rfl) :
    PSs X (.If (.UnaryOp .Not e p1) [.Return (some (.Constant (.bool false) jj p2)) pos'] [] pos :: rest) (tL X g i (sChk ml caps fn m ms)) := by
  refine pss_imp (pss_cons (ps_if (pt_not (pt_val h1 he)) (pss_one (ps_ret pe_bl)) pss_nil) h2) fun D σ H h => ?_
  obtain ⟨c, env, own, els, L, h⟩ := h
  unfold sChk at h
  split at h
  · rename_i hl
    have h3 := asB_post h
    refine ⟨c, env, own, els, L, nblt hl, Post.mono (fun d o z c' H' v st r' rd => ?_) h3⟩
    obtain ⟨b, rfl, z⟩ := z
    cases rd
    refine ⟨b, rfl, ?_⟩
    cases b with
    | true => exact ⟨c', env, o, r', L.e.step st, Post.mono (fun f o2 w => PF.up st w) z⟩
    | false => exact z c' H' _ st r' (.bl false)
  · exact h.elim
/-- return f(calls .., e) -/
def sChkR (ml : ML) (caps : Nat → List Nat) (fn : Fn) (m : M D) : List LEl → MS := fun els env own => match Nat.blt env.length 1000000 with
  | true => ((ml els env own).bind fun es o => mAre caps fn m es env o).bind fun d o => .ok (.rt d) o
  | false => .bad
theorem ms_chkR {i : Nat} {ml : ML} {caps : Nat → List Nat} {fn : Fn} {m : M D} {e : Expr} {pos : Pos} (h1 : PE X e (tAre X g i ml caps fn m)) : PSs X [.Return (some e) pos] (tL X g i (sChkR ml caps fn m)) := by
  refine pss_imp (pss_one (ps_ret h1)) fun D σ H h => ?_
  obtain ⟨c, env, own, els, L, h⟩ := h
  unfold sChkR at h
  split at h
  · rename_i hl
    exact ⟨c, env, own, els, L, nblt hl, Post.mono (fun d o z c' H' v st r' rd => z c' H' v st r' rd) (Post.bind h)⟩
  · exact h.elim
/-! ### calls + a list of closed ones -/
theorem Els.app {fz H : Hp} : ∀ {vs : List V} {es : List LEl}, Els X fz H vs es → ∀ {ws : List V} {xs : List PyData}, Rps fz ws xs → Els X fz H (vs ++ ws) (es ++ xs.map .d)
  | _, _, .nil, [], [], _ => .nil
  | _, _, .nil, _, _ :: _, h => by cases h with | cons h1 h2 => exact .d h1 (Els.app (vs := []) (es := []) .nil h2)
  | _, _, .nil, _ :: _, [], h => by cases h
  | _, _, .d r t, _, _, h => .d r (Els.app t h)
  | _, _, .n a b t, _, _, h => .n a b (Els.app t h)
def mlCat (ml : ML) (m : M D) : ML := fun els env o => (ml els env o).bind fun es o => (m env o).nx.bind fun d o => match lv d o with
  | some xs => match Nat.ble (es.length + xs.length) sz with
    | true => .ok (es ++ xs.map .d) o
    | false => .bad
  | none => .bad
theorem notrho {c : C} {own : Own} {H : Hp} (r : RelH g c own H) {b : Addr} {o : HO} (eb : H b = some o) (nl : ∀ us, o ≠ .lst us) : b ∉ c.rho := fun z => by
  obtain ⟨j, hj⟩ := List.mem_iff_getElem?.mp z
  obtain ⟨cell, _, w⟩ := r.cell hj
  obtain ⟨us, eo⟩ := w.isl r.fz
  rw [eb] at eo
  exact nl us (Option.some.inj eo)
theorem pe_lcat {i : Nat} {ml : ML} {m : M D} {e0 e : Expr} {pos : Pos} (h0 : PE X e0 (tLE X g i ml)) (hm : ∀ g', g.In g' → PE X e (tE g' m)) : PE X (.BinOp e0 .Add e pos) (tLE X g i (mlCat ml m)) := by
  refine pe_imp (pe_op op_cat h0 (pe_x hm)) fun σ H Q h => ?_
  obtain ⟨c0, env, own0, els0, L0, h⟩ := h
  refine ⟨c0, env, own0, els0, L0, Post.mono (fun els own z c H1 v st0 LV => ?_) (Post.bind h)⟩
  obtain ⟨r, re, a, vs, rfl, ha, h0, hf, hr, hel⟩ := LV
  refine ⟨g.sh c H1, sh_In, c, env, own, r.sh, re, Post.mono (fun d own2 q c2 H2 w st rq rd => ?_) (Post.nx (Post.bind z))⟩
  split at q
  · rename_i xs ex
    split at q
    · rename_i hz
      obtain ⟨b, ws, rfl, w1, w2⟩ := lv_ok rq rd ex
      have ha2 := rq.kept hr ha fun ps z => by cases z
      have hel2 : Els X c2.fz H2 vs els := hel.up2 st.fz fun b o eb nt_ nl => rq.kept (notrho r eb nl) eb nt_
      refine ⟨a, b, vs, ws, rfl, rfl, ha2, w1, by rw [hel.length, w2.length]; exact ble_le hz, fun p hp => ?_⟩
      have rg := r.unsh st rq
      have sn := same_new (o := .lst (vs ++ ws)) hp
      refine q c2 _ _ (st0.trans st) ⟨rg.ext sn, re.step st, p, vs ++ ws, rfl, upd_same, rg.h0 hp, rg.fz0 hp, fun z => ?_, ?_⟩
      · obtain ⟨o, eo⟩ := rg.taken z
        rw [hp] at eo
        cases eo
      · exact (hel2.app w2).up2 (Same.refl _) fun b o eb _ _ => sn _ _ eb
    · exact q.elim
  · exact q.elim
end
end Mir

set_option maxRecDepth 100000
set_option maxHeartbeats 4000000
namespace Mir
variable [Tab]
open PySem PySem.Spec PyProof.Rows L2
/-! ### a def that gives its list of lambdas back -/
/-- the suite ends by a return; what is told of it: the heap with the frame's cells -/
structure PSsE (X : Cx) (st : List Stmt) (t : VK → L2.St → Hp → Prop) : Prop where
  run : ∀ (s : Shared) (σ : L2.St) (H : Hp) (Q : VK), Inv X [] σ H s → t Q σ H →
    wpAny (model X.prog X.w) X.A (execs st X.env) (fun f s' => ∃ u v σ' H', f = .ret u ∧ Inv X [] σ' H' s' ∧ L2.RelV v u ∧ Q v (withC (cellL X) s'.heap H')) X.xe s
section
variable {X : Cx} {g : G} {cls : Nat → Addr} {T : List (Addr × Str)} {k : Nat}
theorem pse_imp {st : List Stmt} {t t' : VK → L2.St → Hp → Prop} (h : PSsE X st t) (i : ∀ Q σ H, t' Q σ H → t Q σ H) : PSsE X st t' := ⟨fun s σ H Q J q => h.run s σ H Q J (i Q σ H q)⟩
theorem pse_cons {st : Stmt} {rest : List Stmt} {t : TS} {u : VK → L2.St → Hp → Prop} (h1 : PS X st t) (h2 : PSsE X rest u) :
    PSsE X (st :: rest) fun Q σ H => t { nx := fun σ' H' => u Q σ' H', rt := fun _ _ => False, bk := fun _ _ => False, ct := fun _ _ => False } σ H := by
  refine ⟨fun s σ H Q J h => wpAny_execs_cons (thn (h1.run [] s σ H _ J h) fun f s1 q => ?_)⟩
  cases f with
  | next =>
    obtain ⟨σ', H', J', q⟩ := q
    exact h2.run s1 σ' H' Q J' q
  | ret v =>
    obtain ⟨_, _, _, _, _, q⟩ := q
    exact q.elim
  | brk =>
    obtain ⟨_, _, _, q⟩ := q
    exact q.elim
  | cont =>
    obtain ⟨_, _, _, q⟩ := q
    exact q.elim
/-- what is told of the list that is given back: data, by fz' -/
def Back (g : G) (T : List (Addr × Str)) (c : C) (xs : List PyData) (Q : VK) : Prop := ∀ (v : V) (fz' H' : Hp), Ntb fz' → Same c.fz fz' → Same fz' H' → (∀ (b : Addr) (us : List V), g.H0 b = some (.lst us) → c.fz b = none → fz' b = none) → Same g.H0 H' → LamX.Tabs T H' → Rp fz' v (.list xs) → Q v H'
def tLA (X : Cx) (g : G) (T : List (Addr × Str)) (i : Nat) (caps : Nat → List Nat) (ns : List Nat) : VK → L2.St → Hp → Prop := fun Q σ H => ∃ c env own els, Lst X g i c env own els σ H ∧ env.length < 1000000 ∧ els.length + ns.length < 1000 ∧ ∃ xs, closeEls caps env (els ++ ns.map .n) = some xs ∧ Back g T c xs Q
def tL0 (X : Cx) (g : G) (T : List (Addr × Str)) (i : Nat) (caps : Nat → List Nat) (ns : List Nat) : VK → L2.St → Hp → Prop := fun Q σ H => ∃ c env own, RelH g c own H ∧ RelE c env σ ∧ i < env.length ∧ env.length < 1000000 ∧ ns.length < 1000 ∧ ∃ xs, closeEls caps (env.set i none) (ns.map .n) = some xs ∧ Back g T c xs Q
theorem pse_lamA {i n : Nat} {caps : Nat → List Nat} {ns : List Nat} {st : Stmt} {rest : List Stmt} (h1 : PS X st (fun D σ H => ∃ c env own els, Lst X g i c env own els σ H ∧ els.length < 1000 ∧ ∀ σ' H', Lst X g i c env own (els ++ [.n n]) σ' H' → D.nx σ' H')) (h2 : PSsE X rest (tLA X g T i caps ns)) :
    PSsE X (st :: rest) (tLA X g T i caps (n :: ns)) := by
  refine pse_imp (pse_cons h1 h2) fun Q σ H h => ?_
  obtain ⟨c, env, own, els, L, hl, hn, xs, hx, hb⟩ := h
  rw [List.length_cons] at hn
  refine ⟨c, env, own, els, L, by omega, fun σ' H' L => ⟨c, env, own, _, L, hl, by rw [List.length_append]; simp; omega, xs, ?_, hb⟩⟩
  rw [List.append_assoc]
  exact hx
theorem pse_lam1 {i n : Nat} {caps : Nat → List Nat} {ns : List Nat} {st : Stmt} {rest : List Stmt} (h1 : PS X st (fun D σ H => ∃ c env own, RelH g c own H ∧ RelE c env σ ∧ i < env.length ∧ ∀ σ' H', Lst X g i c (env.set i none) own [.n n] σ' H' → D.nx σ' H')) (h2 : PSsE X rest (tLA X g T i caps ns)) :
    PSsE X (st :: rest) (tL0 X g T i caps (n :: ns)) := by
  refine pse_imp (pse_cons h1 h2) fun Q σ H h => ?_
  obtain ⟨c, env, own, r, e, hi, hl, hn, xs, hx, hb⟩ := h
  rw [List.length_cons] at hn
  exact ⟨c, env, own, r, e, hi, fun σ' H' L => ⟨c, _, own, _, L, by rw [List.length_set]; exact hl, by simp; omega, xs, hx, hb⟩⟩
/-- what of the heap is data behind the return -/
def backF (g : G) (c : C) (Hf : Hp) : Hp := fun b => match g.H0 b with
  | some (.lst _) => c.fz b
  | _ => nt Hf b
theorem back_lst {c : C} {Hf : Hp} {b : Addr} {us : List V} (e : g.H0 b = some (.lst us)) : backF g c Hf b = c.fz b := by
  unfold backF
  rw [e]
theorem back_not {c : C} {Hf : Hp} {b : Addr} (e : ∀ us, g.H0 b ≠ some (.lst us)) : backF g c Hf b = nt Hf b := by
  unfold backF
  split
  · rename_i us z
    exact absurd z (e us)
  · rfl
theorem lst_dec (o : Option HO) : (∃ us, o = some (.lst us)) ∨ ∀ us, o ≠ some (.lst us) := by
  by_cases h : ∃ us, o = some (.lst us)
  · exact .inl h
  · exact .inr fun us e => h ⟨us, e⟩
theorem pse_ret {i : Nat} {caps : Nat → List Nat} {y : Str} {p pos : Pos} (C : Cxt X g cls T k) (hc : ∀ k, capsB X.N X.env.scope (freeN (Tab.tab k).scope.names []) (caps k) = true ∨ caps k = [1000000]) (hfn : ∀ y, X.fn y = true)
    (hi : X.N[i]? = some y := by rfl) (hv : Vis X.env.scope y := by first | exact Or.inl rfl | exact Or.inr (Or.inl rfl) | exact Or.inr (Or.inr rfl)) (hd : (y == ("__debug__" : Str)) = false := by decide) (hcd : (y == ("__classdict__" : Str)) = false := by decide) :
    PSsE X [.Return (some (.Name y p)) pos] (tLA X g T i caps []) := by
  refine ⟨fun s σ H Q J h => ?_⟩
  obtain ⟨c, env, own, els, ⟨r, e, a, vs, hσ, ha, h0, hf, hr, hel⟩, hl, hn, xs, hx, hb⟩ := h
  rw [List.map_nil, List.append_nil] at hx
  refine wpAny_execs_cons (wpAny_Return_some (thn ((pe_var hi hv hd hcd).run [] s σ H (fun v H1 => v = .ref a ∧ H1 = H) J ⟨.ref a, hσ, rfl, rfl⟩) fun u s1 hh => ?_))
  obtain ⟨v, H1, J1, r1, rfl, rfl⟩ := hh
  refine ⟨u, .ref a, σ, H1, rfl, J1, r1, ?_⟩
  have up : ∀ b o, H1 b = some o → withC (cellL X) s1.heap H1 b = some o := fun b o z => withC_up J1 z
  have nl : ∀ (b : Addr) (us : List V), withC (cellL X) s1.heap H1 b = some (.lst us) → H1 b = some (.lst us) := fun b us z => by
    by_cases hb : b ∈ cellL X
    · obtain ⟨ob, _, e1, _⟩ := cellL_obj J1 hb
      rw [withC_in hb e1] at z
      exact absurd (Option.some.inj z) objO_lst
    · rwa [withC_out hb] at z
  have s1' : Same c.fz (backF g c (withC (cellL X) s1.heap H1)) := fun b o z => by
    rcases lst_dec (g.H0 b) with ⟨us, q⟩ | q
    · rw [back_lst q]; exact z
    · rw [back_not q]
      exact nt_at (up _ _ (r.fz _ _ z)) fun ps w => r.ntf b ps (by rw [z, w])
  refine hb (.ref a) (backF g c (withC (cellL X) s1.heap H1)) _ (fun b ps z => ?_) s1' (fun b o z => ?_) (fun b us q z => by rw [back_lst q]; exact z) (fun b o z => up _ _ (r.same _ _ z)) ?_ (.lst ?_ (els_close J1 s1' (fun b o z n1 n2 => ?_) e hc hl hel hx))
  · rcases lst_dec (g.H0 b) with ⟨us, q⟩ | q
    · rw [back_lst q] at z; exact r.ntf b ps z
    · rw [back_not q] at z; exact nt_ntb _ b ps z
  · rcases lst_dec (g.H0 b) with ⟨us, q⟩ | q
    · rw [back_lst q] at z; exact up _ _ (r.fz _ _ z)
    · rw [back_not q] at z; exact nt_same _ _ _ z
  · have := r.tabs
    rw [C.T] at this
    exact this.ext up
  · rw [back_not fun us q => by rw [h0] at q; cases q]
    exact nt_at (up _ _ ha) fun ps z => by cases z
  · rw [back_not fun us q => n2 us (Option.some.inj (z.symm.trans (up _ _ (r.same _ _ q))))]
    exact nt_at z n1
end
/-- a def that gives a list of lambdas back: its mirror -/
def argD : List Arg → Option (List PyData)
  | [] => some []
  | .p d :: as => match argD as with
    | some ds => some (d :: ds)
    | none => none
  | .l _ :: _ => none
def mLams (slots i : Nat) (caps : Nat → List Nat) (ns : List Nat) : Fn := fun as => match argD as with
  | some ds => match closeEls caps ((ds.map (fun d => some (D.p d)) ++ List.replicate (slots - ds.length) none).set i none) (ns.map .n) with
    | some xs => .ok (.v (.list xs)) []
    | none => .bad
  | none => .bad
theorem argD_ok {fz H : Hp} : ∀ {vs : List V} {as : List Arg} {ds : List PyData}, ArgsOk fz H vs as → argD as = some ds → Rps fz vs ds ∧ lentsOf vs as = []
  | _, _, _, .nil, h => by cases h; exact ⟨.nil, rfl⟩
  | v :: vs, .p d :: as, ds, .cons r t, h => by
    unfold argD at h
    split at h
    · rename_i es he
      cases h
      obtain ⟨q1, q2⟩ := argD_ok t he
      exact ⟨.cons r q1, q2⟩
    · cases h
  | v :: vs, .l _ :: as, ds, .cons r t, h => by cases h
section
variable {P : Program} {w : World} {K : PySem.W.Frag} {mg : Str → Option Value} {base : Heap} {cls : Nat → Addr} {T : List (Addr × Str)} {k : Nat}
theorem lam_fn {x qual : Str} {params : Arguments} {body : List Stmt} {scope : Scope} {f : Addr} {fd : FuncData} {N ps : List Str} {slots i : Nat} {caps : Nat → List Nat} {ns : List Nat} {dvs : List V} {kws : List (Str × V)} {pp : Str × Option Str}
    (F : FunD K x qual params body scope dvs kws f fd) (hf : He.fAd K pp = f) (S : FnScope N ps scope) (hN : N.length = slots) (hps : ps.length ≤ slots) (hi : i < slots) (hsl : slots < 1000) (hns : ns.length < 1000) (hK : (Tab.K : PySem.W.Frag) = K)
    (hb : ∀ (A : Around) (outer : List PySem.Env) (s : Shared) (H : Hp) (E : XK) (g : G), Cxt (cxL P w K mg base N qual scope f (.ref (He.codeOf K pp)) A outer s H E) g cls T k → PSsE (cxL P w K mg base N qual scope f (.ref (He.codeOf K pp)) A outer s H E) body (tL0 (cxL P w K mg base N qual scope f (.ref (He.codeOf K pp)) A outer s H E) g T i caps ns)) :
    FnL P w K mg base (k + 1) f fd ps (spF cls T ps.length (mLams slots i caps ns)) := by
  obtain ⟨oc, od, dV, kV, doc, pm, an, cdv, ct, osl, rfl, lk, hcd, _, _⟩ := F.ex
  obtain ⟨cc, rfl⟩ := He.codeIn_ref hcd
  have ec : He.codeOf K pp = cc := He.codeOf_eq (by rw [hf]; exact lk) rfl
  subst ec
  refine ⟨spF_len, fun A outer s H args us vs Q E hr e0 hbi r hsp => ?_⟩
  have hl := spF_len _ _ _ _ hsp
  obtain ⟨fz, as, n0, sf, tb, ha, hal, nd, h⟩ := hsp
  unfold mLams at h
  split at h
  · rename_i ds hds
    split at h
    · rename_i xs hxs
      obtain ⟨q1, q2⟩ := argD_ok ha hds
      have KX : K.In s.heap := e0.mod.kin.keeps fun b o e => (e0.bs b o e).1
      have lim : s.heap.NoLimit := e0.mod.nolimit.keeps fun b o e => (e0.bs b o e).1
      have hkind : ∀ y ∈ ps.zip us, scope.names.lookup y.1 = some .local ∨ (scope.names.lookup y.1 = some .cell ∧ ((cellsFrom (s.heap.objs.size + 1) scope.names []).lookup y.1).isSome = true) := fun z hz => by
        rcases S.par z.1 (List.of_mem_zip (a := z.1) (b := z.2) hz).1 with q | q
        · exact .inl q
        · exact .inr ⟨q, PySem.W.cellsFrom_some _ _ _ (.inl q)⟩
      refine codeAny_call_function hr.depth (KX _ _ lk) rfl S.co S.gen rfl (PySem.W.codeRec_of KX hcd) (hbi _ _ _ _ (wpAny_newFunctionEnv_cells S.kind hkind fun env he s1 x => ?_))
      subst he
      refine ⟨lim.keeps x.toInCall.keep, codeAny_func ?_⟩
      have J := inv_start (CX := L2.CX P w) (E := E) (P := P) (w := w) (K := K) (mg := mg) (base := base) (N := N) (qual := qual) (f := f) (cd := .ref (He.codeOf K pp)) S hr.hd e0 hl r x
      have C : Cxt (cxL P w K mg base N qual scope f (.ref (He.codeOf K pp)) A outer s H E) ⟨nt H, fz, [], E, cls, T⟩ cls T k := ⟨S.nd, rfl, passes_of rfl, hr.deeper _, takes_of rfl rfl rfl rfl, rfl, rfl, hK⟩
      have dl : ds.length = ps.length := by rw [← q1.length, hl]
      have st : RelE ⟨fz, [], []⟩ (ds.map (fun d => some (D.p d)) ++ List.replicate (slots - ds.length) none) (L2.start N vs) := by
        refine ⟨by unfold L2.start; simp [q1.length, hN], fun j d hj => ?_⟩
        unfold L2.start
        by_cases hlt : j < ds.length
        · rw [List.getElem?_append_left (by rw [List.length_map]; exact hlt), List.getElem?_map, List.getElem?_eq_getElem hlt] at hj
          obtain ⟨v, ev, rv⟩ := q1.get (List.getElem?_eq_getElem hlt)
          have hd : D.p ds[j] = d := by simpa using hj
          subst hd
          refine ⟨v, ?_, rv⟩
          rw [List.getElem?_append_left (by rw [List.length_map, q1.length]; exact hlt), List.getElem?_map, ev]
          rfl
        · rw [List.getElem?_append_right (by rw [List.length_map]; omega), List.getElem?_replicate] at hj
          split at hj <;> cases hj
      have R : RelH ⟨nt H, fz, [], E, cls, T⟩ ⟨fz, [], []⟩ [] H := ⟨sf, nt_same H, fun b z => absurd z (by simp), nt_ntb H, n0, tb, Same.refl _, fun b us _ z => z, rfl, by simp, fun j ys z => absurd z (by simp), fun j b cell z _ => by simp at z⟩
      refine wpAny_mono ((hb A outer s H E _ C).run s1 (L2.start N vs) H Q J ⟨⟨fz, [], []⟩, _, [], R, st, by simp; omega, by simp; omega, hns, xs, hxs, fun v fz' H' b1 b2 b3 b4 b5 b6 b7 => h H' v b5 b6 ⟨fz', b1, b2, b3, b4, b7⟩⟩) (fun fl s' hs => ?_) fun e s' z => z
      obtain ⟨u, v, σ', H', rfl, J', rv, q⟩ := hs
      refine ⟨v, withC (cellL (cxL P w K mg base N qual scope f (.ref (He.codeOf K pp)) A outer s H E)) s'.heap H', J'.os, J'.bare, ?_, (env0_cells J' (fun _ => rfl)).hok, rv, q⟩
      have un := J'.base
      refine ⟨un.keep, un.slot, fun b o z n hx => ?_, un.there, fun b ys z => withC_up J' (un.tups b ys z), fun b o u z => withC_up J' (un.frzs b o u z), fun b qs z => ?_⟩
      · rw [withC_out fun hb => ?_]
        · exact un.free b o z n hx
        · obtain ⟨y, ey⟩ := cellL_mem hb
          exact absurd (Nat.lt_of_lt_of_le (Heap.lt_size z) (J'.ok.cab y b rfl ey)) (Nat.lt_irrefl _)
      · obtain ⟨more, z2⟩ := un.tbls b qs z
        exact ⟨more, withC_up J' z2⟩
    · exact h.elim
  · exact h.elim
end
end Mir

set_option maxRecDepth 100000
set_option maxHeartbeats 4000000
namespace Mir
variable [Tab]
open PySem PySem.Spec PyProof.Rows L2
/-! ### a kept lambda is called -/
mutual
/-- no lambda, nothing opaque within -/
def simpleD : PyData → Bool
  | .none | .bool _ | .int _ | .str _ => true
  | .list xs | .tuple xs => simpleAll xs
  | .dict ps => ps.isEmpty
def simpleAll : List PyData → Bool
  | [] => true
  | x :: xs => simpleD x && simpleAll xs
end
mutual
theorem Rp.mono2 {H H' : Hp} (e : ∀ b o, H b = some o → (∀ φ, o ≠ .ext φ) → H' b = some o) : ∀ {d : PyData} {v : V}, simpleD d = true → Rp H v d → Rp H' v d
  | .none, _, _, h => by cases h; exact .non
  | .bool b, _, _, h => by cases h; exact .bl b
  | .int i, _, _, h => by cases h; exact .int i
  | .str x, _, _, h => by cases h; exact .str x
  | .list ds, _, p, h => by cases h with | lst h1 h2 => exact .lst (e _ _ h1 fun φ z => by cases z) (Rps.mono2 e (by simpa only [simpleD] using p) h2)
  | .tuple ds, _, p, h => by cases h with | tup h1 h2 => exact .tup (e _ _ h1 fun φ z => by cases z) (Rps.mono2 e (by simpa only [simpleD] using p) h2)
  | .dict [], _, _, h => by cases h with | dct h1 => exact .dct (e _ _ h1 fun φ z => by cases z)
  | .dict (_ :: _), _, p, h => by cases p
theorem Rps.mono2 {H H' : Hp} (e : ∀ b o, H b = some o → (∀ φ, o ≠ .ext φ) → H' b = some o) : ∀ {ds : List PyData} {vs : List V}, simpleAll ds = true → Rps H vs ds → Rps H' vs ds
  | [], _, _, h => by cases h; exact .nil
  | d :: ds, _, p, h => by
    cases h with
    | cons h1 h2 =>
      simp only [simpleAll, Bool.and_eq_true] at p
      exact .cons (Rp.mono2 e p.1 h1) (Rps.mono2 e p.2 h2)
end
/-- lambda number n, called: what it does with what it has captured -/
structure LamCal (P : Program) (w : World) (K : PySem.W.Frag) (mg : Str → Option Value) (base : Heap) (cls : Nat → Addr) (T : List (Addr × Str)) (k n : Nat) (fn : List PyData → R Ret) : Prop where
  run : ∀ (A : Around) (outer : List PySem.Env) (s : Shared) (H : Hp) (f : Addr) (Q : VK) (E : XK) (fz : Hp) (ds : List PyData), Room k A → Env0 P w K mg base A outer s H → Ntb fz → Same fz H → LamX.Tabs T H → Rp fz (.ref f) (lamD n ds) → simpleAll ds = true →
    Post ⟨nt H, fz, [], E, cls, T⟩ (fn ds) (fun r _ => ∀ H' v, Same (nt H) H' → LamX.Tabs T H' → RetOk fz (nt H) H' v r → Q v H') → codeAny (model P w) A (.call (.ref f) ⟨[], []⟩) (CR (L2.CX P w) outer P w H s Q E) s
abbrev lamEn (qual : Str) (scope : Scope) (L f c' : Addr) (cl : List (Str × Addr)) : PySem.Env := PySem.W.envX qual scope L f (.ref c') cl
/-- the context of its body -/
def lamC (P : Program) (w : World) (K : PySem.W.Frag) (mg : Str → Option Value) (base : Heap) (N : List Str) (qual : Str) (scope : Scope) (f c' : Addr) (cl : List (Str × Addr)) (A : Around) (outer : List PySem.Env) (s : Shared) (H : Hp) (E : XK) : Cx where
  prog := P
  w := w
  K := K
  mg := mg
  base := base
  A := A.deeper (lamEn qual scope s.heap.objs.size f c' cl)
  N := N
  s_0 := s
  H_0 := H
  env := lamEn qual scope s.heap.objs.size f c' cl
  outer := outer
  stack := lamEn qual scope s.heap.objs.size f c' cl :: outer
  ex := []
  fn := fun _ => false
  calm := true
  pn := []
  xe := fun e s' => wpAny (model P w) (A.deeper (lamEn qual scope s.heap.objs.size f c' cl)) (leaving (lamEn qual scope s.heap.objs.size f c' cl) e) (fun _ s'' => L2.CX P w outer H s E e s'') (fun e' s'' => L2.CX P w outer H s E e' s'') s'
/-- nothing of its own, no call with arguments -/
structure LamOk (scope : Scope) : Prop where
  kind : scope.kind = .function
  co : scope.isCoroutine = false
  gen : scope.isGenerator = false
  own : ∀ y ∈ scope.names, y.2 ≠ .local ∧ y.2 ≠ .cell
  nd : (freeN scope.names []).Nodup
  fr : ∀ y, scope.names.lookup y = some .free → y ∈ freeN scope.names []
  fr2 : ∀ y ∈ freeN scope.names [], scope.names.lookup y = some .free
theorem cells_get {H : Hp} : ∀ {cl : List (Str × Addr)} {vs : List V}, CellsAt H cl vs → ∀ {i : Nat} {y : Str}, (cl.map (·.1))[i]? = some y → ∃ a o u v, cl[i]? = some (y, a) ∧ H a = some (objO a o) ∧ o.data = .cell (some u) ∧ L2.RelV v u ∧ vs[i]? = some v
  | _, _, .nil, i, y, h => by simp at h
  | _, _, .cons (y := z) (a := a) (o := o) (u := u) (v := v) h1 h2 h3 t, 0, y, h => by
    have e : z = y := by simpa using h
    subst e
    exact ⟨a, o, u, v, rfl, h1, h2, h3, rfl⟩
  | _, _, .cons h1 h2 h3 t, i + 1, y, h => by
    obtain ⟨a, o, u, v, e1, e2, e3, e4, e5⟩ := cells_get t (i := i) (y := y) (by simpa using h)
    exact ⟨a, o, u, v, by simpa using e1, e2, e3, e4, by simpa using e5⟩
theorem cells_len {H : Hp} : ∀ {cl : List (Str × Addr)} {vs : List V}, CellsAt H cl vs → cl.length = vs.length
  | _, _, .nil => rfl
  | _, _, .cons _ _ _ t => by rw [List.length_cons, List.length_cons, cells_len t]
theorem lookup_of_get {cl : List (Str × Addr)} (nd : (cl.map (·.1)).Nodup) {i : Nat} {y : Str} {a : Addr} (h : cl[i]? = some (y, a)) : cl.lookup y = some a := by
  induction cl generalizing i with
  | nil => simp at h
  | cons p cl ih =>
    obtain ⟨z, b⟩ := p
    rw [List.map_cons, List.nodup_cons] at nd
    cases i with
    | zero =>
      have e : (z, b) = (y, a) := by simpa using h
      cases e
      simp [List.lookup]
    | succ i =>
      have h : cl[i]? = some (y, a) := by simpa using h
      have : y ≠ z := fun e => nd.1 (e ▸ List.mem_map.mpr ⟨_, List.mem_of_getElem? h, rfl⟩)
      have e2 : (y == z) = false := by simpa using this
      simp only [List.lookup, e2]
      exact ih nd.2 h
theorem get_of_lookup {cl : List (Str × Addr)} {y : Str} {a : Addr} (h : cl.lookup y = some a) : ∃ i : Nat, cl[i]? = some (y, a) ∧ (cl.map (·.1))[i]? = some y := by
  have := PySem.mem_of_lookup h
  obtain ⟨i, e⟩ := List.mem_iff_getElem?.mp this
  exact ⟨i, e, by rw [List.getElem?_map, e]; rfl⟩
section
variable {P : Program} {w : World} {K : PySem.W.Frag} {mg : Str → Option Value} {base : Heap} {cls : Nat → Addr} {T : List (Addr × Str)} {k n : Nat}
/-- where a lambda's body starts -/
theorem lam_inv {A : Around} {outer : List PySem.Env} {s : Shared} {H H0 : Hp} {E : XK} {qual : Str} {scope : Scope} {f c' : Addr} {cl : List (Str × Addr)} {vs : List V} {h₁ : Heap} {tk : Nat} (S : LamOk scope) (e0 : Env0 P w K mg base A outer s H) (hd : A.handled = none)
    (hc : CellsAt H0 cl vs) (hk0 : HOk P w H0 s.heap) (hn : cl.map (·.1) = freeN scope.names []) (inj : ∀ x y a, cl.lookup x = some a → cl.lookup y = some a → x = y) (hno : ∀ y a, cl.lookup y = some a → H a = none)
    (hns : h₁.Ns s.heap.objs.size fun y => ([] : List (Str × Value)).reverse.lookup y) (kp : ∀ b o, s.heap.get? b = some o → h₁.get? b = some o) :
    Inv (lamC P w K mg base (freeN scope.names []) qual scope f c' cl A outer s H E) [] (L2.start (freeN scope.names []) vs) H { s with heap := h₁, toks := tk } := by
  have nd : (cl.map (·.1)).Nodup := by rw [hn]; exact S.nd
  have len : vs.length = (freeN scope.names []).length := by rw [← cells_len hc, ← hn, List.length_map]
  have cellAt : ∀ {y : Str} {a : Addr}, cl.lookup y = some a → ∃ v, h₁.IsCell a v := fun {y a} e => by
    obtain ⟨i, e1, e2⟩ := get_of_lookup e
    obtain ⟨a', o, u, v, g1, g2, g3, _, _⟩ := cells_get hc e2
    rw [e1] at g1
    cases g1
    have z := hk0 a _ g2
    exact ⟨_, o, kp _ _ z.1, g3⟩
  have notEx : ∀ b : Addr, b ∉ ([] : List Addr) := fun b z => absurd z (by simp)
  refine ⟨⟨e0.mod, S.kind, rfl, rfl, Nat.le_refl _, fun x y a h1 h2 => inj x y a h1 h2, fun y hy => ?_, fun y a z _ => (by cases (show false = true from z)), fun _ => hd, Around.frames_deeper e0.frames, .inr ⟨rfl, rfl⟩, fun b z => absurd z (notEx b), e0.bs, e0.bsz, fun b _ _ => notEx b, fun b z => absurd z (notEx b), e0.funs, e0.frf⟩,
    rfl, e0.bare, Un.kept kp, ⟨_, hns, fun i y v e1 e2 e3 => ?_⟩, fun y a e => cellAt e, e0.hok.fresh (Nat.le_refl _), fun y a e => hno y a e, fun q hq => absurd (show q ∈ ([] : List (Addr × Obj)) ++ [] from hq) (by simp), e0.hok.kept kp, ?_⟩
  · have hy : scope.names.lookup y = some .cell ∨ scope.names.lookup y = some .free := hy
    rcases hy with hy | hy
    · exact absurd rfl (S.own _ (PySem.mem_of_lookup hy)).2
    · have hm := S.fr y hy
      rw [← hn] at hm
      obtain ⟨⟨y', a⟩, h1, h2⟩ := List.mem_map.mp hm
      cases h2
      obtain ⟨i, e1⟩ := List.mem_iff_getElem?.mp h1
      exact ⟨a, lookup_of_get nd e1⟩
  · have e1 : (freeN scope.names [])[i]? = some y := e1
    rw [← hn] at e1
    obtain ⟨a, o, u, v', g1, g2, g3, g4, g5⟩ := cells_get hc e1
    unfold L2.start at e2
    have hi : i < vs.length := (List.getElem?_eq_some_iff.mp g5).1
    rw [List.getElem?_append_left (by rw [List.length_map]; exact hi), List.getElem?_map, g5] at e2
    have ev : v' = v := by simpa using e2
    subst ev
    have z := hk0 a _ g2
    have hfree := S.fr2 y (by rw [← hn]; exact List.mem_of_getElem? e1)
    exact ⟨u, g4, .inr ⟨.inr hfree, a, lookup_of_get nd g1, o, kp _ _ z.1, g3⟩⟩
  · show (L2.start (freeN scope.names []) vs).length = (freeN scope.names []).length
    unfold L2.start
    simp [len]
open Classical in
noncomputable def patch (L : List Addr) (H H1 : Hp) : Hp := fun b => if b ∈ L then H b else H1 b
theorem patch_in {L : List Addr} {H H1 : Hp} {b : Addr} (h : b ∈ L) : patch L H H1 b = H b := if_pos h
theorem patch_out {L : List Addr} {H H1 : Hp} {b : Addr} (h : b ∉ L) : patch L H H1 b = H1 b := if_neg h
theorem noC_in {L : List Addr} {H : Hp} {b : Addr} (h : b ∈ L) : noC L H b = none := if_pos h
theorem noC_out {L : List Addr} {H : Hp} {b : Addr} (h : b ∉ L) : noC L H b = H b := if_neg h
/-- objects that are known to the sign, taken out and put back -/
structure Outs (P : Program) (w : World) (L : List Addr) (outer : List PySem.Env) (s : Shared) (H : Hp) : Prop where
  at_ : ∀ b ∈ L, ∃ o, H b = some (objO b o) ∧ s.heap.get? b = some o
  nf : ∀ b ∈ L, b ∉ frs outer
section
variable {L : List Addr} {outer : List PySem.Env} {s : Shared} {H H1 : Hp}
theorem Outs.own (O : Outs P w L outer s H) {b : Addr} {x : Addr} (h : H b = some (.own x)) : b ∉ L := fun z => by
  obtain ⟨o, e, _⟩ := O.at_ b z
  rw [h] at e
  exact objO_own (Option.some.inj e).symm
theorem Outs.tup (O : Outs P w L outer s H) {b : Addr} {xs : List V} (h : H b = some (.tup xs)) : b ∉ L := fun z => by
  obtain ⟨o, e, _⟩ := O.at_ b z
  rw [h] at e
  exact objO_tup (Option.some.inj e).symm
theorem Outs.hok (O : Outs P w L outer s H) {h : Heap} (k : HOk P w H h) : HOk P w (noC L H) h := fun b o e => by
  have hb : b ∉ L := fun z => by rw [noC_in z] at e; cases e
  rw [noC_out hb] at e
  exact (k b o e).stay (fun c v _ q => q) (fun c q => by rw [noC_out (O.own q)]; exact q) fun c xs q => by rw [noC_out (O.tup q)]; exact q
theorem Outs.env0 (O : Outs P w L outer s H) {A : Around} (e0 : Env0 P w K mg base A outer s H) : Env0 P w K mg base A outer s (noC L H) := by
  refine ⟨e0.frames, e0.mod, fun b o e => ⟨(e0.bs b o e).1, ?_⟩, e0.bsz, e0.funs, fun b hb => ?_, O.hok e0.hok, e0.bare⟩
  · by_cases h : b ∈ L
    · exact noC_in h
    · rw [noC_out h]; exact (e0.bs b o e).2
  · by_cases h : b ∈ L
    · exact noC_in h
    · rw [noC_out h]; exact e0.frf b hb
/-- put back: the heap is held where they stand as they stood -/
theorem Outs.back (O : Outs P w L outer s H) {h : Heap} (k : HOk P w H1 h) (n : ∀ b ∈ L, H1 b = none) (st : ∀ b ∈ L, ∀ o, s.heap.get? b = some o → h.get? b = some o) : HOk P w (patch L H H1) h := fun b o e => by
  by_cases hb : b ∈ L
  · rw [patch_in hb] at e
    obtain ⟨ob, e1, e2⟩ := O.at_ b hb
    rw [e1] at e
    cases e
    have z := st b hb ob e2
    exact ⟨z, ⟨_, z⟩, fun h1 h2 q kk => kk _ q⟩
  · rw [patch_out hb] at e
    have out : ∀ {c : Addr} {u : HO}, H1 c = some u → c ∉ L := fun {c u} q z => by rw [n c z] at q; cases q
    exact (k b o e).stay (fun c v _ q => q) (fun c q => by rw [patch_out (out q)]; exact q) fun c xs q => by rw [patch_out (out q)]; exact q
theorem Outs.ce (O : Outs P w L outer s H) {Q : VK} {v : V} {u : Value} {s' : Shared} (os : s'.os = s.os) (bare : AllBare s'.gens) (un : Un (frs outer) [] (noC L H) H1 s.heap s'.heap) (hok : HOk P w H1 s'.heap) (rv : L2.RelV v u) (q : Q v (patch L H H1)) : CE outer P w H s Q u s' := by
  have n : ∀ b ∈ L, H1 b = none := fun b hb => by
    obtain ⟨o, _, e⟩ := O.at_ b hb
    exact un.free b o e (noC_in hb) (by simp)
  have st : ∀ b ∈ L, ∀ o, s.heap.get? b = some o → s'.heap.get? b = some o := fun b hb o e => un.keep b o e (noC_in hb) (O.nf b hb) (by simp)
  have outN : ∀ {b : Addr}, H b = none → b ∉ L := fun {b} e z => by
    obtain ⟨o, q, _⟩ := O.at_ b z
    rw [e] at q; cases q
  have outE : ∀ {b : Addr} {x : HO}, H b = some x → (∀ φ, x ≠ .ext φ) → b ∉ L := fun {b x} e nx z => by
    obtain ⟨o, q, _⟩ := O.at_ b z
    rw [e] at q
    exact nx _ (Option.some.inj q)
  refine ⟨v, patch L H H1, os, bare, ⟨fun b o z m hf hx => un.keep b o z (by rw [noC_out (outN m)]; exact m) hf hx, fun b o z m hf hx => un.slot b o z (by rw [noC_out (outN m)]; exact m) hf hx, fun b o z m hx => ?_, fun b o z hx => un.there b o z hx, fun b xs z => ?_, fun b o u z => ?_, fun b ps z => ?_⟩, O.back hok n st, rv, q⟩
  · rw [patch_out (outN m)]
    exact un.free b o z (by rw [noC_out (outN m)]; exact m) hx
  · have hb := outE z fun φ e => by cases e
    rw [patch_out hb]
    exact un.tups b xs (by rw [noC_out hb]; exact z)
  · have hb := outE z fun φ e => by cases e
    rw [patch_out hb]
    exact un.frzs b o u (by rw [noC_out hb]; exact z)
  · have hb := outE z fun φ e => by cases e
    rw [patch_out hb]
    exact un.tbls b ps (by rw [noC_out hb]; exact z)
theorem Outs.cx (O : Outs P w L outer s H) {E : XK} {u : Value} {s' : Shared} (h : L2.CX P w outer (noC L H) s (fun c d H1 => (∀ b ∈ L, H1 b = none) → E c d (patch L H H1)) u s') : L2.CX P w outer H s E u s' := by
  obtain ⟨a, B, H1, c, d, rfl, fly, hok, ub, na, os, ag, e⟩ := h
  have n : ∀ b ∈ L, H1 b = none := fun b hb => by
    obtain ⟨o, _, q⟩ := O.at_ b hb
    exact ub.free b o q (noC_in hb)
  have st : ∀ b ∈ L, ∀ o, s.heap.get? b = some o → B.get? b = some o := fun b hb o q => ub.keep b o q (noC_in hb) (O.nf b hb)
  have outN : ∀ {b : Addr}, H b = none → b ∉ L := fun {b} e z => by
    obtain ⟨o, q, _⟩ := O.at_ b z
    rw [e] at q; cases q
  have outE : ∀ {b : Addr} {x : HO}, H b = some x → (∀ φ, x ≠ .ext φ) → b ∉ L := fun {b x} e nx z => by
    obtain ⟨o, q, _⟩ := O.at_ b z
    rw [e] at q
    exact nx _ (Option.some.inj q)
  have nal : a ∉ L := fun z => by
    obtain ⟨o, _, q⟩ := O.at_ a z
    have := st a z o q
    rw [fly.2.1] at this
    cases this
  refine ⟨a, B, patch L H H1, c, d, rfl, fly, O.back hok n st, ⟨fun b o z m hf => ub.keep b o z (by rw [noC_out (outN m)]; exact m) hf, fun b o z hf => ub.slot b o z hf, fun b o z m => ?_, fun b o z hf => ub.there b o z hf, fun b xs z => ?_, fun b o xs z => ?_, fun b ps z => ?_⟩, by rw [patch_out nal]; exact na, os, ag, e n⟩
  · rw [patch_out (outN m)]
    exact ub.free b o z (by rw [noC_out (outN m)]; exact m)
  · have hb := outE z fun φ e => by cases e
    rw [patch_out hb]
    exact ub.tups b xs (by rw [noC_out hb]; exact z)
  · have hb := outE z fun φ e => by cases e
    rw [patch_out hb]
    exact ub.frzs b o xs (by rw [noC_out hb]; exact z)
  · have hb := outE z fun φ e => by cases e
    rw [patch_out hb]
    exact ub.tbls b ps (by rw [noC_out hb]; exact z)
end
end
end Mir

set_option maxRecDepth 100000
set_option maxHeartbeats 4000000
namespace Mir
variable [Tab]
open PySem PySem.Spec PyProof.Rows L2
section
variable {P : Program} {w : World} {K : PySem.W.Frag} {mg : Str → Option Value} {base : Heap} {cls : Nat → Addr} {T : List (Addr × Str)} {k n : Nat}
theorem nt_noC {L : List Addr} {H : Hp} {b : Addr} (h : b ∉ L) : nt (noC L H) b = nt H b := by
  unfold nt
  rw [noC_out h]
/-- the mirror of a lambda, from its body's -/
def mLamF (m : M D) : List PyData → R Ret := fun ds => (m (ds.map fun d => some (D.p d)) []).bind retOf
theorem cells_outs {H : Hp} {h : Heap} (hk : HOk P w H h) : ∀ {cl : List (Str × Addr)} {vs : List V}, CellsAt H cl vs → ∀ b ∈ cl.map (·.2), ∃ o, H b = some (objO b o) ∧ h.get? b = some o
  | _, _, .nil, b, hb => absurd hb (by simp)
  | _, _, .cons (a := a) (o := o) h1 h2 h3 t, b, hb => by
    rcases List.mem_cons.mp (show b ∈ a :: _ from hb) with e | hb
    · subst e
      exact ⟨o, h1, (hk _ _ h1).1⟩
    · exact cells_outs hk t b hb
theorem retE_ok {g : G} {m : M D} {ds : List PyData} {c : C} {H : Hp} {Q : VK} {σ : L2.St} {fz : Hp} (hc : c = ⟨fz, [], []⟩) (hg : g.fz0 = fz) (r : RelH g c [] H) (e : RelE c (ds.map fun d => some (D.p d)) σ)
    (h : Post g (mLamF m ds) fun rt _ => ∀ H' v, Same g.H0 H' → LamX.Tabs g.T H' → RetOk fz g.H0 H' v rt → Q v H') : tE g m σ H Q := by
  refine ⟨c, _, [], r, e, Post.mono (fun d o q c' H' v s r' rd => ?_) (Post.bind h)⟩
  subst hc
  have low : ∀ (b : Addr) (us : List V), g.H0 b = some (.lst us) → fz b = none → c'.fz b = none := fun b us e1 e2 => r'.low b us e1 (by rw [hg]; exact e2)
  cases d with
  | p d => exact q H' v r'.same r'.tabs ⟨c'.fz, r'.ntf, s.fz, r'.fz, low, rd⟩
  | own j =>
    obtain ⟨a, ea, rfl⟩ := rd
    obtain ⟨cell, e1, z⟩ := r'.cell ea
    have q : Post g (retOf (.own j) o) fun rt _ => ∀ H' v, Same g.H0 H' → LamX.Tabs g.T H' → RetOk fz g.H0 H' v rt → Q v H' := q
    unfold retOf at q
    simp only [e1] at q
    cases z with
    | ours h1 h2 h3 h4 => exact q H' _ r'.same r'.tabs ⟨c'.fz, r'.ntf, s.fz, r'.fz, low, a, _, rfl, h3, h4, h1, h2⟩
    | lock h1 h2 h3 h4 => exact q H' _ r'.same r'.tabs ⟨c'.fz, r'.ntf, s.fz, r'.fz, low, a, _, rfl, h3, h4, h1, h2⟩
    | gone h1 h2 => exact q H' _ r'.same r'.tabs ⟨c'.fz, r'.ntf, s.fz, r'.fz, low, .lst h1 h2⟩
    | lent => exact q.elim
theorem lam_cal {m : M D} (S : LamOk (Tab.tab n).scope) (hK : (Tab.K : PySem.W.Frag) = K)
    (hbind : ∀ (cl : List (Str × Addr)) (pm cv ctv : Value), bindArgs (PySem.W.kla_fn "<lambda>" (Tab.tab n).qual (Tab.tab n).params (Tab.tab n).body (Tab.tab n).scope cl pm cv ctv) ⟨[], []⟩ = pure [])
    (hb : ∀ (f c' : Addr) (cl : List (Str × Addr)) (A : Around) (outer : List PySem.Env) (s : Shared) (H : Hp) (E : XK) (g : G), Cxt (lamC P w K mg base (freeN (Tab.tab n).scope.names []) (Tab.tab n).qual (Tab.tab n).scope f c' cl A outer s H E) g cls T k →
      PE (lamC P w K mg base (freeN (Tab.tab n).scope.names []) (Tab.tab n).qual (Tab.tab n).scope f c' cl A outer s H E) (Tab.tab n).body (tE g m)) :
    LamCal P w K mg base cls T (k + 1) n (mLamF m) := by
  refine ⟨fun A outer s H f Q E fz ds hr e0 nf sf tb rl hsim h => ?_⟩
  cases rl with
  | @lam _ c' _ cl vs _ l1 l2 l3 l4 l5 l6 =>
    have hk := e0.hok
    obtain ⟨⟨pm, ctv, of⟩, _, _⟩ : ObjOk P w H s.heap f (.ext fun h => ∃ pm ctv, h.get? f = some (PySem.W.kla_obj "<lambda>" (Tab.tab n).qual (Tab.tab n).params (Tab.tab n).body (Tab.tab n).scope cl pm c' ctv)) := hk f _ (sf _ _ l1)
    obtain ⟨⟨oc, us, t, hoc, hdc, hvc⟩, _, _⟩ : ObjOk P w H s.heap c' (.ext fun h => ∃ (oc : Obj) (vs : Array Value) (t : Tok), h.get? c' = some oc ∧ oc.data = Data.fields vs ∧ vs[1]? = some (Value.str (Tab.tab n).qual t)) := hk c' _ (sf _ _ l2)
    have lH : CellsAt H cl vs := l3.mono sf
    have O : Outs P w (cl.map (·.2)) outer s H := ⟨cells_outs hk lH, fun b hb hf => by
      obtain ⟨o, e, _⟩ := cells_outs hk lH b hb
      rw [e0.frf b hf] at e
      cases e⟩
    have e1 := O.env0 e0
    have lim : s.heap.NoLimit := e0.mod.nolimit.keeps fun b o e => (e0.bs b o e).1
    -- the data without the cells
    have nfL : Ntb (noC (cl.map (·.2)) fz) := fun b ps e => by
      by_cases hb : b ∈ cl.map (·.2)
      · rw [noC_in hb] at e; cases e
      · rw [noC_out hb] at e; exact nf b ps e
    have sfL : Same (noC (cl.map (·.2)) fz) (noC (cl.map (·.2)) H) := fun b o e => by
      by_cases hb : b ∈ cl.map (·.2)
      · rw [noC_in hb] at e; cases e
      · rw [noC_out hb] at e ⊢; exact sf b o e
    have tbL : LamX.Tabs T (noC (cl.map (·.2)) H) := fun p hp => by
      obtain ⟨qs, t1, t2, t3⟩ := tb p hp
      have np : p.1 ∉ cl.map (·.2) := fun z => by
        obtain ⟨o, q, _⟩ := O.at_ _ z
        rw [t1] at q
        exact objO_tbl (Option.some.inj q).symm
      refine ⟨qs, by rw [noC_out np]; exact t1, t2, fun ps cv hcv => ?_⟩
      obtain ⟨c0, w1, w2⟩ := t3 ps cv hcv
      have nc : c0 ∉ cl.map (·.2) := fun z => by
        obtain ⟨y, ey⟩ : ∃ y, (y, c0) ∈ cl := by
          obtain ⟨⟨y, b⟩, hm, e⟩ := List.mem_map.mp z
          cases e
          exact ⟨y, hm⟩
        obtain ⟨i, ei⟩ := List.mem_iff_getElem?.mp ey
        obtain ⟨a, o, u, v, g1, g2, g3, _, _⟩ := cells_get lH (i := i) (y := y) (by rw [List.getElem?_map, ei]; rfl)
        rw [ei] at g1
        cases g1
        have z1 := (hk _ _ g2).1
        obtain ⟨⟨oc, vs', t', y1, y2, _⟩, _, _⟩ : ObjOk P w H s.heap c0 (.ext fun h => ∃ (oc : Obj) (vs : Array Value) (t : Tok), h.get? c0 = some oc ∧ oc.data = Data.fields vs ∧ vs[1]? = some (Value.str p.2 t)) := hk _ _ w2
        have z1 : s.heap.get? c0 = some o := z1
        rw [z1] at y1
        cases y1
        rw [g3] at y2
        cases y2
      exact ⟨c0, w1, by rw [noC_out nc]; exact w2⟩
    have data : Rps (noC (cl.map (·.2)) fz) vs ds := Rps.mono2 (fun b o e ne => by
      have nb : b ∉ cl.map (·.2) := fun z => by
        obtain ⟨ob, q, _⟩ := O.at_ b z
        rw [sf _ _ e] at q
        exact ne _ (Option.some.inj q)
      rw [noC_out nb]
      exact e) hsim l6
    have ptN : ∀ {H1 : Hp}, (∀ b ∈ cl.map (·.2), H1 b = none) → Same (nt (noC (cl.map (·.2)) H)) H1 → Same (nt H) (patch (cl.map (·.2)) H H1) := fun {H1} n0 sm b o e => by
      by_cases hb : b ∈ cl.map (·.2)
      · rw [patch_in hb]; exact nt_same H b o e
      · rw [patch_out hb]
        exact sm b o ((nt_noC hb).trans e)
    refine PySem.W.kla_callFunE hr.depth of rfl S.co S.gen rfl ⟨c', oc, us, t, rfl, hoc, hdc, hvc⟩ ?_
    rw [hbind]
    refine wpAny_pure (wpAny_newFunctionEnv (fun y hy => (S.own y hy).2) (fun y hy => absurd hy (by simp)) (fun h₁ hns hsb => ⟨lim.fresh _ hsb, ?_⟩) S.kind)
    have kp : ∀ b o, s.heap.get? b = some o → h₁.get? b = some o := fun b o e => hsb.extBut b o (Nat.ne_of_lt (Heap.lt_size e)) (Heap.get?_push_of_some _ e)
    have J := lam_inv (K := K) (mg := mg) (base := base) (outer := outer) (E := fun c d H1 => (∀ b ∈ cl.map (·.2), H1 b = none) → E c d (patch (cl.map (·.2)) H H1)) (qual := (Tab.tab n).qual) (f := f) (c' := c') (tk := s.toks + ([] : List (Str × Value)).length) S e1 hr.hd lH hk l4 l5 (fun y a e => noC_in (List.mem_map.mpr ⟨_, PySem.mem_of_lookup e, rfl⟩)) hns kp
    have R0 : RelH ⟨nt (noC (cl.map (·.2)) H), noC (cl.map (·.2)) fz, [], fun c d H1 => (∀ b ∈ cl.map (·.2), H1 b = none) → E c d (patch (cl.map (·.2)) H H1), cls, T⟩ ⟨noC (cl.map (·.2)) fz, [], []⟩ [] (noC (cl.map (·.2)) H) :=
      ⟨sfL, nt_same _, fun b z => absurd z (by simp), nt_ntb _, nfL, tbL, Same.refl _, fun b us _ z => z, rfl, by simp, fun j ys z => absurd z (by simp), fun j b cell z _ => by simp at z⟩
    have E0_ : RelE ⟨noC (cl.map (·.2)) fz, [], []⟩ (ds.map fun d => some (D.p d)) (L2.start (freeN (Tab.tab n).scope.names []) vs) := by
      have len : vs.length = (freeN (Tab.tab n).scope.names []).length := by rw [← cells_len lH, ← l4, List.length_map]
      refine ⟨by unfold L2.start; simp [← data.length, len], fun j d hj => ?_⟩
      rw [List.getElem?_map] at hj
      cases hd : ds[j]? with
      | none => rw [hd] at hj; cases hj
      | some x =>
        rw [hd] at hj
        have e : D.p x = d := by simpa using hj
        subst e
        obtain ⟨v, ev, rv⟩ := data.get hd
        refine ⟨v, ?_, rv⟩
        unfold L2.start
        rw [List.getElem?_append_left (by rw [List.length_map]; exact (List.getElem?_eq_some_iff.mp ev).1), List.getElem?_map, ev]
        rfl
    have run := (hb f c' cl A outer s (noC (cl.map (·.2)) H) (fun c d H1 => (∀ b ∈ cl.map (·.2), H1 b = none) → E c d (patch (cl.map (·.2)) H H1)) ⟨nt (noC (cl.map (·.2)) H), noC (cl.map (·.2)) fz, [], fun c d H1 => (∀ b ∈ cl.map (·.2), H1 b = none) → E c d (patch (cl.map (·.2)) H H1), cls, T⟩
      ⟨S.nd, rfl, passes_of rfl, hr.deeper _, takes_of rfl rfl rfl rfl, rfl, rfl, hK⟩).run [] _ _ _ (fun v H1 => (∀ b ∈ cl.map (·.2), H1 b = none) → Q v (patch (cl.map (·.2)) H H1)) J (retE_ok (fz := noC (cl.map (·.2)) fz) rfl rfl R0 E0_ ?_)
    · refine PySem.W.kla_codeExpr (wpAny_mono run (fun v s' hq => ?_) fun e s' hq => wpAny_mono hq (fun _ s'' z => O.cx z) fun e' s'' z => O.cx z)
      obtain ⟨v', H1, J', rv, q⟩ := hq
      have n0 : ∀ b ∈ cl.map (·.2), H1 b = none := fun b hb' => by
        obtain ⟨o, _, e⟩ := O.at_ b hb'
        exact J'.base.free b o e (noC_in hb') (by simp [lamC])
      exact O.ce J'.os J'.bare J'.base J'.hok rv (q n0)
    · refine Post.exc (β := D) (fun rt _ z H1 v sm tb1 ok n0 => ?_) (fun kk d z => ?_) h
      · have sm2 := ptN n0 sm
        obtain ⟨fz1, a1, a2, a3, a4, a5⟩ := ok
        have fzN : ∀ b ∈ cl.map (·.2), fz1 b = none := fun b hb' => by
          cases q : fz1 b with
          | none => rfl
          | some o =>
            have := a3 _ _ q
            rw [n0 b hb'] at this
            cases this
        have S1 : Same fz1 (patch (cl.map (·.2)) fz fz1) := fun b o e => by
          have nb : b ∉ cl.map (·.2) := fun hb' => by rw [fzN b hb'] at e; cases e
          rw [patch_out nb]
          exact e
        refine z _ v sm2 ?_ ⟨patch (cl.map (·.2)) fz fz1, fun b ps e => ?_, fun b o e => ?_, fun b o e => ?_, fun b us e1 e2 => ?_, ?_⟩
        · intro p hp
          obtain ⟨qs, t1, t2, t3⟩ := tb1 p hp
          have out : ∀ {b : Addr} {o : HO}, H1 b = some o → b ∉ cl.map (·.2) := fun {b o} e hb' => by rw [n0 b hb'] at e; cases e
          refine ⟨qs, by rw [patch_out (out t1)]; exact t1, t2, fun ps cv hcv => ?_⟩
          obtain ⟨c0, w1, w2⟩ := t3 ps cv hcv
          exact ⟨c0, w1, by rw [patch_out (out w2)]; exact w2⟩
        · by_cases hb' : b ∈ cl.map (·.2)
          · rw [patch_in hb'] at e; exact nf b ps e
          · rw [patch_out hb'] at e; exact a1 b ps e
        · by_cases hb' : b ∈ cl.map (·.2)
          · rw [patch_in hb']; exact e
          · rw [patch_out hb']; exact a2 b o (by rw [noC_out hb']; exact e)
        · by_cases hb' : b ∈ cl.map (·.2)
          · rw [patch_in hb'] at e ⊢; exact sf b o e
          · rw [patch_out hb'] at e ⊢; exact a3 b o e
        · by_cases hb' : b ∈ cl.map (·.2)
          · rw [patch_in hb']; exact e2
          · rw [patch_out hb']
            exact a4 b us ((nt_noC hb').trans e1) ((noC_out hb').trans e2)
        · cases rt with
          | v d => exact Rp.mono S1 a5
          | l xs =>
            obtain ⟨a, ws, rfl, b1, b2, b3, b4⟩ := a5
            have na : a ∉ cl.map (·.2) := fun hb' => by rw [n0 a hb'] at b3; cases b3
            exact ⟨a, ws, rfl, (nt_noC na).symm.trans b1, (patch_out na).trans b2, (patch_out na).trans b3, Rps.mono S1 b4⟩
      · intro H1 dx v sm tb1 hn hx hv n0
        have nd : dx ∉ cl.map (·.2) := fun hb' => by rw [n0 dx hb'] at hx; cases hx
        refine z _ dx v (ptN n0 sm) (fun p hp => ?_) ?_ (by rw [patch_out nd]; exact hx) (Rp.mono (fun b o e => ?_) hv)
        · obtain ⟨qs, t1, t2, t3⟩ := tb1 p hp
          have out : ∀ {b : Addr} {o : HO}, H1 b = some o → b ∉ cl.map (·.2) := fun {b o} e hb' => by rw [n0 b hb'] at e; cases e
          refine ⟨qs, by rw [patch_out (out t1)]; exact t1, t2, fun ps cv hcv => ?_⟩
          obtain ⟨c0, w1, w2⟩ := t3 ps cv hcv
          exact ⟨c0, w1, by rw [patch_out (out w2)]; exact w2⟩
        · exact (nt_noC nd).symm.trans hn
        · have nb : b ∉ cl.map (·.2) := fun hb' => by rw [n0 b hb'] at e; cases e
          rw [patch_out nb]
          exact e
end
end Mir

set_option maxRecDepth 100000
set_option maxHeartbeats 4000000
namespace Mir
variable [Tab]
open PySem PySem.Spec PyProof.Rows L2
/-! ### try, several clauses, each with a name -/
abbrev HTS := Addr → Value → Option Addr → TS
/-- behind a clause its name is gone -/
def endAs (i : Nat) (D : Ends) : Ends := { nx := fun τ G' => D.nx (τ.set i none) G', rt := D.rt, bk := fun τ G' => D.bk (τ.set i none) G', ct := fun τ G' => D.ct (τ.set i none) G' }
def wManyA (K : PySem.W.Frag) (i : Nat) (Wo : WX) (D : Ends) : List (Value × HTS) → WX
  | [] => Wo
  | (c, ts) :: r => fun kl dd τ G' => ∃ b, PySem.W.exmOne K kl c = some b ∧ (b = true → ∀ a, G' a = none → ts a kl dd (endAs i D) (τ.set i (some (.ref a))) G') ∧ (b = false → wManyA K i Wo D r kl dd τ G')
inductive HdsA (X : Cx) (n : Str) : List ExceptHandler → List (Value × HTS) → Prop
  | nil : HdsA X n [] []
  | cons {x : Str} {c : Value} {ts : HTS} {b0 : Stmt} {su : List Stmt} {np pp : Pos} {hds : List ExceptHandler} {l : List (Value × HTS)} (hc : Names X x c)
      (hsu : ∀ (a : Addr) (oe : Obj) (kl : Value) (dd : Option Addr) (pn : List (Addr × Obj)), Zc kl dd oe → (∃ vs, oe.data = .fields vs) → PSs (X.suite a ((a, oe) :: pn)) (b0 :: su) (ts a kl dd)) (r : HdsA X n hds l) :
      HdsA X n (.ExceptHandler (some (.Name x np)) (some n) (b0 :: su) pp :: hds) ((c, ts) :: l)
section
variable {X : Cx} {body : List Stmt} {h0 : ExceptHandler} {hds : List ExceptHandler} {l : List (Value × HTS)} {pos : Pos} {tb : WX → TS} {Wo : WX} {i : Nat} {n : Str}
theorem ps_try_manyA (hs : X.stack = X.env :: X.outer) (hf : X.env.frame = some X.env.locals) (hN : X.N.Nodup) (hi : X.N[i]? = some n) (hln : X.env.kindOf n = some .local) (tk : Takes X Wo)
    (hb : ∀ (W : WX) (pn : List (Addr × Obj)) (xe : Value → Shared → Prop), Takes (X.tr pn xe) W → PassesOwn (model X.prog X.w) X.A X.env xe → PSs (X.tr pn xe) body (tb W)) (hh : HdsA X n (h0 :: hds) l) :
    PS X (.Try body (h0 :: hds) [] [] pos) (fun D σ H => tb (wManyA X.K i Wo D l) D σ H) := by
  refine ⟨fun pins s σ H D J0 hw => ?_⟩
  have ok := J0.ok
  have afr : X.A.frames = some (X.env :: X.outer) := by rw [ok.frames, hs]
  refine wpAny_Try_except (wpAny_mono ((hb (wManyA X.K i Wo D l) (X.pn ++ pins) (fun e s1 => wpAny (model X.prog X.w) X.A (noteFrame e X.env) (fun _ s2 => wpAny (model X.prog X.w) X.A (setFlight e none)
    (fun _ s3 => wpAny (model X.prog X.w) X.A (handleBy e X.env (h0 :: hds)) (SP X pins D) X.xe s3) X.xe s2) X.xe s1) (fun u s' xx => ?_) PassesOwn.looking).run [] s σ H D (J0.toTry _) hw) (fun f s1 hsp => ?_) (fun e s1 z => z))
  · obtain ⟨a, B, sI, ps', τ, G', kl, dd, rfl, J1, nb, up, sk, na, os, ag, w⟩ := xx
    have J := J1.ofTry (pins := pins) ok
    have sk2 : Sky B (X.env :: X.outer) a (Zc kl dd) X.env.locals s'.heap := by rw [← hs]; exact sk
    show wpAny (model X.prog X.w) X.A (noteFrame (.ref a) X.env) _ _ _
    refine Sky.land Zc.steady afr hf sk2 fun h3 f3 up3 => ?_
    have J3 : Inv X pins τ G' { s' with heap := h3 } := J.landed nb f3.1 (up.trans up3) os ag
    obtain ⟨o3, v3, e3, z3, d3⟩ := f3.there
    have nfr : a ∉ frs (X.env :: X.outer) := fun hm => by
      obtain ⟨_, o', e', hnf⟩ := f3.2.2.1.mem hm
      rw [e3] at e'
      cases e'
      exact hnf _ d3
    have nL : a ≠ X.env.locals := fun z => nfr (List.mem_filterMap.mpr ⟨_, .head _, hf.trans (by rw [z])⟩)
    have nF : a ∉ X.fs := fun hm => by
      obtain ⟨e, he, q⟩ := List.mem_filterMap.mp hm
      exact nfr (List.mem_filterMap.mpr ⟨e, .tail _ he, q⟩)
    have S3 := J3.suite e3 d3 na nL nF
    have go : ∀ {hds' : List ExceptHandler} {l' : List (Value × HTS)}, HdsA X n hds' l' → wManyA X.K i Wo D l' kl dd τ G' →
        wpAny (model X.prog X.w) X.A (handleBy (.ref a) X.env hds') (SP X pins D) X.xe { s' with heap := h3 } := by
      intro hds' l' hk
      induction hk with
      | nil =>
        intro w
        refine wpAny_handleBy_nil ?_
        obtain ⟨_, _, _, oe, vs, Tb, _, _, he, _, hd, h1, _⟩ := id f3
        have fin : wpAny (model X.prog X.w) X.A (setFlight (.ref a) X.env.frame) (fun _ s4 => wpAny (model X.prog X.w) X.A (throw (.ref a) : Sem Flow) (SP X pins D) X.xe s4) X.xe { s' with heap := h3 } := by
          rw [hf]
          exact HandSPX.setFlight_upZ f3 fun h4 hh4 up4 => wpAny_throw (tk _ _ ⟨a, B, sI, pins, τ, G', kl, dd, rfl, J, nb, (up.trans up3).trans up4, .inr (.inr (hs ▸ hh4)), na, os, ag, w⟩)
        unfold PySem.passOn
        refine wpAny_bind (wpAny_field he hd h1 ?_)
        rw [if_neg (show ¬ (Value.ref Tb == Value.none) = true by simp)]
        first
          | exact wpAny_bind fin
          | exact wpAny_bind (wpAny_pure (wpAny_bind fin))
      | @cons x c ts b0 su np pp hds2 l2 hc hsu r ih =>
        intro w
        obtain ⟨b, hb1, hyes, hno⟩ := w
        have LT : PySem.W.Looks (model X.prog X.w) h3 (typeOf (.ref a)) kl := fun A Q E s k q => wpAny_typeOf_ref (k _ _ e3) (z3.1.symm ▸ q)
        have LM := PySem.W.exm_one (M := model X.prog X.w) J3.kIn LT hb1
        refine wpAny_handleBy_cons (codeAny_handlers_test ?_) (fun q => by cases q)
        have name : ∀ {Q : Value → Shared → Prop} {E : Value → Shared → Prop}, Q c { s' with heap := h3 } → wpAny (model X.prog X.w) (X.A.mark (some (.ref a))) (eval (.Name x np) X.env) Q E { s' with heap := h3 } := fun {Q E} q => by
          rcases hc with ⟨hg, hdbg, hm | ⟨hm, hv, hnn⟩⟩
          · exact ld_glob (X := X.suite a ((a, o3) :: (X.pn ++ pins))) S3 hg hm q hdbg
          · exact ld_blt (X := X.suite a ((a, o3) :: (X.pn ++ pins))) S3 hg hm hv q hnn hdbg
        refine name (LM.here ?_)
        cases b with
        | false =>
          show wpAny _ X.A (handleBy (.ref a) X.env hds2) _ _ _
          exact ih (hno rfl)
        | true =>
          refine codeAny_handlers_suite_as (HandSPX.lands_againZ f3 fun h4 f4 up4 => ?_)
          have J4 : Inv X pins τ G' { s' with heap := h4 } := J.landed nb f4.1 ((up.trans up3).trans up4) os ag
          obtain ⟨o4, v4, e4, z4, d4⟩ := f4.there
          have S4 := J4.suite e4 d4 na nL nF
          refine store_ok (X := X.suite a ((a, o4) :: (X.pn ++ pins))) (v := .ref a) S4 hN hi (.inl hln) rfl (fun s5 S5 => ?_) (.inr hln)
          refine wpAny_mono ((hsu a o4 kl dd (X.pn ++ pins) z4 ⟨_, d4⟩).run [] s5 _ G' (endAs i D) S5 (hyes rfl a na)) (fun f s6 hsp => ?_) (fun _ _ z => False.elim z)
          have end_ : ∀ {σ6 : L2.St} {H6 : Hp} {Q : Shared → Prop}, Inv (X.suite a ((a, o4) :: (X.pn ++ pins))) [] σ6 H6 s6 → (∀ s7, Inv X pins (σ6.set i none) H6 s7 → Q s7) →
              wpAny (model X.prog X.w) X.A (do bindName X.env n .none; unbindBehindTheSuite X.env n pp) (fun _ s7 => Q s7) X.xe s6 := fun {σ6 H6 Q} S6 hq => gone_ok (S6.unsuite ok) hN hi hln hq
          cases f with
          | ret u =>
            obtain ⟨v6, σ6, H6, S6, r6, q6⟩ := hsp
            exact end_ S6 fun s7 J7 => ⟨_, _, _, J7, r6, q6⟩
          | next =>
            obtain ⟨_, _, S6, q6⟩ := hsp
            exact end_ S6 fun s7 J7 => ⟨_, _, J7, q6⟩
          | brk =>
            obtain ⟨_, _, S6, q6⟩ := hsp
            exact end_ S6 fun s7 J7 => ⟨_, _, J7, q6⟩
          | cont =>
            obtain ⟨_, _, S6, q6⟩ := hsp
            exact end_ S6 fun s7 J7 => ⟨_, _, J7, q6⟩
    exact go hh w
  · cases f with
    | next =>
      obtain ⟨τ, G', J1, q⟩ := hsp
      exact wpAny_execs_nil ⟨τ, G', J1.ofTry ok, q⟩
    | brk =>
      obtain ⟨τ, G', J1, q⟩ := hsp
      exact ⟨τ, G', J1.ofTry ok, q⟩
    | cont =>
      obtain ⟨τ, G', J1, q⟩ := hsp
      exact ⟨τ, G', J1.ofTry ok, q⟩
    | ret u =>
      obtain ⟨v, τ, G', J1, r, q⟩ := hsp
      exact ⟨v, τ, G', J1.ofTry ok, r, q⟩
end
end Mir

set_option maxRecDepth 100000
set_option maxHeartbeats 4000000
namespace Mir
variable [Tab]
open PySem PySem.Spec PyProof.Rows L2
section
variable {X : Cx} {g : G} {cls : Nat → Addr} {T : List (Addr × Str)} {k : Nat}
/-! ### repr of data -/
def shownB (x : PyData) : Bool := PyData.plain x && (x.showable && (!x.hasDict && (Nat.ble x.depth 50 && Nat.ble x.shown.length sz)))
def fRepr : List D → Own → R D := one1 fun d own => match d with
  | .p (.dict []) => .ok (.p (.str (PyData.dict []).shown)) own
  | d => match dv d own with
    | some x => match shownB x with
      | true => .ok (.p (.str x.shown)) own
      | false => .bad
    | none => .bad
def rRepr (K : PySem.W.Frag) : List V → Hp → VK → Prop := fun xs H Q => ∃ v, xs = [v] ∧ ((∃ a, v = .ref a ∧ H a = some (.dK []) ∧ Q (.str (PyData.dict []).shown) H) ∨ ∃ x, Dp K H v x ∧ shownB x = true ∧ Q (.str x.shown) H)
theorem empty_size : (PyData.dict []).shown.length ≤ sizeLine := by rw [← sz_eq]; decide +kernel
theorem call_reprD (gd : X.A.guards = some []) (hu : X.A.units + 64 < cLine) : CallR X (.builtin "repr") (rRepr X.K) := by
  intro pins s σ H xs us Q J r h
  obtain ⟨v, rfl, h⟩ := h
  obtain ⟨u, rfl, ru⟩ := vals1 r
  rcases h with ⟨a, rfl, ha, q⟩ | ⟨x, hd, hz, q⟩
  · cases ru
    obtain ⟨_, ns, vs, kv, o, es, ep, h1, h2, h3, h4⟩ : ObjOk X.prog X.w H s.heap a (.dK []) := J.hok a _ ha
    cases kv
    have e0 : es.toList = [] := by
      have hp := h4.2.1
      revert hp
      cases es.toList with
      | nil => intro _; rfl
      | cons b l => intro hp; cases hp
    have hr : Reads s.heap (.ref a) (.dict []) [a] := Reads.dict (as := []) (bs := []) h1 h2.1 h3 (by rw [e0]; exact .nil) (by rw [e0]; exact .nil)
    refine repr_of_reads' hr (by decide) (fun _ z => ?_) gd (by show X.A.units + ((PyData.dict []).depth + 1) < cLine; simp [PyData.depth, PyData.depthKv]; omega) (fun _ _ e => e) (fun h' u tk hk => ⟨.str _, H, J.kept hk, ⟨u, rfl⟩, q⟩) empty_size
    have e : sysModules = a := by simpa using z
    rw [← e] at ns
    simp at ns
  · unfold shownB at hz
    simp only [Bool.and_eq_true, Bool.not_eq_true'] at hz
    obtain ⟨z1, z2, z3, z4, z5⟩ := hz
    have z4 := Nat.le_of_ble_eq_true z4
    have z5 := ble_le z5
    obtain ⟨as, hr⟩ := Dp.reads J x v u hd ru
    cases hd with
    | non => cases ru; exact P.repr_of_none ⟨.str _, H, J.tok _, ⟨_, rfl⟩, q⟩
    | bl b => cases ru; exact P.repr_of_bool ⟨.str _, H, J.tok _, ⟨_, rfl⟩, q⟩
    | int i =>
      obtain ⟨t, rfl⟩ := ru
      exact P.repr_of_int (by simpa [PyData.showable] using z2) ⟨.str _, H, J.tok _, ⟨_, rfl⟩, q⟩
    | str y =>
      obtain ⟨t, rfl⟩ := ru
      exact P.repr_of_str ⟨.str _, H, J.tok _, ⟨_, rfl⟩, q⟩ z5
    | lst _ _ => cases ru; exact repr_of_reads' hr z2 (PyData.noDict_hsm z3) gd (by omega) (fun _ _ e => e) (fun h' u tk hk => ⟨.str _, H, J.kept hk, ⟨u, rfl⟩, q⟩) z5
    | tup _ _ => cases ru; exact repr_of_reads' hr z2 (PyData.noDict_hsm z3) gd (by omega) (fun _ _ e => e) (fun h' u tk hk => ⟨.str _, H, J.kept hk, ⟨u, rfl⟩, q⟩) z5
theorem cm_repr (gd : X.A.guards = some []) (hu : X.A.units + 64 < cLine) : CallR X (.builtin "repr") (rC g fRepr) := by
  refine CallR.imp (call_reprD gd hu) fun xs H Q h0 => ?_
  obtain ⟨c, own, x, d, rfl, r, rd, h⟩ := rC_one h0
  split at h
  · cases rd with
    | @dct a ha => exact ⟨_, rfl, .inl ⟨a, rfl, r.fz _ _ ha, h c H _ (Step.refl c) r (.str _)⟩⟩
  · split at h
    · rename_i y ey
      split at h
      · rename_i hz
        have hp : y.plain = true := by
          unfold shownB at hz
          simp only [Bool.and_eq_true] at hz
          exact hz.1
        exact ⟨_, rfl, .inr ⟨y, dv_ok r rd ey hp, hz, h c H _ (Step.refl c) r (.str _)⟩⟩
      · exact h.elim
    · exact h.elim
theorem me_repr {e : Expr} {m : M (List D)} {p pos : Pos} (C : Cxt X g cls T k) (gd : X.A.guards = some []) (h0 : X.mg "repr" = none) (ha : PA X [e] (tA g m)) (hg : Gl X "repr" := by rfl) (he : starEach [e] X.env = [(false, eval e X.env)] := by rfl) : PE X (.Call (.Name "repr" p) [e] [] pos) (tE g (mCall fRepr m)) := me_callB (cm_repr gd C.u4) hg h0 PyProof.Rows.boot_repr ha (he := he)
end
end Mir

set_option maxRecDepth 100000
set_option maxHeartbeats 4000000
namespace Mir
variable [Tab]
open PySem PySem.Spec PyProof.Rows L2
/-! ### a def that shows data -/
section
variable {P : Program} {w : World} {K : PySem.W.Frag} {mg : Str → Option Value} {base : Heap} {cls : Nat → Addr} {T : List (Addr × Str)} {k : Nat}
/-- from a body's rule to the def's promise; nothing is shown around it -/
theorem fn_g {x qual : Str} {params : Arguments} {body : List Stmt} {scope : Scope} {f : Addr} {fd : FuncData} {N ps : List Str} {dvs : List V} {kws : List (Str × V)} {sp : Sp} (F : FunD K x qual params body scope dvs kws f fd) (S : FnScope N ps scope) (len : ∀ vs H Q E, sp vs H Q E → vs.length = ps.length)
    (hb : ∀ (cdv : Value) (A : Around) (outer : List PySem.Env) (s : Shared) (H : Hp) (vs : List V) (Q : VK) (E : XK), (∀ pp, He.fAd K pp = f → cdv = .ref (He.codeOf K pp)) → Room k (A.deeper (envOfC qual scope s.heap.objs.size f cdv)) → A.guards = some [] → sp vs H Q E →
      ∃ t, PSs (cxL P w K mg base N qual scope f cdv A outer s H E) body t ∧ t { nx := fun _ H' => Q .non H', rt := Q } (L2.start N vs) H) :
    FnG P w K mg base (k + 1) f ps fd sp := by
  obtain ⟨oc, od, dV, kV, doc, pm, an, cdv, ct, osl, rfl, lk, hcd, _, _⟩ := F.ex
  refine ⟨len, fun A outer s H args us vs Q E hr gd e0 hbi r hsp => ?_⟩
  have hl := len _ _ _ _ hsp
  have KX : K.In s.heap := e0.mod.kin.keeps fun b o e => (e0.bs b o e).1
  have lim : s.heap.NoLimit := e0.mod.nolimit.keeps fun b o e => (e0.bs b o e).1
  have hkind : ∀ y ∈ ps.zip us, scope.names.lookup y.1 = some .local ∨ (scope.names.lookup y.1 = some .cell ∧ ((cellsFrom (s.heap.objs.size + 1) scope.names []).lookup y.1).isSome = true) := fun z hz => by
    rcases S.par z.1 (List.of_mem_zip (a := z.1) (b := z.2) hz).1 with q | q
    · exact .inl q
    · exact .inr ⟨q, PySem.W.cellsFrom_some _ _ _ (.inl q)⟩
  refine codeAny_call_function hr.depth (KX _ _ lk) rfl S.co S.gen rfl (PySem.W.codeRec_of KX hcd) (hbi _ _ _ _ (wpAny_newFunctionEnv_cells S.kind hkind fun env he s1 x => ?_))
  subst he
  refine ⟨lim.keeps x.toInCall.keep, codeAny_func ?_⟩
  obtain ⟨t, ht, hq⟩ := hb cdv A outer s H vs Q E (fun pp hf => by
    obtain ⟨cc, rfl⟩ := He.codeIn_ref hcd
    rw [He.codeOf_eq (by rw [hf]; exact lk) rfl]) (hr.deeper _) gd hsp
  have J := inv_start (CX := L2.CX P w) (E := E) (P := P) (w := w) (K := K) (mg := mg) (base := base) (N := N) (qual := qual) (f := f) (cd := cdv) S hr.hd e0 hl r x
  refine wpAny_mono (ht.run [] s1 (L2.start N vs) H _ J hq) (fun fl s' hs => ?_) fun e s' z => z
  cases fl with
  | ret u =>
    obtain ⟨v, σ', H', J', rv, q⟩ := hs
    exact ⟨v, H', J'.os, J'.bare, J'.base, J'.hok, rv, q⟩
  | next =>
    obtain ⟨σ', H', J', q⟩ := hs
    exact ⟨V.non, H', J'.os, J'.bare, J'.base, J'.hok, rfl, q⟩
  | brk =>
    obtain ⟨_, _, _, q⟩ := hs
    exact q.elim
  | cont =>
    obtain ⟨_, _, _, q⟩ := hs
    exact q.elim
theorem md_cG {x qual : Str} {params : Arguments} {body : List Stmt} {scope : Scope} {f : Addr} {fd : FuncData} {N ps : List Str} {slots : Nat} {ms : MS} {dvs : List V} {kws : List (Str × V)} (F : FunD K x qual params body scope dvs kws f fd) (S : FnScope N ps scope) (hN : N.length = slots) (hK : (Tab.K : PySem.W.Frag) = K)
    (hb : ∀ (cdv : Value) (A : Around) (outer : List PySem.Env) (s : Shared) (H : Hp) (E : XK) (g : G), (∀ pp, He.fAd K pp = f → cdv = .ref (He.codeOf K pp)) → Cxt (cxL P w K mg base N qual scope f cdv A outer s H E) g cls T k → A.guards = some [] → PSs (cxL P w K mg base N qual scope f cdv A outer s H E) body (tS g ms)) :
    FnG P w K mg base (k + 1) f ps fd (spF cls T ps.length (runF slots ms)) := by
  have hle : ps.length ≤ slots := by
    have := congrArg List.length S.pre
    rw [List.length_take] at this
    omega
  refine fn_g F S spF_len fun cdv A outer s H vs Q E hc hr gd hsp => ?_
  obtain ⟨fz, as, h0, h1, ht, h2, h3, h4, h5⟩ := hsp
  exact ⟨tS ⟨nt H, fz, lentsOf vs as, E, cls, T⟩ ms, hb cdv A outer s H E _ hc ⟨S.nd, rfl, passes_of rfl, hr, takes_of rfl rfl rfl rfl, rfl, rfl, hK⟩ gd, def_run (g := ⟨nt H, fz, lentsOf vs as, E, cls, T⟩) hN (by rw [h3]; exact hle) rfl h0 h1 ht h2 h4 rfl rfl h5⟩
end
/-! ### a caught exception with its own dict -/
structure ExcT (K : PySem.W.Frag) (C : Addr) : Prop where
  x : XfC K C
  cl : (PySem.W.clsIn K C).isSome = true
  ha : PySem.W.findIn K (.ref C) "__class__" = some (some (.builtin "object.__class__"))
  hn : PySem.W.specialIn K (.builtin "object.__class__") "__get__" = some (some (.builtin "getset_descriptor.__get__"))
  ht : PySem.W.takesIn K (.builtin "object.__class__") = some true
  hm : PySem.W.mroIn K C (.type "object") = some true
  no : PySem.W.findIn K (.ref C) "value" = some none
def excTB (K : PySem.W.Frag) (C : Addr) : Bool := xfB K C && ((PySem.W.clsIn K C).isSome && (decide (PySem.W.findIn K (.ref C) "__class__" = some (some (.builtin "object.__class__"))) && (decide (PySem.W.specialIn K (.builtin "object.__class__") "__get__" = some (some (.builtin "getset_descriptor.__get__"))) &&
  (decide (PySem.W.takesIn K (.builtin "object.__class__") = some true) && (decide (PySem.W.mroIn K C (.type "object") = some true) && decide (PySem.W.findIn K (.ref C) "value" = some none))))))
theorem excTB_ok {K : PySem.W.Frag} {C : Addr} (h : excTB K C = true) : ExcT K C := by
  unfold excTB at h
  simp only [Bool.and_eq_true, decide_eq_true_eq] at h
  obtain ⟨h1, h2, h3, h4, h5, h6, h7⟩ := h
  exact ⟨xfB_ok h1, h2, h3, h4, h5, h6, h7⟩
section
variable {X : Cx} {a C dx : Addr} {oe : Obj} {pn : List (Addr × Obj)}
def rIsD (K : PySem.W.Frag) (C a dx : Addr) : List V → Hp → VK → Prop := fun xs H Q => ∃ (c : V) (cv : Value) (b : Bool) (fs : List (Str × V)), xs = [.ref a, c] ∧ (∀ u, L2.RelV c u → u = cv) ∧ PySem.W.kitOne K (.ref C) cv = some b ∧ H dx = some (.xd fs) ∧ Q (.bl b) H
theorem call_isD (F : ExcT X.K C) (hz : Zc (.ref C) (some dx) oe) (hf : ∃ vs, oe.data = .fields vs) : CallR (X.suite a ((a, oe) :: pn)) (.builtin "isinstance") (rIsD X.K C a dx) := by
  intro pins s σ H xs us Q J r h
  obtain ⟨c, cv, b, fs, rfl, hcv, e, hd, q⟩ := h
  obtain ⟨u1, u2, rfl, r1, r2⟩ := vals2 r
  cases r1
  cases hcv _ r2
  have hget := (J.pin (a, oe) (List.mem_append.mpr (.inl (.head _)))).1
  obtain ⟨vs, hv⟩ := hf
  obtain ⟨mA, hns, _⟩ : ObjOk X.prog X.w H s.heap dx (.xd fs) := J.hok dx _ hd
  obtain ⟨od, ho, _⟩ := lookIn_ns hns
  have IA : PySem.W.InstAt s.heap a oe C (some od) := ⟨hget, hz.1, by unfold PySem.W.notCls; rw [hv] <;> rfl, by rw [hz.2]; exact ho⟩
  exact PySem.W.kia_one (PySem.W.kitx_exc F.cl F.x.ga F.x.gg F.x.exC F.ha F.hn F.ht F.hm) J.kIn IA e (fun z => nomatch z) fun tk => ⟨.bl b, H, J.tok _, rfl, q⟩
end
end Mir

set_option maxRecDepth 100000
set_option maxHeartbeats 4000000
namespace Mir
variable [Tab]
open PySem PySem.Spec PyProof.Rows L2
/-! ### what a call lets out is told -/
def R.catch {α β : Type} : R α → (α → R β) → (Nat → PyData → R β) → R β
  | .ok a _, f, _ => f a
  | .bad, _, _ => .bad
  | .exc k d, _, h => h k d
  | .draw n k, f, h => .draw n fun d => (k d).catch f h
theorem Post.catch {α β : Type} {g g' : G} {f : α → R β} {hh : Nat → PyData → R β} {Q : β → Own → Prop} {Q' : α → Own → Prop} (h1 : ∀ a o, Post g (f a) Q → Q' a o) (h2 : ∀ k d, Post g (hh k d) Q → g'.XOk k d) : ∀ {r : R α}, Post g (r.catch f hh) Q → Post g' r Q'
  | .ok a o, q => h1 a o q
  | .bad, q => q
  | .exc k d, q => h2 k d q
  | .draw n k, q => fun d hd => Post.catch h1 h2 (q d hd)
section
variable {X : Cx} {cls : Nat → Addr} {T : List (Addr × Str)} {k : Nat}
/-- a() where a is a kept lambda; W: what is taken of what it lets out -/
theorem pe_actW {W : WX} {run : Nat → List PyData → R Ret} {i : Nat} {a : Str} {p1 p2 : Pos} (tk : Takes X W) (hr : Room k X.A) (F : ∀ n, LamCal X.prog X.w X.K X.mg X.base cls T k n (run n)) (hN : X.N[i]? = some a := by rfl)
    (hv : Vis X.env.scope a := by first | exact Or.inl rfl | exact Or.inr (Or.inl rfl) | exact Or.inr (Or.inr rfl)) (hd : (a == ("__debug__" : Str)) = false := by decide) (hcd : (a == ("__classdict__" : Str)) = false := by decide) :
    PE X (.Call (.Name a p1) [] [] p2) (fun σ H Q => ∃ f fz n ds, σ[i]? = some (some (.ref f)) ∧ Ntb fz ∧ Same fz H ∧ LamX.Tabs T H ∧ Rp fz (.ref f) (lamD n ds) ∧ simpleAll ds = true ∧
      Post ⟨nt H, fz, [], fun c d H' => W c d σ H', cls, T⟩ (run n ds) (fun r _ => ∀ H' v, Same (nt H) H' → LamX.Tabs T H' → RetOk fz (nt H) H' v r → Q v H')) := by
  refine ⟨fun pins s σ H Q J h => ?_⟩
  obtain ⟨f, fz, n, ds, hσ, nf, sf, tb, rl, hs, h⟩ := h
  refine wpAny_Call_Name_kw (thn ((pe_var (pos := p1) (i := i) hN hv hd hcd).run pins s σ H (fun v H1 => v = .ref f ∧ H1 = H) J ⟨.ref f, hσ, rfl, rfl⟩) fun u s1 hh => ?_)
  obtain ⟨v, H1, J1, r1, rfl, rfl⟩ := hh
  cases r1
  have of1 : ∃ (c' : Addr) (cl : List (Str × Addr)) (pm ctv : Value), s1.heap.get? f = some (PySem.W.kla_obj "<lambda>" (Tab.tab n).qual (Tab.tab n).params (Tab.tab n).body (Tab.tab n).scope cl pm c' ctv) := by
    cases rl with
    | @lam _ c' _ cl vs _ l1 _ _ _ _ _ =>
      obtain ⟨⟨pm, ctv, e⟩, _, _⟩ : ObjOk X.prog X.w H1 s1.heap f (.ext fun h => ∃ pm ctv, h.get? f = some (PySem.W.kla_obj "<lambda>" (Tab.tab n).qual (Tab.tab n).params (Tab.tab n).body (Tab.tab n).scope cl pm c' ctv)) := J1.hok f _ (sf _ _ l1)
      exact ⟨c', cl, pm, ctv, e⟩
  obtain ⟨c', cl, pm, ctv, of1⟩ := of1
  refine PySem.W.callWith_F0 ⟨_, _, _, _, of1⟩ (wpAny_call (codeAny_mono ((F n).run X.A X.stack s1 H1 f Q (fun c d H' => W c d σ H') fz ds hr J1.env0 nf sf tb rl hs h) fun rr s' hq => ?_))
  cases rr with
  | error er => exact tk er s' (XE.of_call J1 (fun c d H' z => z) hq)
  | ok fl =>
    cases fl with
    | ret u => exact J1.after hq
    | next => exact hq.elim
    | brk => exact hq.elim
    | cont => exact hq.elim
end
/-! ### the clauses -/
def ShD (K : PySem.W.Frag) (H : Hp) (v : V) (y : Str) : Prop := (∃ a, v = .ref a ∧ H a = some (.dK []) ∧ y = (PyData.dict []).shown) ∨ ∃ x, Dp K H v x ∧ shownB x = true ∧ y = x.shown
def tsH (K : PySem.W.Frag) (B : Addr) (it ie : Nat) (w : Str) : HTS := fun a kl dd D τ G' => ∃ C dx v y, kl = .ref C ∧ ExcT K C ∧ dd = some dx ∧ PySem.W.kitOne K (.ref C) (.ref B) = some true ∧ τ[ie]? = some (some (.ref a)) ∧ G' dx = some (.xd [("value", v)]) ∧ ShD K G' v y ∧
  ∀ p, G' p = none → D.nx (τ.set it (some (.ref p))) (upd G' p (.lst [.str w, .str y, .bl true]))
section
variable {X : Cx}
theorem suite_h {a B : Addr} {oe : Obj} {kl : Value} {dd : Option Addr} {pn : List (Addr × Obj)} {w x1 x2 x3 : Str} {it ie j : Nat} {q1 q2 q3 q4 q5 q6 q7 q8 q9 q10 q11 q12 : Pos} (hN : X.N.Nodup) (gd : X.A.guards = some []) (hu : X.A.units + 64 < cLine) (hr : X.mg "repr" = none) (hi : X.mg "isinstance" = none) (hB : X.mg x3 = some (.ref B))
    (hz : Zc kl dd oe) (hf : ∃ vs, oe.data = .fields vs) (h1 : X.N[it]? = some x1 := by rfl) (h2 : X.N[ie]? = some x2 := by rfl) (l1 : X.env.scope.names.lookup x1 = some .local := by rfl) (l2 : X.env.scope.names.lookup x2 = some .local := by rfl)
    (g1 : Gl X "repr" := by rfl) (g2 : Gl X "isinstance" := by rfl) (g3 : Gl X x3 := by rfl) (d2 : (x2 == ("__debug__" : Str)) = false := by decide) (c2 : (x2 == ("__classdict__" : Str)) = false := by decide) (d3 : (x3 == ("__debug__" : Str)) = false := by decide)
    (hb : attributeBase (.Name x2 q5) "value" X.env (eval (.Name x2 q5) X.env) = eval (.Name x2 q5) X.env := by rfl)
    (s1 : starEach [.Constant (.str w) j q2, .Call (.Name "repr" q3) [.Attribute (.Name x2 q5) "value" q6] [] q4, .Call (.Name "isinstance" q7) [.Name x2 q8, .Name x3 q9] [] q10] X.env = (false, eval (.Constant (.str w) j q2) X.env) :: starEach [.Call (.Name "repr" q3) [.Attribute (.Name x2 q5) "value" q6] [] q4, .Call (.Name "isinstance" q7) [.Name x2 q8, .Name x3 q9] [] q10] X.env := by rfl)
    (s2 : starEach [.Call (.Name "repr" q3) [.Attribute (.Name x2 q5) "value" q6] [] q4, .Call (.Name "isinstance" q7) [.Name x2 q8, .Name x3 q9] [] q10] X.env = (false, eval (.Call (.Name "repr" q3) [.Attribute (.Name x2 q5) "value" q6] [] q4) X.env) :: starEach [.Call (.Name "isinstance" q7) [.Name x2 q8, .Name x3 q9] [] q10] X.env := by rfl)
    (s3 : starEach [.Call (.Name "isinstance" q7) [.Name x2 q8, .Name x3 q9] [] q10] X.env = (false, eval (.Call (.Name "isinstance" q7) [.Name x2 q8, .Name x3 q9] [] q10) X.env) :: starEach [] X.env := by rfl)
    (s4 : starEach [.Name x2 q8, .Name x3 q9] X.env = (false, eval (.Name x2 q8) X.env) :: starEach [.Name x3 q9] X.env := by rfl) (s5 : starEach [.Name x3 q9] X.env = (false, eval (.Name x3 q9) X.env) :: starEach [] X.env := by rfl)
    (s6 : starEach [.Attribute (.Name x2 q5) "value" q6] X.env = (false, eval (.Attribute (.Name x2 q5) "value" q6) X.env) :: starEach [] X.env := by rfl)
    (p1 : (backTo q10 (starEach [.Name x3 q9] X.env)).any (·.1) = false := by rfl) (p2 : (backTo q4 (starEach [] X.env)).any (·.1) = false := by rfl)
    (sw : swapsWith (.List [.Constant (.str w) j q2, .Call (.Name "repr" q3) [.Attribute (.Name x2 q5) "value" q6] [] q4, .Call (.Name "isinstance" q7) [.Name x2 q8, .Name x3 q9] [] q10] q11) (some (.Name x1 q1)) q12.line X.env = pure false := by rfl) :
    PSs (X.suite a ((a, oe) :: pn)) [.Assign [.Name x1 q1] (.List [.Constant (.str w) j q2, .Call (.Name "repr" q3) [.Attribute (.Name x2 q5) "value" q6] [] q4, .Call (.Name "isinstance" q7) [.Name x2 q8, .Name x3 q9] [] q10] q11) q12] (tsH X.K B it ie w a kl dd) := by
  refine ⟨fun pins s τ G' D J h => ?_⟩
  obtain ⟨C, dx, v, y, rfl, hT, rfl, hk, hτ, hd, sh, hp⟩ := h
  have e1 : PE (X.suite a ((a, oe) :: pn)) (.Name x2 q5) (tVar ie) := pe_var h2 (.inl l2) d2 c2
  have e2 : PE (X.suite a ((a, oe) :: pn)) (.Name x2 q8) (tVar ie) := pe_var h2 (.inl l2) d2 c2
  have e3 : PE (X.suite a ((a, oe) :: pn)) (.Name x3 q9) (tC (.ref B)) := pe_glob g3 hB rfl d3
  refine (pss_one (ps_set (X := X.suite a ((a, oe) :: pn)) (i := it) hN h1 (.inl l1) (pe_lst (pa_cons pe_str (pa_cons (pe_callB (call_reprD gd hu) g1 hr PyProof.Rows.boot_repr (pa_cons (pe_xf hT.x hT.no hz hf e1 hb) pa_nil s6) (by decide) (by decide) s6 p2)
    (pa_cons (pe_callB (call_isD hT hz hf) g2 hi PyProof.Rows.boot_isinstance (pa_cons e2 (pa_cons e3 pa_nil s5) s4) (by decide) (by decide) s4 p1) pa_nil s3) s2) s1)) sw (.inr l1))).run pins s τ G' D J ?_
  rcases sh with ⟨a1, rfl, h1', rfl⟩ | ⟨x, hx, hs, rfl⟩
  · refine ⟨.ref a, hτ, rfl, rfl, dx, _, _, rfl, hd, (by simp [List.lookup]), _, rfl, .inl ⟨a1, rfl, h1', ?_⟩⟩
    exact ⟨.ref a, hτ, .ref B, .ref B, true, _, rfl, fun u z => z, hk, hd, (by simp only [List.length]; rw [← sz_eq]; decide), hp⟩
  · refine ⟨.ref a, hτ, rfl, rfl, dx, _, _, rfl, hd, (by simp [List.lookup]), _, rfl, .inr ⟨x, hx, hs, ?_⟩⟩
    exact ⟨.ref a, hτ, .ref B, .ref B, true, _, rfl, fun u z => z, hk, hd, (by simp only [List.length]; rw [← sz_eq]; decide), hp⟩
end
end Mir

set_option maxRecDepth 100000
set_option maxHeartbeats 4000000
namespace Mir
variable [Tab]
open PySem PySem.Spec PyProof.Rows L2
/-! ### a def that tells what a call lets out -/
def lamArg : List Arg → Option (Nat × List PyData)
  | [.p (.dict [(.int (.ofNat n), .list ds)])] => some (n, ds)
  | _ => none
theorem lamArg_some {as : List Arg} {n : Nat} {ds : List PyData} (h : lamArg as = some (n, ds)) : as = [.p (lamD n ds)] := by
  unfold lamArg at h
  split at h
  · cases h; rfl
  · cases h
def shD : PyData → Bool
  | .dict [] => true
  | d => shownB d
theorem shD_ok {K : PySem.W.Frag} {H : Hp} {v : V} {d : PyData} (h : shD d = true) (r : Rp H v d) : ShD K H v d.shown := by
  unfold shD at h
  split at h
  · cases r with
    | dct e => exact .inl ⟨_, rfl, e, rfl⟩
  · refine .inr ⟨d, Rp.dp r ?_, h, rfl⟩
    unfold shownB at h
    simp only [Bool.and_eq_true] at h
    exact h.1
def mHeard (run : Nat → List PyData → R Ret) (word : Nat → Option Str) : Fn := fun as => match lamArg as with
  | some (n, ds) => match simpleAll ds with
    | true => (run n ds).catch (fun _ => .ok (.l [.str "let"]) []) fun k d => match word k with
      | some w => match shD d with
        | true => .ok (.l [.str w, .str d.shown, .bool true]) []
        | false => .bad
      | none => .bad
    | false => .bad
  | none => .bad
/-- the clause that takes it -/
def pickB (K : PySem.W.Frag) (kl : Value) : List (Value × Str) → Option Str
  | [] => none
  | (c, w) :: r => match PySem.W.exmOne K kl c with
    | some true => some w
    | some false => pickB K kl r
    | none => none
theorem wMany_ok {K : PySem.W.Frag} {B C : Addr} {it ie : Nat} {Wo : WX} {D : Ends} {w : Str} {τ : L2.St} {G' : Hp} {dd : Option Addr} : ∀ {l : List (Value × Str)}, pickB K (.ref C) l = some w → (∀ a, G' a = none → tsH K B it ie w a (.ref C) dd (endAs ie D) (τ.set ie (some (.ref a))) G') →
    wManyA K ie Wo D (l.map fun p => (p.1, tsH K B it ie p.2)) (.ref C) dd τ G'
  | [], h, _ => by cases h
  | (c, u) :: r, h, q => by
    unfold pickB at h
    split at h
    · rename_i e
      cases h
      exact ⟨true, e, fun _ => q, fun z => by cases z⟩
    · rename_i e
      exact ⟨false, e, (fun z => by cases z), fun _ => wMany_ok h q⟩
    · cases h
section
variable {P : Program} {w : World} {K : PySem.W.Frag} {mg : Str → Option Value} {base : Heap} {cls : Nat → Addr} {T : List (Addr × Str)} {k : Nat}
theorem heard_fn {x qual : Str} {params : Arguments} {scope : Scope} {f B : Addr} {fd : FuncData} {run : Nat → List PyData → R Ret} {word : Nat → Option Str} {l : List (Value × Str)} {h0 : ExceptHandler} {hds : List ExceptHandler} {j : Nat} {q1 q2 q3 q4 q5 q6 q7 q8 q9 q10 : Pos}
    (F : FunD K x qual params [.Assign [.Name "told" q1] (.List [.Constant (.str "let") j q2] q3) q4, .Try [.Expr (.Call (.Name "call" q5) [] [] q6) q7] (h0 :: hds) [] [] q8, .Return (some (.Name "told" q9)) q10] scope [] [] f fd) (S : FnScope ["call", "told", "e"] ["call"] scope) (hK : (Tab.K : PySem.W.Frag) = K)
    (l0 : scope.names.lookup ("call" : Str) = some .local) (l1 : scope.names.lookup ("told" : Str) = some .local) (l2 : scope.names.lookup ("e" : Str) = some .local)
    (hrun : ∀ n, LamCal P w K mg base cls T k n (run n)) (hw : ∀ n u, word n = some u → excTB K (cls n) = true ∧ PySem.W.kitOne K (.ref (cls n)) (.ref B) = some true ∧ pickB K (.ref (cls n)) l = some u)
    (hh : ∀ (cdv : Value) (A : Around) (outer : List PySem.Env) (s : Shared) (H : Hp) (E : XK), A.guards = some [] → (cxL P w K mg base ["call", "told", "e"] qual scope f cdv A outer s H E).A.units + 64 < cLine → HdsA (cxL P w K mg base ["call", "told", "e"] qual scope f cdv A outer s H E) "e" (h0 :: hds) (l.map fun p => (p.1, tsH K B 1 2 p.2))) :
    FnG P w K mg base (k + 1) f ["call"] fd (spF cls T 1 (mHeard run word)) := by
  refine fn_g F S spF_len fun cdv A outer s H vs Q E hc hr gd hsp => ?_
  obtain ⟨fz, as, nf, sf, tb, ha, hal, nd, h⟩ := hsp
  have hu : (cxL P w K mg base ["call", "told", "e"] qual scope f cdv A outer s H E).A.units + 64 < cLine := by
    have := hr.un
    show (A.deeper (envOfC qual scope s.heap.objs.size f cdv)).units + 64 < cLine
    omega
  unfold mHeard at h
  split at h
  · rename_i n ds e1
    rw [lamArg_some e1] at ha h
    split at h
    · rename_i hs
      cases ha with
      | @cons v vs _ _ r0 t =>
        cases t
        have r0 : Rp fz v (lamD n ds) := r0
        have hv : ∃ c, v = .ref c := by
          cases r0 with
          | lam => exact ⟨_, rfl⟩
        obtain ⟨c, rfl⟩ := hv
        refine ⟨_, pss_cons (ps_set (i := 1) S.nd rfl (.inl l1) (pe_lst (pa_cons pe_str pa_nil)) (hf := .inr l1))
          (pss_cons (ps_try_manyA (i := 2) (n := "e") (Wo := fun c d _ H => E c d H) rfl rfl S.nd rfl l2 (takes_of rfl rfl rfl rfl) (fun W pn xe tk po => pss_one (ps_expr (pe_actW (i := 0) tk hr hrun rfl (.inl l0)))) (hh cdv A outer s H E gd hu)) (pss_one (ps_ret (pe_var (i := 1) rfl (.inl l1))))), ?_⟩
        have nH1 : ∀ {p : Addr} {o : HO}, H p = none → Same (nt H) (nt (upd H p o)) := fun {p o} hp b u e => by
          have hb : b ≠ p := ne_of_none e (nt_none hp)
          show (match upd H p o b with | some (.tbl _) => none | z => z) = some u
          rw [upd_ne hb]
          exact e
        have fzn : ∀ {p : Addr}, H p = none → fz p = none := fun {p} hp => Same.free sf hp
        have sfn : Same fz (nt H) := fun b o e => nt_at (sf b o e) fun ps z => nf b ps (by rw [e, z])
        refine ⟨(by rw [← sz_eq]; decide), fun p hp => ?_⟩
        show ∃ f' fz' n' ds', _
        refine ⟨c, fz, n, ds, rfl, nf, sf.trans (same_new hp), tb.ext (same_new hp), r0, hs, ?_⟩
        refine Post.catch (g := ⟨nt H, fz, [], E, cls, T⟩) (fun a o z H' v s1 tb1 _ => ?_) (fun kk d z H' dx v s1 tb1 hn hx hv => ?_) h
        · refine ⟨.ref p, rfl, z H' (.ref p) ((nH1 hp).trans s1) tb1 ⟨fz, nf, Same.refl _, sfn.trans ((nH1 hp).trans s1), fun _ _ _ q => q, p, [.str "let"], rfl, nt_none hp, fzn hp, s1 p _ (nt_at upd_same fun ps q => by cases q), .cons (.str _) .nil⟩⟩
        · split at z
          · rename_i u eu
            split at z
            · rename_i hd
              obtain ⟨w1, w2, w3⟩ := hw _ _ eu
              refine wMany_ok w3 fun a han => ⟨cls kk, dx, v, d.shown, rfl, excTB_ok w1, rfl, w2, rfl, hx, shD_ok hd hv, fun b hb => ?_⟩
              have s2 : Same (nt H) H' := (nH1 hp).trans s1
              refine ⟨.ref b, rfl, z _ (.ref b) (s2.trans (same_new hb)) (tb1.ext (same_new hb)) ⟨fz, nf, Same.refl _, (sfn.trans s2).trans (same_new hb), fun _ _ _ q => q, b, _, rfl, Same.free s2 hb, Same.free (sfn.trans s2) hb, upd_same, .cons (.str _) (.cons (.str _) (.cons (.bl _) .nil))⟩⟩
            · exact z.elim
          · exact z.elim
    · exact h.elim
  · exact h.elim
end
end Mir

set_option maxRecDepth 100000
set_option maxHeartbeats 4000000
namespace Mir
variable [Tab]
open PySem PySem.Spec PyProof.Rows L2
/-! ### calls by keywords alone -/
def pick {α : Type} (is : List Nat) (xs : List α) : List α := is.filterMap fun i => xs[i]?
def mPick (n : Nat) (is : List Nat) (m : M (List D)) : M (List D) := fun env own => (m env own).bind fun ds o => match Nat.beq ds.length n with
  | true => .ok (pick is ds) o
  | false => .bad
theorem RelDs.len {c : C} {vs : List V} {ds : List D} (r : RelDs c vs ds) : vs.length = ds.length := by
  induction r with
  | nil => rfl
  | cons _ _ ih => rw [List.length_cons, List.length_cons, ih]
theorem pick_vals : ∀ (is : List Nat) {vs : List V} {us : List Value}, Vals vs us → Vals (pick is vs) (pick is us)
  | [], _, _, _ => .nil
  | i :: is, vs, us, r => by
    have t := pick_vals is r
    unfold pick at t ⊢
    cases hv : vs[i]? with
    | none =>
      have hu : us[i]? = none := List.getElem?_eq_none_iff.mpr (by rw [← r.length]; exact List.getElem?_eq_none_iff.mp hv)
      rw [List.filterMap_cons, List.filterMap_cons, hv, hu]
      exact t
    | some v =>
      have hl : i < us.length := by rw [← r.length]; exact (List.getElem?_eq_some_iff.mp hv).1
      have : ∃ u, us[i]? = some u ∧ L2.RelV v u := by
        clear t
        induction r generalizing i with
        | nil => simp at hv
        | @cons a b as bs h1 h2 ih =>
          cases i with
          | zero =>
            have e : a = v := by simpa using hv
            subst e
            exact ⟨b, rfl, h1⟩
          | succ i => 
            obtain ⟨u, e1, e2⟩ := ih i (by simpa using hv) (by simpa using hl)
            exact ⟨u, by simpa using e1, e2⟩
      obtain ⟨u, hu, ru⟩ := this
      rw [List.filterMap_cons, List.filterMap_cons, hv, hu]
      exact .cons ru t
theorem RelDs.get {c : C} {vs : List V} {ds : List D} (r : RelDs c vs ds) : ∀ (i : Nat), (vs[i]? = none ∧ ds[i]? = none) ∨ ∃ v d, vs[i]? = some v ∧ ds[i]? = some d ∧ RelD c v d := by
  induction r with
  | nil => exact fun i => .inl ⟨by simp, by simp⟩
  | @cons v vs d ds h t ih =>
    intro i
    cases i with
    | zero => exact .inr ⟨_, _, rfl, rfl, h⟩
    | succ i => simpa using ih i
theorem pick_rel {c : C} {vs : List V} {ds : List D} (r : RelDs c vs ds) : ∀ (is : List Nat), RelDs c (pick is vs) (pick is ds)
  | [] => .nil
  | i :: is => by
    have t := pick_rel r is
    unfold pick at t ⊢
    rw [List.filterMap_cons, List.filterMap_cons]
    rcases RelDs.get r i with ⟨e1, e2⟩ | ⟨v, d, e1, e2, rd⟩
    · rw [e1, e2]; exact t
    · rw [e1, e2]; exact .cons rd t
section
variable {X : Cx} {g : G} {cls : Nat → Addr} {T : List (Addr × Str)} {k : Nat}
theorem pk_imp {kws : List Keyword} {t t' : TA} (h : PK X kws t) (i : ∀ σ H Q, t' σ H Q → t σ H Q) : PK X kws t' := ⟨fun pos pins s σ H Q I q => h.run pos pins s σ H Q I (i σ H Q q)⟩
theorem mk_nil : PK X [] (tA g mNil) := pk_imp pk_nil fun σ H Q ⟨c, env, own, r, e, h⟩ => h c H [] (Step.refl c) r .nil
theorem mk_cons {e : Expr} {kws : List Keyword} {nm : Option Str} {kpos : Pos} {x : M D} {xs : M (List D)} (ha : PE X e (tE g x)) (hr : PK X kws (tA g xs)) : PK X (⟨nm, e, kpos⟩ :: kws) (tA g (mCons x xs)) := by
  refine pk_imp (pk_cons ha hr) fun σ H Q h => ?_
  obtain ⟨c, env, own, r, e, h⟩ := h
  refine tE.go r e h fun d o1 c1 H1 v1 s1 r1 e1 d1 h1 => ?_
  refine tA.go r1 e1 h1 fun ds o2 c2 H2 vs s2 r2 e2 d2 h2 => ?_
  exact h2 c2 H2 _ (s1.trans s2) r2 (.cons (d1.step s2) d2)
theorem pick_of {n : Nat} {is : List Nat} {m : M (List D)} {σ : L2.St} {H : Hp} {Q : List V → Hp → Prop} (h : tA g (mPick n is m) σ H Q) : tA g m σ H fun vs H1 => vs.length = n ∧ Q (pick is vs) H1 := by
  obtain ⟨c, env, own, r, e, h⟩ := h
  refine tA.go r e h fun ds o c1 H1 vs s1 r1 e1 rd q => ?_
  split at q
  · rename_i hn
    exact ⟨(RelDs.len rd).trans (Nat.eq_of_beq_eq_true hn), q c1 H1 _ s1 r1 (pick_rel rd is)⟩
  · exact q.elim
/-- a def that is called with the keywords ks, told in the order is -/
structure CalK (P : Program) (w : World) (K : PySem.W.Frag) (mg : Str → Option Value) (base : Heap) (cls : Nat → Addr) (T : List (Addr × Str)) (k : Nat) (x : Str) (n : Nat) (ks : List Str) (is : List Nat) (fn : Fn) : Prop where
  ex : ∃ f fd ps, mg x = some (.ref f) ∧ PySem.W.keepIn K (.ref f) = true ∧ (∀ (s : Shared) (us : List Value), us.length = n → BindsTo s fd ⟨[], ks.zip us⟩ (ps.zip (pick is us))) ∧ ps.length = n ∧ FnL P w K mg base k f fd ps (spF cls T ps.length fn)
theorem CalK.mono {P : Program} {w : World} {K : PySem.W.Frag} {mg : Str → Option Value} {base : Heap} {j k : Nat} {x : Str} {n : Nat} {ks : List Str} {is : List Nat} {fn : Fn} (c : CalK P w K mg base cls T j x n ks is fn) (h : j ≤ k) : CalK P w K mg base cls T k x n ks is fn := by
  obtain ⟨f, fd, ps, h1, h2, h3, h4, h5⟩ := c.ex
  exact ⟨f, fd, ps, h1, h2, h3, h4, h5.mono h⟩
theorem FunD.bindsK {K : PySem.W.Frag} {x qual : Str} {params : Arguments} {body : List Stmt} {scope : Scope} {kws : List (Str × V)} {f : Addr} {fd : FuncData} {n : Nat} {ks ps : List Str} {is : List Nat} (F : FunD K x qual params body scope [] kws f fd)
    (h : ∀ (kV doc pm : Value) (an : Option Addr) (cdv ct : Value) (us : List Value), us.length = n → bindArgs (PySem.W.fnOf x qual params body scope .none kV doc pm an cdv ct) ⟨[], ks.zip us⟩ = pure (ps.zip (pick is us))) (s : Shared) (us : List Value) (hl : us.length = n) : BindsTo s fd ⟨[], ks.zip us⟩ (ps.zip (pick is us)) := by
  obtain ⟨oc, od, dV, kV, doc, pm, an, cdv, ct, osl, rfl, lk, hcd, hD, hK⟩ := F.ex
  rcases hD with ⟨_, rfl⟩ | ⟨e, _⟩
  · exact .of_eq (h kV doc pm an cdv ct us hl)
  · exact absurd rfl e
theorem me_kw {x : Str} {n : Nat} {ks : List Str} {is : List Nat} {fn : Fn} {p pos : Pos} {kws : List Keyword} {m : M (List D)} (C : Cxt X g cls T k) (F : CalK X.prog X.w X.K X.mg X.base cls T k x n ks is fn) (hkw : PK X kws (tA g m)) (hg : Gl X x := by rfl)
    (hdb : (x == ("__debug__" : Str)) = false := by decide) (hall : (backToKw pos (keywordEach kws X.env)).all (·.1.isSome) = true := by rfl) (hks : (backToKw pos (keywordEach kws X.env)).filterMap (·.1) = ks := by rfl)
    (hpl : ((backTo pos (starEach [] X.env)).any (·.1) || (backToKw pos (keywordEach kws X.env)).any (·.1.isNone)) = false := by rfl) :
    PE X (.Call (.Name x p) [] kws pos) (tE g (mFn n fn (mPick n is m))) := by
  obtain ⟨f, fd, ps, h1, h2, h3, h4, h5⟩ := F.ex
  subst h4
  refine ⟨fun pins s σ H Q J h => wpAny_Call_Name_kw (ld_glob J hg h1 ?_ hdb)⟩
  refine PySem.W.callWith_KW0 (h₀ := X.base) J.ok.mod.kin h2 hall (thn (hkw.run pos pins s σ H _ J (pick_of (sp_of h))) fun us s1 q => ?_) hpl
  obtain ⟨vs, H1, J1, r, hvl, q⟩ := q
  refine ⟨J1.kIn, ?_⟩
  have q : spF cls T ps.length fn (pick is vs) H1 Q g.E := by
    have := q
    rwa [C.cls, C.T] at this
  have bi := h3 s1 us (r.length.symm.trans hvl)
  rw [hks]
  refine wpAny_call (codeAny_mono (h5.run X.A X.stack s1 H1 ⟨[], ks.zip us⟩ (pick is us) (pick is vs) Q g.E C.room J1.env0 bi (pick_vals is r) q) fun rr s' hq => ?_)
  cases rr with
  | error er => exact C.pass pins σ H1 s1 er s' J1 hq
  | ok fl =>
    cases fl with
    | ret u => exact J1.after hq
    | next => exact hq.elim
    | brk => exact hq.elim
    | cont => exact hq.elim
end
end Mir

set_option maxRecDepth 100000
set_option maxHeartbeats 4000000
namespace Mir
variable [Tab]
open PySem PySem.Spec PyProof.Rows L2
/-! ### the lambdas of a text -/
/-- of a suite, in order: calls = [lambda: ..], calls.append(lambda: ..) -/
def lamIn (q : Str) : List Stmt → List LamC
  | [] => []
  | .Assign _ (.List [.Lambda p b sc _] _) _ :: r => ⟨q, p, b, sc⟩ :: lamIn q r
  | .Expr (.Call _ [.Lambda p b sc _] _ _) _ :: r => ⟨q, p, b, sc⟩ :: lamIn q r
  | _ :: r => lamIn q r
section
variable {P : Program} {w : World} {K : PySem.W.Frag} {mg : Str → Option Value} {base : Heap} {cls : Nat → Addr} {T : List (Addr × Str)} {k n : Nat}
theorem LamCal.mono {j : Nat} {fn : List PyData → R Ret} (c : LamCal P w K mg base cls T j n fn) (h : j ≤ k) : LamCal P w K mg base cls T k n fn :=
  ⟨fun A outer s H f Q E fz ds hr => c.run A outer s H f Q E fz ds (hr.mono h)⟩
theorem LamCal.bad : LamCal P w K mg base cls T k n fun _ => .bad := ⟨fun _ _ _ _ _ _ _ _ _ _ _ _ _ _ _ _ h => h.elim⟩
theorem lam_calE {m : M D} {L : LamC} (ht : Tab.tab n = L) (S : LamOk L.scope) (hK : (Tab.K : PySem.W.Frag) = K)
    (hbind : ∀ (cl : List (Str × Addr)) (pm cv ctv : Value), bindArgs (PySem.W.kla_fn "<lambda>" L.qual L.params L.body L.scope cl pm cv ctv) ⟨[], []⟩ = pure [])
    (hb : ∀ (f c' : Addr) (cl : List (Str × Addr)) (A : Around) (outer : List PySem.Env) (s : Shared) (H : Hp) (E : XK) (g : G), Cxt (lamC P w K mg base (freeN L.scope.names []) L.qual L.scope f c' cl A outer s H E) g cls T k →
      PE (lamC P w K mg base (freeN L.scope.names []) L.qual L.scope f c' cl A outer s H E) L.body (tE g m)) :
    LamCal P w K mg base cls T (k + 1) n (mLamF m) := by
  subst ht
  exact lam_cal S hK hbind hb
end
def lamOkB (sc : Scope) : Bool := decide (sc.kind = .function) && (!sc.isCoroutine && (!sc.isGenerator && (sc.names.all (fun y => !decide (y.2 = .local) && !decide (y.2 = .cell)) && (decide (freeN sc.names []).Nodup &&
  (sc.names.all (fun y => !decide (sc.names.lookup y.1 = some .free) || (freeN sc.names []).contains y.1) && (freeN sc.names []).all (fun y => decide (sc.names.lookup y = some .free)))))))
theorem lamOk_by {sc : Scope} (h : lamOkB sc = true) : LamOk sc := by
  unfold lamOkB at h
  simp only [Bool.and_eq_true, Bool.not_eq_true', decide_eq_true_eq, List.all_eq_true, Bool.or_eq_true, decide_eq_false_iff_not] at h
  obtain ⟨h1, h2, h3, h4, h5, h6, h7⟩ := h
  refine ⟨h1, h2, h3, fun y hy => h4 y hy, h5, fun y hy => ?_, h7⟩
  have hm := PySem.mem_of_lookup hy
  rcases h6 _ hm with q | q
  · exact absurd hy q
  · simpa using q
end Mir

set_option maxRecDepth 100000
set_option maxHeartbeats 4000000
namespace Mir
variable [Tab]
open PySem PySem.Spec PyProof.Rows L2
/-! ### {} -/
section
variable {g : G} {c : C} {own : Own} {H : Hp}
theorem RelH.newD {p : Addr} (r : RelH g c own H) (hp : H p = none) : ∃ c', Step c c' ∧ RelH g c' own (upd H p (.dK [])) ∧ RelD c' (.ref p) (.p (.dict [])) := by
  have hf := r.fz0 hp
  have s : Same c.fz (upd c.fz p (.dK [])) := same_new hf
  refine ⟨⟨upd c.fz p (.dK []), c.rho, c.lk⟩, ⟨⟨s, [], by simp⟩, rfl⟩, ⟨fun b o (e : upd c.fz p (.dK []) b = some o) => ?_, r.same.trans (same_new hp), r.lnH, r.nt0, r.ntf.upd (fun ps z => by cases z), r.tabs.ext (same_new hp), r.base.trans s, fun a o h1 h2 => ?_, r.len, r.nd, r.lks, fun k a cell h1 h2 => ?_⟩, .dct upd_same⟩
  · by_cases hb : b = p
    · subst hb; rw [upd_same] at e ⊢; exact e
    · rw [upd_ne hb] at e ⊢; exact r.fz _ _ e
  · have : a ≠ p := fun e => by subst e; rw [r.h0 hp] at h1; cases h1
    show upd c.fz p (.dK []) a = none
    rw [upd_ne this]
    exact r.low a o h1 h2
  · have w := r.cells k a cell h1 h2
    obtain ⟨us, eo⟩ := w.isl r.fz
    exact w.up s (fun o e => same_new hp _ _ e) fun e => (upd_ne (ne_of_none eo hp)).trans e
theorem me_dict0 {X : Cx} {pos : Pos} : PE X (.Dict [] [] pos) (tE g (mC (.dict []))) := by
  refine pe_imp pe_dnewK fun σ H Q h => ?_
  obtain ⟨c, env, own, r, e, h⟩ := h
  refine fun p hp => ?_
  obtain ⟨c2, s2, r2, d2⟩ := r.newD hp
  exact h c2 _ _ s2 r2 d2
/-- -1 -/
theorem me_negc {X : Cx} {i : Int} {j : Nat} {p1 pos : Pos} : PE X (.UnaryOp .USub (.Constant (.int i) j p1) pos) (tE g (mC (.int (-i)))) := by
  refine pe_imp (pe_un un_neg pe_int) fun σ H Q h => ?_
  obtain ⟨c, env, own, r, e, h⟩ := h
  exact ⟨i, rfl, h c H _ (Step.refl c) r (.int (-i))⟩
end
end Mir

set_option maxRecDepth 100000
set_option maxHeartbeats 4000000
namespace Mir
variable [Tab]
open PySem PySem.Spec PyProof.Rows L2
/-! ### exceptions that are kept -/
section
variable {g : G} {c : C} {own : Own} {H : Hp}
/-- a thing that is known, no table: data from now on -/
theorem RelH.know {p : Addr} {o : HO} (r : RelH g c own H) (hp : H p = some o) (h0 : g.H0 p = none) (hf : c.fz p = none) (hr : p ∉ c.rho) (nt_ : ∀ ps, o ≠ .tbl ps) : ∃ c', Step c c' ∧ RelH g c' own H ∧ c'.fz = upd c.fz p o := by
  have s : Same c.fz (upd c.fz p o) := same_new hf
  refine ⟨⟨upd c.fz p o, c.rho, c.lk⟩, ⟨⟨s, [], by simp⟩, rfl⟩, ⟨fun b u (e : upd c.fz p o b = some u) => ?_, r.same, r.lnH, r.nt0, r.ntf.upd nt_, r.tabs, r.base.trans s, fun a u h1 h2 => ?_, r.len, r.nd, r.lks, fun k a cell h1 h2 => ?_⟩, rfl⟩
  · by_cases hb : b = p
    · subst hb; rw [upd_same] at e; rw [hp]; exact e
    · rw [upd_ne hb] at e; exact r.fz _ _ e
  · have : a ≠ p := fun e => by subst e; rw [h0] at h1; cases h1
    show upd c.fz p o a = none
    rw [upd_ne this]
    exact r.low a u h1 h2
  · have ha : a ≠ p := fun e => hr (e ▸ List.mem_of_getElem? h1)
    exact (r.cells k a cell h1 h2).up s (fun u e => e) fun e => (upd_ne ha).trans e
end
section
variable {X : Cx} {g : G} {cls : Nat → Addr} {T : List (Addr × Str)} {k : Nat}
def tExcV (C : Addr) (sp : Sp) (ta : TA) : TE := fun σ H Q => ta σ H fun vs H1 => vs.length ≤ 1000 ∧ ∀ a, H1 a = none → sp (.ref a :: vs) (upd H1 a (exo a C none)) (fun v H2 => v = .non ∧ Q (.ref a) H2) (fun _ _ _ => False)
theorem call_excV {x : Str} {C fI : Addr} {fd : FuncData} {ps : List Str} {sp : Sp} {args : Args} {pins : List (Addr × Obj)} {σ : L2.St} {H1 : Hp} {Q : VK} {s1 : Shared} {vs : List V} {us : List Value} (T : OexC X.K C) (iC : PySem.W.findIn X.K (.ref C) "__init__" = some (some (.ref fI))) (tI : PySem.W.typeIn X.K (.ref fI) = some (.type "function"))
    (F1 : FnL X.prog X.w X.K X.mg X.base k fI fd ps sp) (hr : Room (k + 1) X.A) (hb : L2.Binds X.K fd ps []) (hx : Passes (L2.CX X.prog X.w) X (fun _ _ _ => False)) (I1 : Inv X pins σ H1 s1) (r1 : Vals vs us) (hz : vs.length ≤ 1000)
    (q1 : ∀ a, H1 a = none → sp (.ref a :: vs) (upd H1 a (exo a C none)) (fun v H2 => v = .non ∧ Q (.ref a) H2) (fun _ _ _ => False)) : wpAny (model X.prog X.w) X.A (call (.ref C) us) (EP X pins σ Q) X.xe s1 := by
  obtain ⟨nm, q, N, bs, bm, sn, sub, ab, col, dd, k0, k1, k2, k3, k5, hC, hbm⟩ := T.cls
  obtain ⟨hp, gs, dr, tk, os⟩ := s1
  have hsz : hp.objs.size ≤ hp.objs.size + 1 := Nat.le_succ _
  have hn : H1 (hp.objs.size + 1) = none := I1.hok.fresh hsz
  have hq := q1 (hp.objs.size + 1) hn
  have kk : ∀ b o, hp.get? b = some o → ((hp.push (PySem.W.kdv_tup us)).push (PySem.HandSPX.excO C hp.objs.size)).get? b = some o := fun b o e => Heap.get?_push_of_some _ (Heap.get?_push_of_some _ e)
  have hget : ((hp.push (PySem.W.kdv_tup us)).push (PySem.HandSPX.excO C hp.objs.size)).get? (hp.objs.size + 1) = some (PySem.HandSPX.excO C hp.objs.size) := by heap_get
  have I2 : Inv X pins σ (upd H1 (hp.objs.size + 1) (exo (hp.objs.size + 1) C none)) ⟨(hp.push (PySem.W.kdv_tup us)).push (PySem.HandSPX.excO C hp.objs.size), gs, dr, tk, os⟩ :=
    I1.laid (t' := tk) (a := hp.objs.size + 1) (o := exo (hp.objs.size + 1) C none) (h' := (hp.push (PySem.W.kdv_tup us)).push (PySem.HandSPX.excO C hp.objs.size)) kk hsz (exo_ok hget)
  have r2 : Vals (V.ref (hp.objs.size + 1) :: vs) (Value.ref (hp.objs.size + 1) :: us) := .cons rfl r1
  have bi := hb ⟨(hp.push (PySem.W.kdv_tup us)).push (PySem.HandSPX.excO C hp.objs.size), gs, dr, tk, os⟩ (Value.ref (hp.objs.size + 1) :: us) I2.kIn (by
    rw [List.append_nil, ← r2.length]
    exact F1.len _ _ _ _ hq)
  rw [List.append_nil] at bi
  have hus : us.length ≤ sizeLine := by
    rw [← r1.length, sizeLine_eq]
    omega
  refine wpAny_call (PySem.HandSPX.call_own F.excBase_ValueError (fun Y => PySem.HandSPX.refsVE_contains Y bm hbm) (I1.kIn _ _ hC) (PySem.W.looks_findIn I1.kIn iC) (fun self => PySem.W.bind_fn I1.kIn self tI) hus
    (codeAny_mono (F1.run _ X.stack _ _ ⟨Value.ref (hp.objs.size + 1) :: us, []⟩ (Value.ref (hp.objs.size + 1) :: us) _ _ (fun _ _ _ => False) (hr.make C us []) (I2.env0.make C us []) bi r2 hq) fun r s' hq' => ?_))
  cases r with
  | error er => exact hx pins σ _ _ er s' I2 hq'
  | ok fl =>
    cases fl with
    | ret u =>
      obtain ⟨v, H', I3, rv, ev, q3⟩ := I2.after hq'
      subst ev
      exact ⟨rv, V.ref (hp.objs.size + 1), H', I3, rfl, q3⟩
    | next => exact False.elim hq'
    | brk => exact False.elim hq'
    | cont => exact False.elim hq'
end
end Mir

set_option maxRecDepth 100000
set_option maxHeartbeats 4000000
/-! ### an own exception class called by keywords -/
namespace ExK
open PySem PySem.W PySem.Calls PyProof.Rows PySem.HandSPX
section
variable {M : Model} {A : Around} {E : Value → Shared → Prop} {h : Heap} {g : Array GenState} {d : Drawn} {t : Nat} {os : OsState}
variable {nm q : Str} {C N : Addr} {bs bm bmB : List Value} {hdct : Bool} {sn : List Str} {sub : List Value} {ab : Bool} {col : Option Bool} {dd : Option Addr} {k0 k1 k2 k3 k5 : Option Value} {B newId initId : String}
theorem check_new_kw (F : ExcBaseFacts B newId initId bmB) (hT : ∀ X : String, bm.contains (.type X) = bmB.contains (.type X)) {kws : List (Str × Value)} {Q : Unit → Shared → Prop}
    (hC : h.get? C = some (excClassObj nm q C N bs bm hdct sn sub ab col dd k0 k1 k2 k3 k5 newId)) (hq : Q () ⟨h, g, d, t, os⟩) : wpAny M A (checkBuiltinCall newId ⟨[.ref C], kws⟩) Q E ⟨h, g, d, t, os⟩ := by
  have hcont : (Value.ref C :: bm).contains (.type B) = true := by rw [List.contains_cons, hT, F.hasB, Bool.or_true]
  have hstar := F.noStar
  simp only [checkBuiltinCall, F.newKind, F.newSplit, F.newRow]
  repeat (first | refine wpAny_loadPart_at hC ?_ | (refine wpAny_isSubtype_exc hC ?_; rw [hcont]) | refine wpAny_staticBase_exc hC ?_ | refine wpAny_madeBy_exc hC ?_ | simp only [bne_self_eq_false, Bool.false_eq_true, if_false] | wp_step)
  exact hq
end
section
variable {prog : Program} {w : World} {A : Around} {E : Value → Shared → Prop} {R : Result → Shared → Prop} {h : Heap} {g : Array GenState} {d : Drawn} {t : Nat} {os : OsState}
variable {nm q : Str} {C N : Addr} {bs bm bmB : List Value} {hdct : Bool} {sn : List Str} {sub : List Value} {ab : Bool} {col : Option Bool} {dd : Option Addr} {k0 k1 k2 k3 k5 : Option Value} {B newId initId : String} {kws : List (Str × Value)}
theorem new_kw (F : ExcBaseFacts B newId initId bmB) (hT : ∀ X : String, bm.contains (.type X) = bmB.contains (.type X))
    (hC : h.get? C = some (excClassObj nm q C N bs bm hdct sn sub ab col dd k0 k1 k2 k3 k5 newId))
    (hq : R (.ok (.ret (.ref (h.objs.size + 1)))) ⟨(h.push { cls := .type "tuple", data := .seq #[] }).push
      { cls := .ref C, data := .fields #[.ref h.objs.size, .none, .none, .none, .bool false, .none] }, g, d, t, os⟩) :
    codeAny (model prog w) A (.builtin newId ⟨[.ref C], kws⟩) R ⟨h, g, d, t, os⟩ := by
  have hends := F.ends
  have hcB : (Value.ref C :: bm).contains (.type B) = true := by rw [List.contains_cons, hT, F.hasB, Bool.or_true]
  have hcA : (Value.ref C :: bm).contains (.type "AttributeError") = false := by rw [List.contains_cons, hT, F.noAttr]; rfl
  have hcN : (Value.ref C :: bm).contains (.type "NameError") = false := by rw [List.contains_cons, hT, F.noName]; rfl
  refine codeAny_builtinAt F.entry ?_
  unfold Builtin.«BaseException.__new__»
  refine PySem.wpAt_bind ?_
  show PySem.wpAt _ _ _ (stack >>= _) _ _ _
  refine PySem.wpAt_bind (PySem.wpAt_stack fun p below => PySem.wpAt_of_wpAny ?_)
  wp_walk
  refine PySem.wpAt_of_wpAny ?_
  rw [F.owner]
  repeat (first | with_reducible refine wpAny_madeHere_exc F.canon hC ?_ | with_reducible refine wpAny_loadPart_at hC ?_ | (with_reducible refine wpAny_isSubtype_exc hC ?_; first | rw [hcB] | rw [hcA] | rw [hcN]) | wp_step)
  show R _ _
  rw [Heap.size_push]
  exact hq
theorem type_call_kw (F : ExcBaseFacts B newId initId bmB) (hT : ∀ X : String, bm.contains (.type X) = bmB.contains (.type X)) {fI : Addr} {Q : Fin → Shared → Prop}
    (hC : h.get? C = some (excClassObj nm q C N bs bm hdct sn sub ab col dd k0 k1 k2 k3 k5 newId))
    (hi : W.Looks (model prog w) h (typeLookup (.ref C) "__init__") (some (.ref fI))) (hb : ∀ self, W.Looks (model prog w) h (bindSpecial (.ref fI) self) (.ref fI, [self]))
    (hq : codeAny (model prog w) A (.call (.ref fI) ⟨[.ref (h.objs.size + 1)], kws⟩)
      (fun r s' => match r with | .ok (.ret v) => v = .none ∧ Q (.done (.ret (.ref (h.objs.size + 1)))) s' | .ok _ => False | .error e => E e s')
      ⟨(h.push (W.kdv_tup [])).push (excO C h.objs.size), g, d, t, os⟩) :
    wpAny (model prog w) A (Builtin.«type.__call__» ⟨[.ref C], kws⟩) Q E ⟨h, g, d, t, os⟩ := by
  repeat (first | with_reducible refine wpAny_loadPart_at hC ?_ | with_reducible refine wpAny_madeBy_exc hC ?_ | wp_step)
  refine codeAny_call_builtin_code (Code.quiet_builtin _ F.quiet) (check_new_kw F hT hC ?_)
  refine new_kw F hT hC ?_
  show wpAny _ _ _ _ _ _
  have k : ∀ b o, h.get? b = some o → ((h.push (W.kdv_tup [])).push (excO C h.objs.size)).get? b = some o := fun b o e => Heap.get?_push_of_some _ (Heap.get?_push_of_some _ e)
  have hC₁ := k _ _ hC
  have hget : ((h.push (W.kdv_tup [])).push (excO C h.objs.size)).get? (h.objs.size + 1) = some (excO C h.objs.size) := by heap_get
  have hcC : (Value.ref C :: bm).contains (.ref C) = true := by simp
  have i1 := hi.keeps k
  have b1 := (hb (.ref (h.objs.size + 1))).keeps k
  unfold isInstance
  repeat (first | with_reducible refine wpAny_loadPart_at hget ?_ | (with_reducible refine wpAny_isSubtype_exc hC₁ ?_; rw [hcC]) | wp_step)
  show wpAny _ _ (typeLookup (.ref C) _) _ _ _
  refine i1.at ?_
  refine wpAny_holding (wpAny_bind (b1.at ?_))
  refine wpAny_bind (wpAny_call (codeAny_mono hq fun r s' z => ?_))
  rcases r with e | (v | _ | _ | _) <;> first | exact z | exact z.elim | skip
  obtain ⟨rfl, z⟩ := z
  first
    | exact wpAny_pure (wpAny_pure z)
    | (wp_walk; exact z)
theorem call_kw (F : ExcBaseFacts B newId initId bmB) (hT : ∀ X : String, bm.contains (.type X) = bmB.contains (.type X)) {fI : Addr}
    (hC : h.get? C = some (excClassObj nm q C N bs bm hdct sn sub ab col dd k0 k1 k2 k3 k5 newId))
    (hi : W.Looks (model prog w) h (typeLookup (.ref C) "__init__") (some (.ref fI))) (hb : ∀ self, W.Looks (model prog w) h (bindSpecial (.ref fI) self) (.ref fI, [self]))
    (hq : codeAny (model prog w) (A.under (.builtin "type.__call__" ⟨[.ref C], kws⟩)) (.call (.ref fI) ⟨[.ref (h.objs.size + 1)], kws⟩) (W.InitBack (h.objs.size + 1) R)
      ⟨(h.push (W.kdv_tup [])).push (excO C h.objs.size), g, d, t, os⟩) :
    codeAny (model prog w) A (.call (.ref C) ⟨[], kws⟩) R ⟨h, g, d, t, os⟩ := by
  have f1 := tc_lookup
  have f2 := tc_bind (.ref C)
  have hTy : (⟨h, g, d, t, os⟩ : Shared).TypeIs (.ref C) "type" := ⟨_, hC, rfl⟩
  refine codeAny_of_tree ?_
  show wpAny _ _ (callAny (.ref C) _) _ _ _
  repeat (any_goals (first | assumption | with_reducible refine wpAny_loadPart_at hC ?_ | wp_step))
  refine ⟨rfl, ?_⟩
  refine codeAny_call_builtin_at (Code.quiet_builtin _ (by decide +kernel)) entry_typeCall (wpAny_check_type_call_sub hC (type_call_kw F hT hC hi hb ?_))
  refine codeAny_mono hq fun r s' z => ?_
  rcases r with e | (v | _ | _ | _) <;> exact z
end
end ExK
namespace Mir
variable [Tab]
open PySem PySem.Spec PyProof.Rows L2
/-! ### exceptions as values -/
section
variable {g : G} {c : C} {own : Own} {H : Hp}
/-- a new thing that is data from now on -/
theorem RelH.newO {p : Addr} {o : HO} (r : RelH g c own H) (hp : H p = none) (nt_ : ∀ ps, o ≠ .tbl ps) : ∃ c', Step c c' ∧ RelH g c' own (upd H p o) ∧ c'.fz = upd c.fz p o := by
  have hf := r.fz0 hp
  have s : Same c.fz (upd c.fz p o) := same_new hf
  refine ⟨⟨upd c.fz p o, c.rho, c.lk⟩, ⟨⟨s, [], by simp⟩, rfl⟩, ⟨fun b u (e : upd c.fz p o b = some u) => ?_, r.same.trans (same_new hp), r.lnH, r.nt0, r.ntf.upd nt_, r.tabs.ext (same_new hp), r.base.trans s, fun a u h1 h2 => ?_, r.len, r.nd, r.lks, fun k a cell h1 h2 => ?_⟩, rfl⟩
  · by_cases hb : b = p
    · subst hb; rw [upd_same] at e ⊢; exact e
    · rw [upd_ne hb] at e ⊢; exact r.fz _ _ e
  · have : a ≠ p := fun e => by subst e; rw [r.h0 hp] at h1; cases h1
    show upd c.fz p o a = none
    rw [upd_ne this]
    exact r.low a u h1 h2
  · have w := r.cells k a cell h1 h2
    obtain ⟨us, eo⟩ := w.isl r.fz
    exact w.up s (fun o e => same_new hp _ _ e) fun e => (upd_ne (ne_of_none eo hp)).trans e
theorem exd_tbl {e : Addr} {fs : List (Str × V)} {ps : Array Value} : exd e fs ≠ .tbl ps := fun z => by
  have z' : HO.ext _ = HO.tbl ps := z
  cases z'
theorem RelH.newX {a dx C : Addr} {v : V} {d : PyData} {n : Nat} (r : RelH g c own H) (ha : H a = none) (hd : H dx = none) (hda : dx ≠ a) (hC : Tab.cls n = C) (rp : Rp c.fz v d) :
    ∃ c', Step c c' ∧ RelH g c' own (upd (upd H dx (exd dx [("value", v)])) a (exo a C (some dx))) ∧ RelD c' (.ref a) (.p (excD n d)) := by
  subst hC
  obtain ⟨c1, s1, r1, e1⟩ := r.newO (o := exd dx [("value", v)]) hd fun ps => exd_tbl
  obtain ⟨c2, s2, r2, e2⟩ := r1.newO (o := exo a (Tab.cls n) (some dx)) (by rw [upd_ne (Ne.symm hda)]; exact ha) fun ps => exo_tbl
  refine ⟨c2, s1.trans s2, r2, ?_⟩
  show Rp c2.fz (.ref a) (excD n d)
  refine .exc (v := v) (by rw [e2]; exact upd_same) (by rw [e2, upd_ne hda, e1]; exact upd_same) (Rp.mono (s1.trans s2).fz rp)
theorem upd3 {H : Hp} {a dx : Addr} {o1 o2 u : HO} (h : dx ≠ a) : upd (upd (upd H a o1) dx u) a o2 = upd (upd H dx u) a o2 := by
  funext b
  by_cases hb : b = a
  · subst hb; rw [upd_same, upd_same]
  · rw [upd_ne hb, upd_ne hb]
    by_cases hd : b = dx
    · subst hd; rw [upd_same, upd_same]
    · rw [upd_ne hd, upd_ne hd, upd_ne hb]
end
section
variable {X : Cx} {g : G} {cls : Nat → Addr} {T : List (Addr × Str)} {k : Nat}
def mExcV (n : Nat) (m : M (List D)) : M D := fun env own => (m env own).bind fun ds o => match freezeAll ds o with
  | some (xs, o2) => match xs with
    | [d] => .ok (.p (excD n d)) o2
    | _ => .bad
  | none => .bad
theorem excV_of {n : Nat} {m : M (List D)} {σ : L2.St} {H : Hp} {Q : VK} {C : Addr} (hC : Tab.cls n = C) (O : OexC X.K C) (no : PySem.W.findIn X.K (.ref C) "value" = some none) (h : tE g (mExcV n m) σ H Q) : tExcV C (spIni X.K) (tA g m) σ H Q := by
  obtain ⟨c, env, own, r, e, h⟩ := h
  refine tA.go r e h fun ds o c1 H1 vs s1 r1 e1 rd q => ?_
  split at q
  · rename_i xs o2 hf
    split at q
    · rename_i d
      obtain ⟨c2, s2, r2, q2⟩ := freezeAll_ok r1 rd hf
      cases q2 with
      | @cons v _ _ _ rp q2 =>
        cases q2
        refine ⟨(by show 1 ≤ 1000; decide), fun a ha => ⟨a, C, v, rfl, upd_same, O, no, fun dx hd hda => ⟨rfl, ?_⟩⟩⟩
        rw [upd_ne hda] at hd
        obtain ⟨c3, s3, r3, d3⟩ := r2.newX (n := n) ha hd hda hC rp
        rw [upd3 hda]
        exact q c3 _ _ ((s1.trans s2).trans s3) r3 d3
    · exact q.elim
  · exact q.elim
theorem me_excV (n : Nat) {x : Str} {e : Expr} {m : M (List D)} {p pos : Pos} (C : Cxt X g cls T (k + 1)) (F : ExF X.prog X.w X.K X.mg X.base k x (Tab.cls n)) (ha : PA X [e] (tA g m)) (hg : Gl X x := by rfl)
    (hdb : (x == ("__debug__" : Str)) = false := by decide) (he : starEach [e] X.env = (false, eval e X.env) :: starEach [] X.env := by rfl) (hpl : (backTo pos (starEach [] X.env)).any (·.1) = false := by rfl) :
    PE X (.Call (.Name x p) [e] [] pos) (tE g (mExcV n m)) := by
  obtain ⟨fI, fd, ps, f1, f2, f3, f4⟩ := F.ini
  refine pe_imp (t := tExcV (Tab.cls n) (spIni X.K) (tA g m)) ⟨fun pins s σ H Q I h => ?_⟩ fun σ H Q h => excV_of rfl F.oex F.no h
  refine wpAny_Call_Name_kw (ld_glob I hg F.gm ?_ hdb)
  refine PySem.W.callWith_K (h₀ := X.base) I.ok.mod.kin F.oex.kC (thn (ha.run pos pins s σ H _ I h) fun us s1 ⟨vs, H1, I1, r1, hz, q1⟩ => ⟨I1.kIn, ?_⟩) he hpl
  show wpAny _ _ (call (.ref (Tab.cls n)) us) _ _ _
  exact call_excV (x := x) (args := ⟨[], []⟩) F.oex f1 f2 f4 C.room f3 (fun _ _ _ _ _ _ _ h => by
    obtain ⟨_, _, _, _, _, _, _, _, _, _, _, _, z⟩ := h
    exact z.elim) I1 r1 hz q1
/-- its keyword -/
structure ExFK (P : Program) (w : World) (K : PySem.W.Frag) (mg : Str → Option Value) (base : Heap) (k : Nat) (x : Str) (C : Addr) : Prop where
  gm : mg x = some (.ref C)
  oex : OexC K C
  no : PySem.W.findIn K (.ref C) "value" = some none
  ini : ∃ fI fd ps, PySem.W.findIn K (.ref C) "__init__" = some (some (.ref fI)) ∧ PySem.W.typeIn K (.ref fI) = some (.type "function") ∧ (∀ (s : Shared) (a u : Value), K.In s.heap → BindsTo s fd ⟨[a], [("value", u)]⟩ (ps.zip [a, u])) ∧ FnL P w K mg base k fI fd ps (spIni K)
theorem call_excK {C fI : Addr} {fd : FuncData} {ps : List Str} {sp : Sp} {pins : List (Addr × Obj)} {σ : L2.St} {H1 : Hp} {Q : VK} {s1 : Shared} {v : V} {u : Value} (T : OexC X.K C) (iC : PySem.W.findIn X.K (.ref C) "__init__" = some (some (.ref fI))) (tI : PySem.W.typeIn X.K (.ref fI) = some (.type "function"))
    (F1 : FnL X.prog X.w X.K X.mg X.base k fI fd ps sp) (hr : Room (k + 1) X.A) (hb : ∀ (s : Shared) (a u : Value), X.K.In s.heap → BindsTo s fd ⟨[a], [("value", u)]⟩ (ps.zip [a, u])) (hx : Passes (L2.CX X.prog X.w) X (fun _ _ _ => False)) (I1 : Inv X pins σ H1 s1) (r1 : L2.RelV v u)
    (q1 : ∀ a, H1 a = none → sp [.ref a, v] (upd H1 a (exo a C none)) (fun v H2 => v = .non ∧ Q (.ref a) H2) (fun _ _ _ => False)) : wpAny (model X.prog X.w) X.A (call (.ref C) [] [("value", u)]) (EP X pins σ Q) X.xe s1 := by
  obtain ⟨nm, q, N, bs, bm, sn, sub, ab, col, dd, k0, k1, k2, k3, k5, hC, hbm⟩ := T.cls
  obtain ⟨hp, gs, dr, tk, os⟩ := s1
  have hsz : hp.objs.size ≤ hp.objs.size + 1 := Nat.le_succ _
  have hn : H1 (hp.objs.size + 1) = none := I1.hok.fresh hsz
  have hq := q1 (hp.objs.size + 1) hn
  have kk : ∀ b o, hp.get? b = some o → ((hp.push (PySem.W.kdv_tup [])).push (PySem.HandSPX.excO C hp.objs.size)).get? b = some o := fun b o e => Heap.get?_push_of_some _ (Heap.get?_push_of_some _ e)
  have hget : ((hp.push (PySem.W.kdv_tup [])).push (PySem.HandSPX.excO C hp.objs.size)).get? (hp.objs.size + 1) = some (PySem.HandSPX.excO C hp.objs.size) := by heap_get
  have I2 : Inv X pins σ (upd H1 (hp.objs.size + 1) (exo (hp.objs.size + 1) C none)) ⟨(hp.push (PySem.W.kdv_tup [])).push (PySem.HandSPX.excO C hp.objs.size), gs, dr, tk, os⟩ :=
    I1.laid (t' := tk) (a := hp.objs.size + 1) (o := exo (hp.objs.size + 1) C none) (h' := (hp.push (PySem.W.kdv_tup [])).push (PySem.HandSPX.excO C hp.objs.size)) kk hsz (exo_ok hget)
  have r2 : Vals [V.ref (hp.objs.size + 1), v] [Value.ref (hp.objs.size + 1), u] := .cons rfl (.cons r1 .nil)
  have bi := hb ⟨(hp.push (PySem.W.kdv_tup [])).push (PySem.HandSPX.excO C hp.objs.size), gs, dr, tk, os⟩ (.ref (hp.objs.size + 1)) u I2.kIn
  refine wpAny_call (ExK.call_kw F.excBase_ValueError (fun Y => PySem.HandSPX.refsVE_contains Y bm hbm) (I1.kIn _ _ hC) (PySem.W.looks_findIn I1.kIn iC) (fun self => PySem.W.bind_fn I1.kIn self tI)
    (codeAny_mono (F1.run _ X.stack _ _ ⟨[Value.ref (hp.objs.size + 1)], [("value", u)]⟩ [Value.ref (hp.objs.size + 1), u] _ _ (fun _ _ _ => False) (hr.make C [] [("value", u)]) (I2.env0.make C [] [("value", u)]) bi r2 hq) fun r s' hq' => ?_))
  cases r with
  | error er => exact hx pins σ _ _ er s' I2 hq'
  | ok fl =>
    cases fl with
    | ret u =>
      obtain ⟨v, H', I3, rv, ev, q3⟩ := I2.after hq'
      subst ev
      exact ⟨rv, V.ref (hp.objs.size + 1), H', I3, rfl, q3⟩
    | next => exact False.elim hq'
    | brk => exact False.elim hq'
    | cont => exact False.elim hq'
theorem me_excK (n : Nat) {x : Str} {e : Expr} {m : M D} {p pos kpos : Pos} (C : Cxt X g cls T (k + 1)) (F : ExFK X.prog X.w X.K X.mg X.base k x (Tab.cls n)) (ha : PE X e (tE g m)) (hg : Gl X x := by rfl)
    (hdb : (x == ("__debug__" : Str)) = false := by decide) (hall : (backToKw pos (keywordEach [⟨some "value", e, kpos⟩] X.env)).all (·.1.isSome) = true := by rfl) (hks : (backToKw pos (keywordEach [⟨some "value", e, kpos⟩] X.env)).filterMap (·.1) = [("value" : Str)] := by rfl)
    (hpl : ((backTo pos (starEach [] X.env)).any (·.1) || (backToKw pos (keywordEach [⟨some "value", e, kpos⟩] X.env)).any (·.1.isNone)) = false := by rfl) :
    PE X (.Call (.Name x p) [] [⟨some "value", e, kpos⟩] pos) (tE g (mExcV n (mCons m mNil))) := by
  obtain ⟨fI, fd, ps, f1, f2, f3, f4⟩ := F.ini
  refine pe_imp (t := tExcV (Tab.cls n) (spIni X.K) (tA g (mCons m mNil))) ⟨fun pins s σ H Q I h => ?_⟩ fun σ H Q h => excV_of rfl F.oex F.no h
  refine wpAny_Call_Name_kw (ld_glob I hg F.gm ?_ hdb)
  refine PySem.W.callWith_KW0 (h₀ := X.base) I.ok.mod.kin F.oex.kC hall (thn ((mk_cons ha mk_nil).run pos pins s σ H _ I h) fun us s1 q => ?_) hpl
  obtain ⟨vs, H1, I1, r1, hz, q1⟩ := q
  refine ⟨I1.kIn, ?_⟩
  rw [hks]
  have hv : ∃ v, vs = [v] := by
    obtain ⟨a, C', y, e1, _⟩ := q1 _ (I1.hok.fresh (Nat.le_refl _))
    cases e1
    exact ⟨_, rfl⟩
  obtain ⟨v, rfl⟩ := hv
  obtain ⟨u, rfl, ru⟩ := vals1 r1
  exact call_excK F.oex f1 f2 f4 C.room f3 (fun _ _ _ _ _ _ _ h => by
    obtain ⟨_, _, _, _, _, _, _, _, _, _, _, _, z⟩ := h
    exact z.elim) I1 ru q1
theorem exFK_of {P : Program} {w : World} {K : PySem.W.Frag} {mg : Str → Option Value} {base : Heap} {k : Nat} {x B : Str} {qual : Str} {params : Arguments} {scope : Scope} {fd : FuncData} {v : V} {p1 p2 p3 p4 : Pos} (hm : mg x = some (.ref (He.ga K x))) (h : exB K x B = true)
    (F : FunD K "__init__" qual params [.Assign [.Attribute (.Name "self" p1) "value" p2] (.Name "value" p3) p4] scope [v] [] (He.fAd K (B, some "__init__")) fd) (S : FnScope ["self", "value"] ["self", "value"] scope)
    (hb : ∀ (T : Addr) (kV doc pm : Value) (an : Option Addr) (cdv ct : Value) (a u i : Value),
      ∃ k, bindArgs (PySem.W.fnOf "__init__" qual params [.Assign [.Attribute (.Name "self" p1) "value" p2] (.Name "value" p3) p4] scope (.ref T) kV doc pm an cdv ct) ⟨[a], [("value", u)]⟩ = seqItems? (.ref T) >>= k ∧ k (some #[i]) = pure ((["self", "value"] : List Str).zip [a, u])) :
    ExFK P w K mg base (k + 1) x (He.ga K x) := by
  unfold exB at h
  simp only [Bool.and_eq_true, decide_eq_true_eq] at h
  obtain ⟨h1, h2, h3, h4⟩ := h
  refine ⟨hm, oexB_ok h1, h2, _, fd, ["self", "value"], h3, h4, ?_, ini_ok F S⟩
  intro s a u X
  obtain ⟨oc, od, dV, kV, doc, pm, an, cdv, ct, osl, rfl, lk, hcd, hD, hK⟩ := F.ex
  rcases hD with ⟨e, _⟩ | ⟨_, T, o, its, m, rfl, lT, oT, rT⟩
  · cases e
  · have l1 : its.length = 1 := rT.length.symm
    match its, l1 with
    | [i], _ =>
      obtain ⟨k, e1, e2⟩ := hb T kV doc pm an cdv ct a u i
      refine BindsTo.of_looks fun M => ?_
      rw [e1]
      exact looks_items X lT oT (.of_pure e2)
end
/-! ### x.value, isinstance(x, C) -/
section
variable {X : Cx} {g : G} {cls : Nat → Addr} {T : List (Addr × Str)} {k : Nat}
def mExcVal (ok : Nat → Bool) (m : M D) : M D := fun env own => (m env own).bind fun x o => match x with
  | .p (.dict [(.bool true, .list [.int (.ofNat n), d])]) => match ok n with
    | true => .ok (.p d) o
    | false => .bad
  | _ => .bad
theorem me_excVal {ok : Nat → Bool} {e : Expr} {m : M D} {pos : Pos} (hok : ∀ n, ok n = true → ExcT X.K (Tab.cls n)) (he : PE X e (tE g m)) (hb : attributeBase e "value" X.env (eval e X.env) = eval e X.env := by rfl) : PE X (.Attribute e "value" pos) (tE g (mExcVal ok m)) := by
  refine ⟨fun pins s σ H Q I h => ?_⟩
  have h2 : tE g m σ H fun x H1 => ∃ (n : Nat) (d : PyData) (c : C), ok n = true ∧ Same c.fz H1 ∧ Rp c.fz x (excD n d) ∧ ∀ v, Rp c.fz v d → Q v H1 := by
    obtain ⟨c, env, own, r, e, h⟩ := h
    refine tE.go r e h fun x o1 c1 H1 v1 s1 r1 e1 d1 h1 => ?_
    split at h1
    · rename_i n d
      split at h1
      · rename_i hn
        exact ⟨n, d, c1, hn, r1.fz, d1, fun v rv => h1 c1 H1 v s1 r1 rv⟩
      · exact h1.elim
    · exact h1.elim
  refine attr_of hb (thn (he.run pins s σ H _ I h2) fun u s1 hh => ?_)
  obtain ⟨x, H1, I1, rx, n, d, c, hn, fz, rp, q⟩ := hh
  have T := hok n hn
  cases rp with
  | @exc a dx _ v _ ha hd rv =>
    cases rx
    obtain ⟨t1, ho⟩ := exo_at I1.hok (fz _ _ ha)
    obtain ⟨mA, hns, rel⟩ := exd_at I1.hok (fz _ _ hd)
    obtain ⟨od, hod, hl⟩ := lookIn_ns hns
    obtain ⟨u, hu, ru⟩ := RelO.some_of (v := v) (o := mA "value") (rel "value")
    have J : PySem.W.InstAt s1.heap a { cls := .ref (Tab.cls n), dict := some dx, data := .fields #[.ref t1, .none, .none, .none, .bool false, .none] } (Tab.cls n) (some od) := ⟨ho, rfl, rfl, hod⟩
    exact HandSPX.exc_get I1.kIn J T.x.ga T.x.gg T.x.exC (PySem.W.findObj_own T.x.hdC T.no rfl (by rw [hl, hu])) (handed_of ru) ⟨v, H1, I1.tok _, ru, q v rv⟩
def mIsX (wh : Nat → Option Bool) (m : M D) : M D := fun env own => (m env own).bind fun x o => match x with
  | .p (.dict [(.bool true, .list [.int (.ofNat n), d])]) => match wh n with
    | some b => .ok (.p (.bool b)) o
    | none => .bad
  | _ => .bad
def rIsE (K : PySem.W.Frag) (P : V → Addr → Prop) : List V → Hp → VK → Prop := fun xs H Q => ∃ (x c : V) (cv : Value) (b : Bool) (a C dx : Addr) (fs : List (Str × V)), xs = [x, c] ∧ x = .ref a ∧ (∀ u, L2.RelV c u → u = cv) ∧ PySem.W.kitOne K (.ref C) cv = some b ∧ ExcT K C ∧ H a = some (exo a C (some dx)) ∧ H dx = some (exd dx fs) ∧ Q (.bl b) H
theorem call_isE {P : V → Addr → Prop} : CallR X (.builtin "isinstance") (rIsE X.K P) := by
  intro pins s σ H xs us Q J r h
  obtain ⟨x, c, cv, b, a, C, dx, fs, rfl, rfl, hcv, e, F, ha, hd, q⟩ := h
  obtain ⟨u1, u2, rfl, r1, r2⟩ := vals2 r
  cases r1
  cases hcv _ r2
  obtain ⟨t1, ho⟩ := exo_at J.hok ha
  obtain ⟨mA, hns, rel⟩ := exd_at J.hok hd
  obtain ⟨od, hod, _⟩ := lookIn_ns hns
  have IA : PySem.W.InstAt s.heap a { cls := .ref C, dict := some dx, data := .fields #[.ref t1, .none, .none, .none, .bool false, .none] } C (some od) := ⟨ho, rfl, rfl, hod⟩
  exact PySem.W.kia_one (PySem.W.kitx_exc F.cl F.x.ga F.x.gg F.x.exC F.ha F.hn F.ht F.hm) J.kIn IA e (fun z => nomatch z) fun tk => ⟨.bl b, H, J.tok _, rfl, q⟩
/-- isinstance(x, B): B a built-in class of exceptions -/
theorem me_isX {wh : Nat → Option Bool} {B : Str} {t : String} {e : Expr} {m : M D} {p p2 pos : Pos} (hw : ∀ n b, wh n = some b → ExcT X.K (Tab.cls n) ∧ PySem.W.kitOne X.K (.ref (Tab.cls n)) (.type t) = some b) (h0 : X.mg "isinstance" = none) (hB : X.mg B = none) (he : PE X e (tE g m)) (hv : bootBuiltins B = some (.type t) := by decide +kernel)
    (hg : Gl X "isinstance" := by rfl) (hgB : Gl X B := by rfl) (hn : B ≠ "__name__" := by decide) (hd : (B == ("__debug__" : Str)) = false := by decide)
    (h1 : starEach [e, .Name B p2] X.env = (false, eval e X.env) :: starEach [.Name B p2] X.env := by rfl) (h2 : starEach [.Name B p2] X.env = (false, eval (.Name B p2) X.env) :: starEach [] X.env := by rfl)
    (hpl : (backTo pos (starEach [.Name B p2] X.env)).any (·.1) = false := by rfl) : PE X (.Call (.Name "isinstance" p) [e, .Name B p2] [] pos) (tE g (mIsX wh m)) := by
  refine pe_imp (pe_callB (call_isE (P := fun _ _ => True)) hg h0 (by decide +kernel) (pa_cons he (pa_cons (pe_bltn (v := .ty t) hgB hB hv rfl hn hd) pa_nil h2) h1) (by decide) (by decide) h1 hpl) fun σ H Q h => ?_
  obtain ⟨c, env, own, r, e, h⟩ := h
  refine tE.go r e h fun x o1 c1 H1 v1 s1 r1 e1 d1 q1 => ?_
  split at q1
  · rename_i n d
    split at q1
    · rename_i b hb
      obtain ⟨F, ek⟩ := hw n b hb
      have d1 : Rp c1.fz v1 (excD n d) := d1
      cases d1 with
      | @exc a dx _ v _ ha hx rv => exact ⟨_, _, .type t, b, a, Tab.cls n, dx, _, rfl, rfl, (fun u z => z), ek, F, r1.fz _ _ ha, r1.fz _ _ hx, q1 c1 H1 _ s1 r1 (.bl b)⟩
    · exact q1.elim
  · exact q1.elim
end
end Mir

set_option maxRecDepth 100000
set_option maxHeartbeats 4000000
namespace Mir
open PySem PySem.Spec PyProof.Rows L2
/-! ### the law's own call -/
/-- the heap at the law's entry: the empty tables, the script where the written part has it not -/
def Hst (tb : List Addr) (a : Addr) (kn : Bool) (o : Obj) (ns : List Int) : Hp := fun b => if b ∈ tb then some (.tbl #[]) else if b = a ∧ kn = false then some (.frz o (.lst (ns.map V.int))) else none
section
variable {tb : List Addr} {a : Addr} {kn : Bool} {o : Obj} {ns : List Int}
theorem Hst.tab {b : Addr} (h : b ∈ tb) : Hst tb a kn o ns b = some (.tbl #[]) := if_pos h
theorem Hst.scr (h : a ∉ tb) (hk : kn = false) : Hst tb a kn o ns a = some (.frz o (.lst (ns.map V.int))) := (if_neg h).trans (if_pos ⟨rfl, hk⟩)
theorem Hst.cases {b : Addr} {u : HO} (h : Hst tb a kn o ns b = some u) : (b ∈ tb ∧ u = .tbl #[]) ∨ (b ∉ tb ∧ b = a ∧ kn = false ∧ u = .frz o (.lst (ns.map V.int))) := by
  unfold Hst at h
  by_cases h1 : b ∈ tb
  · rw [if_pos h1] at h; cases h; exact .inl ⟨h1, rfl⟩
  · rw [if_neg h1] at h
    by_cases h2 : b = a ∧ kn = false
    · rw [if_pos h2] at h; cases h; exact .inr ⟨h1, h2.1, h2.2, rfl⟩
    · rw [if_neg h2] at h; cases h
end
theorem law_callG {P : Program} {w : World} {K : PySem.W.Frag} {mg mb : Str → Option Value} {k : Nat} {f a : Addr} {cs : List (Addr × Addr)} {fd : FuncData} {x : Str} {sp : Sp} {s1 : Shared} {us : List Value} {ns : List Int}
    (inK : K.In s1.heap) (nsG : s1.heap.Ns mainGlobals mg) (nsB : s1.heap.Ns builtinsNs mb) (boot : ∀ x : Str, x ≠ "__name__" → mb x = bootBuiltins x) (nlim : s1.heap.NoLimit) (nogen : s1.gens = #[])
    (emp : ∀ p ∈ cs, s1.heap.get? p.2 = some { cls := .none, data := .fields #[] }) (outK : ∀ p ∈ cs, K.lookup p.2 = none) (code : ∀ p ∈ cs, PySem.W.CodeHd s1.heap p.1 p.2)
    (bmod : ∃ (bm : Addr) (ob : Obj), mg "__builtins__" = some (.ref bm) ∧ bm ≠ builtinsNs ∧ s1.heap.get? bm = some ob ∧ ob.cls = .type "module" ∧ ob.dict = some builtinsNs ∧ ob.data = .plain)
    (scr : s1.heap.get? a = some { cls := .type "list", data := .seq us.toArray }) (ints_ : IntsAre us ns) (len : ns.length ≤ sizeLine) (room : Room k callerA)
    (fok : ∀ base : Heap, K.In base → base.Ns mainGlobals mg → (∀ p ∈ cs, LamX.TabB base mg p.1 p.2) → FnG P w K mg base k f [x] fd sp) (bnd : ∀ (s : Shared) (u : Value), BindsTo s fd ⟨[u], []⟩ [(x, u)])
    (want : ∀ H : Hp, (∀ p ∈ cs, H p.2 = some (.tbl #[])) → SqL K H a (ns.map V.int) → sp [.ref a] H (fun v _ => v = .bl true) fun _ _ _ => False) :
    codeAny (model P w) callerA (.call (.ref f) ⟨[.ref a], []⟩) (fun r s' => r = .ok (.ret (.bool true)) ∧ OldK s1.heap s'.heap ∧ s'.os = s1.os ∧ AllBare s'.gens) s1 := by
  have vv := vals_ints ints_
  have tb1 : ∀ b ∈ cs.map (·.2), s1.heap.get? b = some { cls := .none, data := .fields #[] } := fun b hb => by
    obtain ⟨p, hp, rfl⟩ := List.mem_map.mp hb
    exact emp p hp
  have na : a ∉ cs.map (·.2) := fun z => by
    have q := (tb1 a z).symm.trans scr
    injection q with q
    injection q with q1 q2 q3
    cases q3
  obtain ⟨kn, hkn⟩ : ∃ kn : Bool, kn = (K.lookup a).isSome := ⟨_, rfl⟩
  generalize eH : Hst (cs.map (·.2)) a kn { cls := .type "list", data := .seq us.toArray } ns = H
  have tabH : ∀ p ∈ cs, H p.2 = some (.tbl #[]) := fun p hp => by
    rw [← eH]
    exact Hst.tab (List.mem_map.mpr ⟨p, hp, rfl⟩)
  have none_of : ∀ {b : Addr} {o : Obj}, s1.heap.get? b = some o → (∀ vs n, o.data ≠ .seq vs n) → o.data ≠ .fields #[] → H b = none := fun {b o} e n1 n2 => by
    cases q : H b with
    | none => rfl
    | some u =>
      rw [← eH] at q
      rcases Hst.cases q with ⟨h1, _⟩ | ⟨_, rfl, _⟩
      · rw [tb1 b h1] at e; cases e; exact absurd rfl n2
      · rw [scr] at e; cases e; exact absurd rfl (n1 _ _)
  have keepN : ∀ {b : Addr} {m : Str → Option Value}, s1.heap.Ns b m → (hidT s1.heap H).Ns b m := fun {b m} z => by
    obtain ⟨o, es, ep, e, d, r⟩ := z
    refine ⟨o, es, ep, hidT_get e (none_of e (fun vs n z => ?_) fun z => ?_), d, r⟩ <;> (rw [d] at z; cases z)
  have inB : K.In (hidT s1.heap H) := fun b o e => hidT_get (inK b o e) (by
    cases q : H b with
    | none => rfl
    | some u =>
      rw [← eH] at q
      rcases Hst.cases q with ⟨h1, _⟩ | ⟨_, rfl, h2, _⟩
      · obtain ⟨p, hp, rfl⟩ := List.mem_map.mp h1
        rw [outK p hp] at e; cases e
      · rw [hkn, e] at h2; cases h2)
  have bl : ∀ b o, s1.heap.get? b = some o → ∀ u, H b = some u → ObjOk P w H s1.heap b u := fun b o e u q => by
    rw [← eH] at q
    rcases Hst.cases q with ⟨h1, rfl⟩ | ⟨_, rfl, _, rfl⟩
    · exact tb1 b h1
    · exact ⟨scr, by rw [List.length_map]; exact len, us, _, vv, scr⟩
  have hok : HOk P w H s1.heap := fun b u q => by
    have q2 := q
    rw [← eH] at q2
    rcases Hst.cases q2 with ⟨h1, _⟩ | ⟨_, rfl, _, _⟩
    · exact bl b _ (tb1 b h1) u q
    · exact bl _ _ scr u q
  have modB : L2.Mod K mg (hidT s1.heap H) := ⟨inB, keepN nsG, ⟨mb, keepN nsB, boot⟩, let ⟨mc, h1, h2⟩ := nlim; ⟨mc, keepN h1, h2⟩⟩
  have tabB : ∀ p ∈ cs, LamX.TabB (hidT s1.heap H) mg p.1 p.2 := fun p hp => by
    refine ⟨?_, ?_, fun z => ?_⟩
    · obtain ⟨o, vs, fl, t1, g1, t2, fi, tx, t3, e1, r1, r2, r3, r4, r5, r6, r7, r8, r9⟩ := code p hp
      refine ⟨o, vs, fl, t1, g1, t2, fi, tx, t3, hidT_get e1 (none_of e1 (fun vs n z => ?_) fun z => ?_), r1, r2, r3, r4, r5, r6, r7, r8, r9⟩
      · rw [r2] at z; cases z
      · rw [r2] at z; cases z; simp at r3
    · obtain ⟨bm, ob, c1, c2, c3, c4, c5, c6⟩ := bmod
      refine ⟨bm, ob, c1, c2, fun q => ?_, fun q => ?_, hidT_get c3 (none_of c3 (fun vs n z => ?_) fun z => ?_), c4, c5, c6⟩
      · obtain ⟨o, es, ep, e, hd, _⟩ := nsG
        rw [q, e] at c3; cases c3; rw [hd] at c6; cases c6
      · rw [q, emp p hp] at c3; cases c3; cases c6
      · rw [c6] at z; cases z
      · rw [c6] at z; cases z
    · obtain ⟨o, es, ep, e, hd, _⟩ := nsG
      rw [z, emp p hp] at e; cases e; cases hd
  have e0 : Env0 P w K mg (hidT s1.heap H) callerA [] s1 H := ⟨rfl, modB, fun b o e => of_hidT e, Nat.le_of_eq (hidT_size _ _), trivial, fun b hb => absurd (show b ∈ ([] : List Addr) from hb) (by simp), hok, .of_eq nogen⟩
  have sq : SqL K H a (ns.map V.int) := by
    cases hl : K.lookup a with
    | some o =>
      have e := (inK a o hl).symm.trans scr
      cases e
      exact .inr ⟨_, us.toArray, _, hl, rfl, rfl, rfl, by rw [List.size_toArray, ints_.length]; exact len, by simpa using vv⟩
    | none => exact .inl (.inr ⟨_, by rw [← eH]; exact Hst.scr na (by rw [hkn, hl]; rfl)⟩)
  refine codeAny_mono ((fok _ inB (keepN nsG) tabB).run callerA [] s1 H ⟨[.ref a], []⟩ [.ref a] [.ref a] _ _ room rfl e0 (bnd s1 (.ref a)) (.cons rfl .nil) (want H tabH sq)) fun r s' h => ?_
  match r, h with
  | .error e, h =>
    obtain ⟨_, _, _, _, _, _, _, _, _, _, _, _, z⟩ := h
    exact z.elim
  | .ok .next, h => exact h.elim
  | .ok .brk, h => exact h.elim
  | .ok .cont, h => exact h.elim
  | .ok (.ret u), h =>
    obtain ⟨v, H', os, bare, un, hok', rv, q⟩ := h
    cases (show v = .bl true from q)
    obtain rfl : u = Value.bool true := rv
    have stay : ∀ b o, b ∉ cs.map (·.2) → s1.heap.get? b = some o → s'.heap.get? b = some o := fun b o nb e => by
      cases hb : H b with
      | none => exact un.keep b o e hb (by intro z; exact absurd (show b ∈ ([] : List Addr) from z) (by simp)) (by simp)
      | some u =>
        have hb2 := hb
        rw [← eH] at hb2
        rcases Hst.cases hb2 with ⟨h1, _⟩ | ⟨_, rfl, _, rfl⟩
        · exact absurd h1 nb
        · have e2 := (hok' _ _ (un.frzs _ _ _ hb)).1
          rw [scr] at e
          cases e
          exact e2
    have tabs' : ∀ p ∈ cs, ∃ more : Array Value, s'.heap.get? p.2 = some { cls := .none, data := .fields more } := fun p hp => by
      obtain ⟨more, z⟩ := un.tbls p.2 #[] (tabH p hp)
      exact ⟨_, hok' p.2 _ z⟩
    refine ⟨rfl, ⟨fun b o e => ?_, fun b o e => ?_⟩, os, bare⟩ <;> by_cases hb : b ∈ cs.map (·.2)
    · obtain ⟨p, hp, rfl⟩ := List.mem_map.mp hb
      obtain ⟨more, hm⟩ := tabs' p hp
      cases (emp p hp).symm.trans e
      exact .inr (.inl ⟨((code p hp).tab (emp p hp)).isCodeTable, rfl, #[], more, rfl, by rw [Array.empty_append]; exact hm⟩)
    · exact .inl (stay b o hb e)
    · obtain ⟨p, hp, rfl⟩ := List.mem_map.mp hb
      exact ⟨_, (tabs' p hp).choose_spec⟩
    · exact ⟨o, stay b o hb e⟩
/-! ### mirrors that are less exact -/
variable [Tab]
def Ref1 (r' r : R Ret) : Prop := ∀ (g : G) (Q : Ret → Own → Prop), Post g r' Q → Post g r Q
theorem Ref1.refl (r : R Ret) : Ref1 r r := fun _ _ h => h
theorem Ref1.bad (r : R Ret) : Ref1 .bad r := fun _ _ h => h.elim
def allOk (a : Ret) : R Ret → Prop
  | .ok b o => b = a ∧ o = []
  | .bad => False
  | .exc _ _ => False
  | .draw n k => ∀ d, d < n → allOk a (k d)
theorem Ref1.of {a : Ret} : ∀ {r : R Ret}, allOk a r → Ref1 (.ok a []) r
  | .ok b o, h => by obtain ⟨rfl, rfl⟩ := h; exact Ref1.refl _
  | .bad, h => h.elim
  | .exc _ _, h => h.elim
  | .draw n k, h => fun g Q q d hd => Ref1.of (h d hd) g Q q
def isTrue : Ret → Bool
  | .v (.bool true) => true
  | _ => false
def allN : Nat → (Nat → Bool) → Bool
  | 0, _ => true
  | n + 1, f => f n && allN n f
theorem allN_ok : ∀ {n : Nat} {f : Nat → Bool}, allN n f = true → ∀ i, i < n → f i = true
  | 0, _, _, i, hi => absurd hi (Nat.not_lt_zero i)
  | n + 1, f, h, i, hi => by
    unfold allN at h
    rw [Bool.and_eq_true] at h
    rcases Nat.lt_succ_iff_lt_or_eq.mp hi with q | rfl
    · exact allN_ok h.2 i q
    · exact h.1
def allTrueB : R Ret → Bool
  | .ok b o => isTrue b && o.isEmpty
  | .bad => false
  | .exc _ _ => false
  | .draw n k => allN n fun d => allTrueB (k d)
theorem isTrue_ok : ∀ {b : Ret}, isTrue b = true → b = .v (.bool true)
  | .v (.bool true), _ => rfl
theorem allTrue_ok : ∀ {r : R Ret}, allTrueB r = true → allOk (.v (.bool true)) r
  | .ok b o, h => by
    unfold allTrueB at h
    rw [Bool.and_eq_true] at h
    exact ⟨isTrue_ok h.1, List.isEmpty_iff.mp h.2⟩
  | .bad, h => by cases h
  | .exc _ _, h => by cases h
  | .draw n k, h => fun d hd => by
    unfold allTrueB at h
    exact allTrue_ok (allN_ok h d hd)
end Mir

set_option maxRecDepth 100000
set_option maxHeartbeats 4000000
namespace Mir
variable [Tab]
open PySem PySem.Spec PyProof.Rows L2
/-! ### a list of the run's own becomes data -/
def mFrz (m : M D) : M D := fun env own => (m env own).bind fun d o => match freeze d o with
  | some (x, o2) => .ok (.p x) o2
  | none => .ok d o
theorem me_frz {X : Cx} {g : G} {e : Expr} {m : M D} (h : PE X e (tE g m)) : PE X e (tE g (mFrz m)) := pe_imp h fun σ H Q h => by
  obtain ⟨c, env, own, r, e, h⟩ := h
  refine ⟨c, env, own, r, e, Post.mono (fun d o q c' H' v s r' rd => ?_) (Post.bind h)⟩
  split at q
  · rename_i x o2 hf
    obtain ⟨c2, s2, r2, q2⟩ := freeze_ok r' rd hf
    exact q c2 H' v (s.trans s2) r2 q2
  · exact q c' H' v s r' rd
theorem Cxt.down {X : Cx} {g : G} {cls : Nat → Addr} {T : List (Addr × Str)} {j k : Nat} (C : Cxt X g cls T k) (h : j ≤ k) : Cxt X g cls T j := ⟨C.N, C.calm, C.own, C.room.mono h, C.take, C.cls, C.T, C.K⟩
/-! ### data that are the same -/
mutual
def sameD : PyData → PyData → Bool
  | .none, .none => true
  | .bool a, .bool b => a == b
  | .int i, .int j => decide (i = j)
  | .str x, .str y => decide (x = y)
  | .list xs, .list ys => sameDs xs ys
  | .tuple xs, .tuple ys => sameDs xs ys
  | .dict xs, .dict ys => sameKs xs ys
  | _, _ => false
def sameDs : List PyData → List PyData → Bool
  | [], [] => true
  | x :: xs, y :: ys => sameD x y && sameDs xs ys
  | _, _ => false
def sameKs : List (PyData × PyData) → List (PyData × PyData) → Bool
  | [], [] => true
  | (x, u) :: xs, (y, v) :: ys => sameD x y && (sameD u v && sameKs xs ys)
  | _, _ => false
end
mutual
theorem sameD_ok : ∀ {a b : PyData}, sameD a b = true → a = b
  | .none, b, h => by cases b <;> first | rfl | (unfold sameD at h; cases h)
  | .bool a, b, h => by
    cases b <;> unfold sameD at h <;> first | cases h | skip
    rw [eq_of_beq h]
  | .int i, b, h => by
    cases b <;> unfold sameD at h <;> first | cases h | skip
    rw [of_decide_eq_true h]
  | .str x, b, h => by
    cases b <;> unfold sameD at h <;> first | cases h | skip
    rw [of_decide_eq_true h]
  | .list xs, b, h => by
    cases b <;> unfold sameD at h <;> first | cases h | skip
    rw [sameDs_ok h]
  | .tuple xs, b, h => by
    cases b <;> unfold sameD at h <;> first | cases h | skip
    rw [sameDs_ok h]
  | .dict xs, b, h => by
    cases b <;> unfold sameD at h <;> first | cases h | skip
    rw [sameKs_ok h]
theorem sameDs_ok : ∀ {a b : List PyData}, sameDs a b = true → a = b
  | [], b, h => by cases b <;> first | rfl | (unfold sameDs at h; cases h)
  | x :: xs, b, h => by
    cases b with
    | nil => unfold sameDs at h; cases h
    | cons y ys =>
      unfold sameDs at h
      rw [Bool.and_eq_true] at h
      rw [sameD_ok h.1, sameDs_ok h.2]
theorem sameKs_ok : ∀ {a b : List (PyData × PyData)}, sameKs a b = true → a = b
  | [], b, h => by cases b <;> first | rfl | (unfold sameKs at h; cases h)
  | (x, u) :: xs, b, h => by
    cases b with
    | nil => unfold sameKs at h; cases h
    | cons q ys =>
      obtain ⟨y, v⟩ := q
      unfold sameKs at h
      rw [Bool.and_eq_true, Bool.and_eq_true] at h
      rw [sameD_ok h.1, sameD_ok h.2.1, sameKs_ok h.2.2]
end
def sameA : Arg → Arg → Bool
  | .p a, .p b => sameD a b
  | .l a, .l b => sameDs a b
  | _, _ => false
theorem sameA_ok : ∀ {a b : Arg}, sameA a b = true → a = b
  | .p a, .p b, h => by rw [sameD_ok (show sameD a b = true from h)]
  | .l a, .l b, h => by rw [sameDs_ok (show sameDs a b = true from h)]
def sameAs : List Arg → List Arg → Bool
  | [], [] => true
  | x :: xs, y :: ys => sameA x y && sameAs xs ys
  | _, _ => false
theorem sameAs_ok : ∀ {a b : List Arg}, sameAs a b = true → a = b
  | [], [], _ => rfl
  | x :: xs, y :: ys, h => by
    unfold sameAs at h
    rw [Bool.and_eq_true] at h
    rw [sameA_ok h.1, sameAs_ok h.2]
/-- a mirror that answers at one list of arguments alone -/
def mAt (as : List Arg) (a : Ret) : Fn := fun bs => match sameAs bs as with
  | true => .ok a []
  | false => .bad
theorem mAt_ref {as : List Arg} {f : Fn} (h : allTrueB (f as) = true) (bs : List Arg) : Ref1 (mAt as (.v (.bool true)) bs) (f bs) := by
  unfold mAt
  split
  · rename_i e
    rw [sameAs_ok e]
    exact Ref1.of (allTrue_ok h)
  · exact Ref1.bad _
section
variable {P : Program} {w : World} {K : PySem.W.Frag} {mg : Str → Option Value} {base : Heap} {cls : Nat → Addr} {T : List (Addr × Str)} {k : Nat}
theorem spF_ref {n : Nat} {f f' : Fn} (h : ∀ as, Ref1 (f' as) (f as)) (vs : List V) (H : Hp) (Q : VK) (E : XK) (q : spF cls T n f' vs H Q E) : spF cls T n f vs H Q E := by
  obtain ⟨fz, as, h0, h1, ht, h2, h3, h4, h5⟩ := q
  exact ⟨fz, as, h0, h1, ht, h2, h3, h4, h as _ _ h5⟩
theorem FnG.ref {f : Addr} {ps : List Str} {fd : FuncData} {n : Nat} {fn fn' : Fn} (F : FnG P w K mg base k f ps fd (spF cls T n fn)) (h : ∀ as, Ref1 (fn' as) (fn as)) : FnG P w K mg base k f ps fd (spF cls T n fn') :=
  ⟨fun vs H Q E q => F.len vs H Q E (spF_ref h vs H Q E q), fun A outer s H args us vs Q E hr gd e0 hb hv q => F.run A outer s H args us vs Q E hr gd e0 hb hv (spF_ref h vs H Q E q)⟩
theorem CalG.ref {x : Str} {n : Nat} {fn fn' : Fn} (c : CalG P w K mg base cls T k x n fn) (h : ∀ as, Ref1 (fn' as) (fn as)) : CalG P w K mg base cls T k x n fn' := by
  obtain ⟨f, fd, ps, h1, h2, h3, h4, h5⟩ := c.ex
  exact ⟨f, fd, ps, h1, h2, h3, h4, h5.ref h⟩
theorem Cal.ref {x : Str} {n : Nat} {fn fn' : Fn} (c : Cal P w K mg base cls T k x n fn) (h : ∀ as, Ref1 (fn' as) (fn as)) : Cal P w K mg base cls T k x n fn' := by
  obtain ⟨f, fd, ps, h1, h2, h3, h4, h5⟩ := c.ex
  exact ⟨f, fd, ps, h1, h2, h3, h4, h5.imp (spF_ref h)⟩
end
/-! ### the end of a law -/
theorem want_true {K : PySem.W.Frag} {cls : Nat → Addr} {T : List (Addr × Str)} {fn : Fn} {cs : List (Addr × Addr)} {a : Addr} {ns : List Int} (hK : (Tab.K : PySem.W.Frag) = K) (hT : ∀ q ∈ T, ∃ p ∈ cs, q.1 = p.2) (h : allOk (.v (.bool true)) (fn [.p (scrD ns)]))
    (H : Hp) (hH : ∀ p ∈ cs, H p.2 = some (.tbl #[])) (hS : SqL K H a (ns.map V.int)) : spF cls T 1 fn [.ref a] H (fun v _ => v = .bl true) fun _ _ _ => False := by
  have sq : SqL Tab.K (nt H) a (ns.map V.int) := by
    rw [hK]
    rcases hS with h | h
    · refine .inl ?_
      rcases h with h | ⟨o, h⟩
      · exact .inl (nt_at h fun ps z => by cases z)
      · exact .inr ⟨o, nt_at h fun ps z => by cases z⟩
    · exact .inr h
  refine ⟨nt H, [.p (scrD ns)], nt_ntb H, nt_same H, fun q hq => ?_, .cons (.scr sq) .nil, rfl, List.nodup_nil, ?_⟩
  · obtain ⟨p, hp, e⟩ := hT q hq
    rw [e]
    exact LamX.TabS.nil (hH p hp)
  · refine Ref1.of h _ _ ?_
    intro H' v s1 t1 ok
    obtain ⟨fz', _, _, _, _, r⟩ := ok
    have r : Rp fz' v (.bool true) := r
    cases r
    rfl
end Mir

set_option maxRecDepth 100000
set_option maxHeartbeats 4000000
namespace Mir
open PySem PySem.Spec PyProof.Rows L2
/-- what a law's proof gives at the end of the top -/
def LawEnd (l : PySem.W.OpenLaw) (w : World) (K : PySem.W.Frag) (k : Nat) (x : Str) (mg : Str → Option Value) (f : Addr) (h : Heap) : Prop :=
  ∃ (fd : FuncData) (cs : List (Addr × Addr)) (sp : Sp), (∀ p ∈ cs, h.get? p.2 = some { cls := .none, data := .fields #[] }) ∧ (∀ p ∈ cs, K.lookup p.2 = none) ∧ (∀ p ∈ cs, PySem.W.CodeHd h p.1 p.2) ∧ (∀ (s : Shared) (u : Value), BindsTo s fd ⟨[u], []⟩ [(x, u)]) ∧
    (∀ (H : Hp) (a : Addr) (ns : List Int), ns.length ≤ 63 → (∀ z ∈ ns, Builtin.Int.intBits z ≤ 1048576) → (∀ p ∈ cs, H p.2 = some (.tbl #[])) → SqL K H a (ns.map V.int) → sp [.ref a] H (fun v _ => v = .bl true) fun _ _ _ => False) ∧
    ∀ base : Heap, K.In base → base.Ns mainGlobals mg → (∀ p ∈ cs, LamX.TabB base mg p.1 p.2) → FnG l.prog w K mg base k f [x] fd sp
theorem walk_G {l : PySem.W.OpenLaw} {k : Nat} {q : Program} {loose : List Str} {XP : (Str → Option Value) → Heap → Prop} {YP : World → Heap → Prop} {d : DefRec} {x : Str} (hn : l.most = some 63) (hdf : d.params.defaults = []) (hr : Room k callerA)
    (F : ∀ (w : World) (mg : Str → Option Value) (f : Addr) (h : Heap), YP w h → h.Ns mainGlobals mg → mg d.name = some (.ref f) → ∃ K : PySem.W.Frag, K.In h ∧ LawEnd l w K k x mg f h) : PySem.W.WalkO q loose XP YP l.row.toRowW d [] (fun f vs => PySem.call f vs) := by
  refine Att.attach_callB hn hdf fun w s₀ s₁ mg mb f o pm cd doc a vs ns G Y ho hd hcd hmg hobj hints hlen hbits hg => ?_
  obtain ⟨K, inK, fd, cs, sp, c1, c2, c3, c4, c5, c6⟩ := F w mg f _ Y G.T.g hmg
  exact law_callG inK G.T.g G.T.b G.T.builtins G.T.nolimit hg c1 c2 c3 G.T.bmain hobj hints (Nat.le_trans hlen (by decide)) hr c6 c4 fun H h1 h2 => c5 H a ns hlen hbits h1 h2
/-- the tables of the defs that make lambdas -/
def csOf (K : PySem.W.Frag) (tf : List He.Defn) : List (Addr × Addr) := tf.map (He.cT K)
theorem lawEnd_of [Tab] {l : PySem.W.OpenLaw} {w : World} {K : PySem.W.Frag} {k : Nat} {x : Str} {mg : Str → Option Value} {f : Addr} {h : Heap} {fa : List He.Fa} {fn : List He.DefD} {ts : List He.Tab} {tf : List He.Defn} {ex : PySem.W.Frag → Bool} {fd : FuncData} {cls : Nat → Addr} {T : List (Addr × Str)} {m : Fn}
    (hK : (Tab.K : PySem.W.Frag) = K) (inK : K.In h) (says : He.SaysX fa fn ts tf ex w h K) (hT : ∀ q ∈ T, ∃ p ∈ csOf K tf, q.1 = p.2) (hb : ∀ (s : Shared) (u : Value), BindsTo s fd ⟨[u], []⟩ [(x, u)])
    (hm : ∀ ns : List Int, ns.length ≤ 63 → (∀ z ∈ ns, Builtin.Int.intBits z ≤ 1048576) → allOk (.v (.bool true)) (m [.p (scrD ns)]))
    (hF : ∀ base : Heap, K.In base → base.Ns mainGlobals mg → (∀ p ∈ csOf K tf, LamX.TabB base mg p.1 p.2) → FnG l.prog w K mg base k f [x] fd (spF cls T 1 m)) : LawEnd l w K k x mg f h := by
  refine ⟨fd, csOf K tf, spF cls T 1 m, fun p hp => ?_, fun p hp => ?_, fun p hp => ?_, hb, fun H a ns h1 h2 h3 h4 => want_true hK hT (hm ns h1 h2) H h3 h4, hF⟩
  · obtain ⟨q, hq, rfl⟩ := List.mem_map.mp hp
    exact says.empty q hq
  · obtain ⟨q, hq, rfl⟩ := List.mem_map.mp hp
    exact says.out q hq
  · obtain ⟨q, hq, rfl⟩ := List.mem_map.mp hp
    exact PySem.W.codeHd_of_K inK (says.hd q hq)
end Mir

set_option maxRecDepth 100000
set_option maxHeartbeats 0
namespace K74
open PySem PySem.Spec PyProof.Rows L2 Mir
def top (i : Nat) : Stmt := PySem.Challenge.pw_toldahead_k74_seventh_stage_refused.main.body.getD i (.Pass ⟨0, 0, 0, 0⟩)
def d_is_integer : He.DefD := ⟨("is_integer", none), "is_integer", "is_integer", defArgs (top 1), defBody (top 1), defScope (top 1), [], []⟩
def d_is_within : He.DefD := ⟨("is_within", none), "is_within", "is_within", defArgs (top 2), defBody (top 2), defScope (top 2), [], []⟩
def d_is_tuple : He.DefD := ⟨("is_tuple", none), "is_tuple", "is_tuple", defArgs (top 3), defBody (top 3), defScope (top 3), [], []⟩
def d_is_pair_of : He.DefD := ⟨("is_pair_of", none), "is_pair_of", "is_pair_of", defArgs (top 10), defBody (top 10), defScope (top 10), [], []⟩
def d_is_closed : He.DefD := ⟨("is_closed", none), "is_closed", "is_closed", defArgs (top 11), defBody (top 11), defScope (top 11), [], []⟩
def d_is_order_value : He.DefD := ⟨("is_order_value", none), "is_order_value", "is_order_value", defArgs (top 12), defBody (top 12), defScope (top 12), [], []⟩
def d_want_order : He.DefD := ⟨("want_order", none), "want_order", "want_order", defArgs (top 13), defBody (top 13), defScope (top 13), [], []⟩
def d_made : He.DefD := ⟨("made", none), "made", "made", defArgs (top 14), defBody (top 14), defScope (top 14), [], []⟩
def d_are_apart : He.DefD := ⟨("are_apart", none), "are_apart", "are_apart", defArgs (top 15), defBody (top 15), defScope (top 15), [], []⟩
def d_runners_of : He.DefD := ⟨("runners_of", none), "runners_of", "runners_of", defArgs (top 19), defBody (top 19), defScope (top 19), [], []⟩
def d_pairs_of : He.DefD := ⟨("pairs_of", none), "pairs_of", "pairs_of", defArgs (top 20), defBody (top 20), defScope (top 20), [], []⟩
def d_is_put : He.DefD := ⟨("is_put", none), "is_put", "is_put", defArgs (top 21), defBody (top 21), defScope (top 21), [], []⟩
def d_is_of_all : He.DefD := ⟨("is_of_all", none), "is_of_all", "is_of_all", defArgs (top 22), defBody (top 22), defScope (top 22), [], []⟩
def d_choose : He.DefD := ⟨("choose", none), "choose", "choose", defArgs (top 28), defBody (top 28), defScope (top 28), [], []⟩
def d_rankings_in : He.DefD := ⟨("rankings_in", none), "rankings_in", "rankings_in", defArgs (top 29), defBody (top 29), defScope (top 29), [], []⟩
def d_lots_in : He.DefD := ⟨("lots_in", none), "lots_in", "lots_in", defArgs (top 30), defBody (top 30), defScope (top 30), [], []⟩
def d_greatest_in : He.DefD := ⟨("greatest_in", none), "greatest_in", "greatest_in", defArgs (top 31), defBody (top 31), defScope (top 31), [], []⟩
def d_want_building : He.DefD := ⟨("want_building", none), "want_building", "want_building", defArgs (top 32), defBody (top 32), defScope (top 32), [], []⟩
def d_built : He.DefD := ⟨("built", none), "built", "built", defArgs (top 24), defBody (top 24), defScope (top 24), [], []⟩
def d_is_n_of : He.DefD := ⟨("is_n_of", none), "is_n_of", "is_n_of", defArgs (top 26), defBody (top 26), defScope (top 26), [], []⟩
def d_first_n : He.DefD := ⟨("first_n", none), "first_n", "first_n", defArgs (top 27), defBody (top 27), defScope (top 27), [], []⟩
def d_told_building : He.DefD := ⟨("told_building", none), "told_building", "told_building", defArgs (top 33), defBody (top 33), defScope (top 33), [], []⟩
def d_is_building : He.DefD := ⟨("is_building", none), "is_building", "is_building", defArgs (top 34), defBody (top 34), defScope (top 34), [], []⟩
def d_order_by : He.DefD := ⟨("order_by", none), "order_by", "order_by", defArgs (top 35), defBody (top 35), defScope (top 35), [], []⟩
def d_told_n : He.DefD := ⟨("told_n", none), "told_n", "told_n", defArgs (top 36), defBody (top 36), defScope (top 36), [], []⟩
def d_is_n : He.DefD := ⟨("is_n", none), "is_n", "is_n", defArgs (top 37), defBody (top 37), defScope (top 37), [], []⟩
def d_rankings_by : He.DefD := ⟨("rankings_by", none), "rankings_by", "rankings_by", defArgs (top 38), defBody (top 38), defScope (top 38), [], []⟩
def d_lots_by : He.DefD := ⟨("lots_by", none), "lots_by", "lots_by", defArgs (top 39), defBody (top 39), defScope (top 39), [], []⟩
def d_longest_by : He.DefD := ⟨("longest_by", none), "longest_by", "longest_by", defArgs (top 40), defBody (top 40), defScope (top 40), [], []⟩
def d_widest_by : He.DefD := ⟨("widest_by", none), "widest_by", "widest_by", defArgs (top 41), defBody (top 41), defScope (top 41), [], []⟩
def d__law_draw : He.DefD := ⟨("_law_draw", none), "_law_draw", "_law_draw", defArgs (top 44), defBody (top 44), defScope (top 44), [], []⟩
def d__law_pot : He.DefD := ⟨("_law_pot", none), "_law_pot", "_law_pot", defArgs (top 43), defBody (top 43), defScope (top 43), [], []⟩
def d__law_pick : He.DefD := ⟨("_law_pick", none), "_law_pick", "_law_pick", defArgs (top 45), defBody (top 45), defScope (top 45), [], []⟩
def d__law_heard : He.DefD := ⟨("_law_heard", none), "_law_heard", "_law_heard", defArgs (top 46), defBody (top 46), defScope (top 46), [], []⟩
def d__law_are : He.DefD := ⟨("_law_are", none), "_law_are", "_law_are", defArgs (top 47), defBody (top 47), defScope (top 47), [], []⟩
def d__law_by_building : He.DefD := ⟨("_law_by_building", none), "_law_by_building", "_law_by_building", defArgs (top 48), defBody (top 48), defScope (top 48), [], []⟩
def d__law_right : He.DefD := ⟨("_law_right", none), "_law_right", "_law_right", defArgs (top 49), defBody (top 49), defScope (top 49), [], []⟩
def d_law : He.DefD := ⟨("law", none), "law", "law", defArgs (top 50), defBody (top 50), defScope (top 50), [], []⟩
def d_ini : He.DefD := ⟨("OrderError", some "__init__"), "__init__", "OrderError.__init__", defArgs ((C8.clsBody (top 5)).getD 0 (.Pass ⟨0, 0, 0, 0⟩)), defBody ((C8.clsBody (top 5)).getD 0 (.Pass ⟨0, 0, 0, 0⟩)), defScope ((C8.clsBody (top 5)).getD 0 (.Pass ⟨0, 0, 0, 0⟩)), [.non], []⟩
def fn : List He.DefD := [d_is_integer, d_is_within, d_is_tuple, d_is_pair_of, d_is_closed, d_is_order_value, d_want_order, d_made, d_are_apart, d_runners_of, d_pairs_of, d_is_put, d_is_of_all, d_choose, d_rankings_in, d_lots_in, d_greatest_in, d_want_building, d_built, d_is_n_of, d_first_n, d_told_building, d_is_building, d_order_by, d_told_n, d_is_n, d_rankings_by, d_lots_by, d_longest_by, d_widest_by, d__law_draw, d__law_pot, d__law_pick, d__law_heard, d__law_are, d__law_by_building, d__law_right, d_law, d_ini]
def fa : List He.Fa := [.glo "is_integer", .glo "is_within", .glo "is_tuple", .glo "is_pair_of", .glo "is_closed", .glo "is_order_value", .glo "want_order", .glo "made", .glo "are_apart", .glo "runners_of", .glo "pairs_of", .glo "is_put", .glo "is_of_all", .glo "choose", .glo "rankings_in", .glo "lots_in", .glo "greatest_in", .glo "want_building", .glo "built", .glo "is_n_of", .glo "first_n", .glo "told_building", .glo "is_building", .glo "order_by", .glo "told_n", .glo "is_n", .glo "rankings_by", .glo "lots_by", .glo "longest_by", .glo "widest_by", .glo "_law_draw", .glo "_law_pot", .glo "_law_pick", .glo "_law_heard", .glo "_law_are", .glo "_law_by_building", .glo "_law_right", .glo "law", .free "repr", .free "isinstance", .free "int", .free "bool", .free "tuple", .free "len", .free "all", .free "any", .free "str", .free "zip", .free "sorted", .free "list", .free "range", .free "sum", .free "max", .free "min", .free "divmod", .free "abs", .free "ValueError", .int "MOST_RUNNERS" 10, .str "AFTER" "after", .str "BESIDE" "beside", .glo "OrderError", .glo "InvalidOrder", .glo "InvalidBuilding"]
variable [Tab]
def lams (n : Nat) : LamC := (lamIn "_law_by_building.<locals>.<lambda>" (defBody (top 48)) ++ lamIn "_law_right.<locals>.<lambda>" (defBody (top 49))).getD n ⟨"", ⟨[], [], none, [], [], none, []⟩, .Constant .none 0 ⟨0, 0, 0, 0⟩, ⟨.function, [], false, false, []⟩⟩
def excs : List Str := ["OrderError", "InvalidOrder", "InvalidBuilding"]
def cls (K : PySem.W.Frag) (n : Nat) : Addr := He.ga K (excs.getD n "")
def clauses (K : PySem.W.Frag) : List (Value × Str) := [(.ref (He.ga K "InvalidOrder"), "order"), (.ref (He.ga K "InvalidBuilding"), "building")]
def tf : List He.Defn := [("_law_by_building", none), ("_law_right", none)]
def exm (K : PySem.W.Frag) : Bool := !((He.cT K ("_law_by_building", none)).2 == (He.cT K ("_law_right", none)).2) && (excTB K (cls K 1) && (decide (PySem.W.kitOne K (.ref (cls K 1)) (.ref (He.ga K "OrderError")) = some true) && (decide (pickB K (.ref (cls K 1)) (clauses K) = some "order") &&
  (excTB K (cls K 2) && (decide (PySem.W.kitOne K (.ref (cls K 2)) (.ref (He.ga K "OrderError")) = some true) && (decide (pickB K (.ref (cls K 2)) (clauses K) = some "building") && (decide (PySem.W.kitOne K (.ref (cls K 1)) (.type "ValueError") = some true) && decide (PySem.W.kitOne K (.ref (cls K 2)) (.type "ValueError") = some true))))))))
def exb (K : PySem.W.Frag) : Bool := exB K "OrderError" "OrderError" && exB K "InvalidOrder" "OrderError" && exB K "InvalidBuilding" "OrderError" && exm K
def s_ini : Stmt := (C8.clsBody (top 5)).getD 0 (.Pass ⟨0, 0, 0, 0⟩)
def T (K : PySem.W.Frag) : List (Addr × Str) := [((He.cT K ("_law_by_building", none)).2, "_law_by_building.<locals>.<lambda>"), ((He.cT K ("_law_right", none)).2, "_law_right.<locals>.<lambda>")]
/-- what the top has left -/
structure Z (P : Program) (w : World) (K : PySem.W.Frag) (mg : Str → Option Value) (base : Heap) : Prop where
  kin : K.In base
  G : base.Ns mainGlobals mg
  says : He.SaysD fa fn K
  tk : (Tab.K : PySem.W.Frag) = K
  tt : (Tab.tab : Nat → LamC) = lams
  tc : (Tab.cls : Nat → Addr) = cls K
  ex : exb K = true
  tb : ∀ p ∈ tf, LamX.TabB base mg (He.cT K p).1 (He.cT K p).2
section
variable {P : Program} {w : World} {K : PySem.W.Frag} {mg : Str → Option Value} {base : Heap}
theorem Z.g_is_integer (z : Z P w K mg base) : mg "is_integer" = some (.ref (He.ga K "is_integer")) := He.glo_ok z.kin z.G (z.says.fact 0 (f := .glo "is_integer") rfl)
theorem Z.g_is_within (z : Z P w K mg base) : mg "is_within" = some (.ref (He.ga K "is_within")) := He.glo_ok z.kin z.G (z.says.fact 1 (f := .glo "is_within") rfl)
theorem Z.g_is_tuple (z : Z P w K mg base) : mg "is_tuple" = some (.ref (He.ga K "is_tuple")) := He.glo_ok z.kin z.G (z.says.fact 2 (f := .glo "is_tuple") rfl)
theorem Z.g_is_pair_of (z : Z P w K mg base) : mg "is_pair_of" = some (.ref (He.ga K "is_pair_of")) := He.glo_ok z.kin z.G (z.says.fact 3 (f := .glo "is_pair_of") rfl)
theorem Z.g_is_closed (z : Z P w K mg base) : mg "is_closed" = some (.ref (He.ga K "is_closed")) := He.glo_ok z.kin z.G (z.says.fact 4 (f := .glo "is_closed") rfl)
theorem Z.g_is_order_value (z : Z P w K mg base) : mg "is_order_value" = some (.ref (He.ga K "is_order_value")) := He.glo_ok z.kin z.G (z.says.fact 5 (f := .glo "is_order_value") rfl)
theorem Z.g_want_order (z : Z P w K mg base) : mg "want_order" = some (.ref (He.ga K "want_order")) := He.glo_ok z.kin z.G (z.says.fact 6 (f := .glo "want_order") rfl)
theorem Z.g_made (z : Z P w K mg base) : mg "made" = some (.ref (He.ga K "made")) := He.glo_ok z.kin z.G (z.says.fact 7 (f := .glo "made") rfl)
theorem Z.g_are_apart (z : Z P w K mg base) : mg "are_apart" = some (.ref (He.ga K "are_apart")) := He.glo_ok z.kin z.G (z.says.fact 8 (f := .glo "are_apart") rfl)
theorem Z.g_runners_of (z : Z P w K mg base) : mg "runners_of" = some (.ref (He.ga K "runners_of")) := He.glo_ok z.kin z.G (z.says.fact 9 (f := .glo "runners_of") rfl)
theorem Z.g_pairs_of (z : Z P w K mg base) : mg "pairs_of" = some (.ref (He.ga K "pairs_of")) := He.glo_ok z.kin z.G (z.says.fact 10 (f := .glo "pairs_of") rfl)
theorem Z.g_is_put (z : Z P w K mg base) : mg "is_put" = some (.ref (He.ga K "is_put")) := He.glo_ok z.kin z.G (z.says.fact 11 (f := .glo "is_put") rfl)
theorem Z.g_is_of_all (z : Z P w K mg base) : mg "is_of_all" = some (.ref (He.ga K "is_of_all")) := He.glo_ok z.kin z.G (z.says.fact 12 (f := .glo "is_of_all") rfl)
theorem Z.g_choose (z : Z P w K mg base) : mg "choose" = some (.ref (He.ga K "choose")) := He.glo_ok z.kin z.G (z.says.fact 13 (f := .glo "choose") rfl)
theorem Z.g_rankings_in (z : Z P w K mg base) : mg "rankings_in" = some (.ref (He.ga K "rankings_in")) := He.glo_ok z.kin z.G (z.says.fact 14 (f := .glo "rankings_in") rfl)
theorem Z.g_lots_in (z : Z P w K mg base) : mg "lots_in" = some (.ref (He.ga K "lots_in")) := He.glo_ok z.kin z.G (z.says.fact 15 (f := .glo "lots_in") rfl)
theorem Z.g_greatest_in (z : Z P w K mg base) : mg "greatest_in" = some (.ref (He.ga K "greatest_in")) := He.glo_ok z.kin z.G (z.says.fact 16 (f := .glo "greatest_in") rfl)
theorem Z.g_want_building (z : Z P w K mg base) : mg "want_building" = some (.ref (He.ga K "want_building")) := He.glo_ok z.kin z.G (z.says.fact 17 (f := .glo "want_building") rfl)
theorem Z.g_built (z : Z P w K mg base) : mg "built" = some (.ref (He.ga K "built")) := He.glo_ok z.kin z.G (z.says.fact 18 (f := .glo "built") rfl)
theorem Z.g_is_n_of (z : Z P w K mg base) : mg "is_n_of" = some (.ref (He.ga K "is_n_of")) := He.glo_ok z.kin z.G (z.says.fact 19 (f := .glo "is_n_of") rfl)
theorem Z.g_first_n (z : Z P w K mg base) : mg "first_n" = some (.ref (He.ga K "first_n")) := He.glo_ok z.kin z.G (z.says.fact 20 (f := .glo "first_n") rfl)
theorem Z.g_told_building (z : Z P w K mg base) : mg "told_building" = some (.ref (He.ga K "told_building")) := He.glo_ok z.kin z.G (z.says.fact 21 (f := .glo "told_building") rfl)
theorem Z.g_is_building (z : Z P w K mg base) : mg "is_building" = some (.ref (He.ga K "is_building")) := He.glo_ok z.kin z.G (z.says.fact 22 (f := .glo "is_building") rfl)
theorem Z.g_order_by (z : Z P w K mg base) : mg "order_by" = some (.ref (He.ga K "order_by")) := He.glo_ok z.kin z.G (z.says.fact 23 (f := .glo "order_by") rfl)
theorem Z.g_told_n (z : Z P w K mg base) : mg "told_n" = some (.ref (He.ga K "told_n")) := He.glo_ok z.kin z.G (z.says.fact 24 (f := .glo "told_n") rfl)
theorem Z.g_is_n (z : Z P w K mg base) : mg "is_n" = some (.ref (He.ga K "is_n")) := He.glo_ok z.kin z.G (z.says.fact 25 (f := .glo "is_n") rfl)
theorem Z.g_rankings_by (z : Z P w K mg base) : mg "rankings_by" = some (.ref (He.ga K "rankings_by")) := He.glo_ok z.kin z.G (z.says.fact 26 (f := .glo "rankings_by") rfl)
theorem Z.g_lots_by (z : Z P w K mg base) : mg "lots_by" = some (.ref (He.ga K "lots_by")) := He.glo_ok z.kin z.G (z.says.fact 27 (f := .glo "lots_by") rfl)
theorem Z.g_longest_by (z : Z P w K mg base) : mg "longest_by" = some (.ref (He.ga K "longest_by")) := He.glo_ok z.kin z.G (z.says.fact 28 (f := .glo "longest_by") rfl)
theorem Z.g_widest_by (z : Z P w K mg base) : mg "widest_by" = some (.ref (He.ga K "widest_by")) := He.glo_ok z.kin z.G (z.says.fact 29 (f := .glo "widest_by") rfl)
theorem Z.g__law_draw (z : Z P w K mg base) : mg "_law_draw" = some (.ref (He.ga K "_law_draw")) := He.glo_ok z.kin z.G (z.says.fact 30 (f := .glo "_law_draw") rfl)
theorem Z.g__law_pot (z : Z P w K mg base) : mg "_law_pot" = some (.ref (He.ga K "_law_pot")) := He.glo_ok z.kin z.G (z.says.fact 31 (f := .glo "_law_pot") rfl)
theorem Z.g__law_pick (z : Z P w K mg base) : mg "_law_pick" = some (.ref (He.ga K "_law_pick")) := He.glo_ok z.kin z.G (z.says.fact 32 (f := .glo "_law_pick") rfl)
theorem Z.g__law_heard (z : Z P w K mg base) : mg "_law_heard" = some (.ref (He.ga K "_law_heard")) := He.glo_ok z.kin z.G (z.says.fact 33 (f := .glo "_law_heard") rfl)
theorem Z.g__law_are (z : Z P w K mg base) : mg "_law_are" = some (.ref (He.ga K "_law_are")) := He.glo_ok z.kin z.G (z.says.fact 34 (f := .glo "_law_are") rfl)
theorem Z.g__law_by_building (z : Z P w K mg base) : mg "_law_by_building" = some (.ref (He.ga K "_law_by_building")) := He.glo_ok z.kin z.G (z.says.fact 35 (f := .glo "_law_by_building") rfl)
theorem Z.g__law_right (z : Z P w K mg base) : mg "_law_right" = some (.ref (He.ga K "_law_right")) := He.glo_ok z.kin z.G (z.says.fact 36 (f := .glo "_law_right") rfl)
theorem Z.g_law (z : Z P w K mg base) : mg "law" = some (.ref (He.ga K "law")) := He.glo_ok z.kin z.G (z.says.fact 37 (f := .glo "law") rfl)
theorem Z.f_repr (z : Z P w K mg base) : mg "repr" = none := He.free_ok z.kin z.G (z.says.fact 38 (f := .free "repr") rfl)
theorem Z.f_isinstance (z : Z P w K mg base) : mg "isinstance" = none := He.free_ok z.kin z.G (z.says.fact 39 (f := .free "isinstance") rfl)
theorem Z.f_int (z : Z P w K mg base) : mg "int" = none := He.free_ok z.kin z.G (z.says.fact 40 (f := .free "int") rfl)
theorem Z.f_bool (z : Z P w K mg base) : mg "bool" = none := He.free_ok z.kin z.G (z.says.fact 41 (f := .free "bool") rfl)
theorem Z.f_tuple (z : Z P w K mg base) : mg "tuple" = none := He.free_ok z.kin z.G (z.says.fact 42 (f := .free "tuple") rfl)
theorem Z.f_len (z : Z P w K mg base) : mg "len" = none := He.free_ok z.kin z.G (z.says.fact 43 (f := .free "len") rfl)
theorem Z.f_all (z : Z P w K mg base) : mg "all" = none := He.free_ok z.kin z.G (z.says.fact 44 (f := .free "all") rfl)
theorem Z.f_any (z : Z P w K mg base) : mg "any" = none := He.free_ok z.kin z.G (z.says.fact 45 (f := .free "any") rfl)
theorem Z.f_str (z : Z P w K mg base) : mg "str" = none := He.free_ok z.kin z.G (z.says.fact 46 (f := .free "str") rfl)
theorem Z.f_zip (z : Z P w K mg base) : mg "zip" = none := He.free_ok z.kin z.G (z.says.fact 47 (f := .free "zip") rfl)
theorem Z.f_sorted (z : Z P w K mg base) : mg "sorted" = none := He.free_ok z.kin z.G (z.says.fact 48 (f := .free "sorted") rfl)
theorem Z.f_list (z : Z P w K mg base) : mg "list" = none := He.free_ok z.kin z.G (z.says.fact 49 (f := .free "list") rfl)
theorem Z.f_range (z : Z P w K mg base) : mg "range" = none := He.free_ok z.kin z.G (z.says.fact 50 (f := .free "range") rfl)
theorem Z.f_sum (z : Z P w K mg base) : mg "sum" = none := He.free_ok z.kin z.G (z.says.fact 51 (f := .free "sum") rfl)
theorem Z.f_max (z : Z P w K mg base) : mg "max" = none := He.free_ok z.kin z.G (z.says.fact 52 (f := .free "max") rfl)
theorem Z.f_min (z : Z P w K mg base) : mg "min" = none := He.free_ok z.kin z.G (z.says.fact 53 (f := .free "min") rfl)
theorem Z.f_divmod (z : Z P w K mg base) : mg "divmod" = none := He.free_ok z.kin z.G (z.says.fact 54 (f := .free "divmod") rfl)
theorem Z.f_abs (z : Z P w K mg base) : mg "abs" = none := He.free_ok z.kin z.G (z.says.fact 55 (f := .free "abs") rfl)
theorem Z.f_ValueError (z : Z P w K mg base) : mg "ValueError" = none := He.free_ok z.kin z.G (z.says.fact 56 (f := .free "ValueError") rfl)
theorem Z.c_MOST_RUNNERS (z : Z P w K mg base) : ∃ u, mg "MOST_RUNNERS" = some u ∧ L2.RelV (.int 10) u := by
  obtain ⟨t, h⟩ := He.int_ok z.kin z.G (z.says.fact 57 (f := .int "MOST_RUNNERS" 10) rfl)
  exact ⟨_, h, t, rfl⟩
theorem Z.c_AFTER (z : Z P w K mg base) : ∃ u, mg "AFTER" = some u ∧ L2.RelV (.str "after") u := by
  obtain ⟨t, h⟩ := He.str_ok z.kin z.G (z.says.fact 58 (f := .str "AFTER" "after") rfl)
  exact ⟨_, h, t, rfl⟩
theorem Z.c_BESIDE (z : Z P w K mg base) : ∃ u, mg "BESIDE" = some u ∧ L2.RelV (.str "beside") u := by
  obtain ⟨t, h⟩ := He.str_ok z.kin z.G (z.says.fact 59 (f := .str "BESIDE" "beside") rfl)
  exact ⟨_, h, t, rfl⟩
theorem Z.m_OrderError (z : Z P w K mg base) : mg "OrderError" = some (.ref (He.ga K "OrderError")) := He.glo_ok z.kin z.G (z.says.fact 60 (f := .glo "OrderError") rfl)
theorem Z.m_InvalidOrder (z : Z P w K mg base) : mg "InvalidOrder" = some (.ref (He.ga K "InvalidOrder")) := He.glo_ok z.kin z.G (z.says.fact 61 (f := .glo "InvalidOrder") rfl)
theorem Z.m_InvalidBuilding (z : Z P w K mg base) : mg "InvalidBuilding" = some (.ref (He.ga K "InvalidBuilding")) := He.glo_ok z.kin z.G (z.says.fact 62 (f := .glo "InvalidBuilding") rfl)
theorem sc_ini : FnScope ["self", "value"] ["self", "value"] (defScope ((C8.clsBody (top 5)).getD 0 (.Pass ⟨0, 0, 0, 0⟩))) := ⟨rfl, rfl, rfl, by decide +kernel, rfl, by decide +kernel, by decide +kernel⟩
theorem Z.x_OrderError (z : Z P w K mg base) (k : Nat) : ExF P w K mg base (k + 1) "OrderError" (cls K 0) := by
  obtain ⟨fd, F⟩ := z.says.def_ 38 (d := d_ini) rfl
  have h := z.ex
  unfold exb at h
  simp only [Bool.and_eq_true] at h
  exact exF_of z.m_OrderError h.1.1.1 F sc_ini fun _ _ _ _ _ _ _ us its h1 h2 => match us, its, h1, h2 with | [_, _], [_], _, _ => ⟨_, rfl, rfl⟩
theorem Z.x_InvalidOrder (z : Z P w K mg base) (k : Nat) : ExF P w K mg base (k + 1) "InvalidOrder" (cls K 1) := by
  obtain ⟨fd, F⟩ := z.says.def_ 38 (d := d_ini) rfl
  have h := z.ex
  unfold exb at h
  simp only [Bool.and_eq_true] at h
  exact exF_of z.m_InvalidOrder h.1.1.2 F sc_ini fun _ _ _ _ _ _ _ us its h1 h2 => match us, its, h1, h2 with | [_, _], [_], _, _ => ⟨_, rfl, rfl⟩
theorem Z.x_InvalidBuilding (z : Z P w K mg base) (k : Nat) : ExF P w K mg base (k + 1) "InvalidBuilding" (cls K 2) := by
  obtain ⟨fd, F⟩ := z.says.def_ 38 (d := d_ini) rfl
  have h := z.ex
  unfold exb at h
  simp only [Bool.and_eq_true] at h
  exact exF_of z.m_InvalidBuilding h.1.2 F sc_ini fun _ _ _ _ _ _ _ us its h1 h2 => match us, its, h1, h2 with | [_, _], [_], _, _ => ⟨_, rfl, rfl⟩
theorem Z.v_InvalidOrder (z : Z P w K mg base) : ExF P w K mg base 1 "InvalidOrder" (Tab.cls 1) := by
  have h := z.x_InvalidOrder 0
  rwa [← z.tc] at h
theorem Z.k_InvalidOrder (z : Z P w K mg base) : ExFK P w K mg base 1 "InvalidOrder" (Tab.cls 1) := by
  obtain ⟨fd, F⟩ := z.says.def_ 38 (d := d_ini) rfl
  have h := z.ex
  unfold exb at h
  simp only [Bool.and_eq_true] at h
  rw [z.tc]
  exact exFK_of (k := 0) z.m_InvalidOrder h.1.1.2 F sc_ini fun _ _ _ _ _ _ _ _ _ _ => ⟨_, rfl, rfl⟩
theorem Z.v_InvalidBuilding (z : Z P w K mg base) : ExF P w K mg base 1 "InvalidBuilding" (Tab.cls 2) := by
  have h := z.x_InvalidBuilding 0
  rwa [← z.tc] at h
theorem Z.k_InvalidBuilding (z : Z P w K mg base) : ExFK P w K mg base 1 "InvalidBuilding" (Tab.cls 2) := by
  obtain ⟨fd, F⟩ := z.says.def_ 38 (d := d_ini) rfl
  have h := z.ex
  unfold exb at h
  simp only [Bool.and_eq_true] at h
  rw [z.tc]
  exact exFK_of (k := 0) z.m_InvalidBuilding h.1.2 F sc_ini fun _ _ _ _ _ _ _ _ _ _ => ⟨_, rfl, rfl⟩
def okx : Nat → Bool
  | 1 => true
  | 2 => true
  | _ => false
theorem okx_ok (z : Z P w K mg base) (n : Nat) (h : okx n = true) : ExcT K (Tab.cls n) := by
  have q := z.ex
  unfold exb at q
  rw [Bool.and_eq_true] at q
  have q := q.2
  unfold exm at q
  simp only [Bool.and_eq_true, decide_eq_true_eq] at q
  obtain ⟨_, a1, a2, a3, b1, b2, b3, _⟩ := q
  rw [z.tc]
  match n, h with
  | 1, _ => exact excTB_ok a1
  | 2, _ => exact excTB_ok b1
def whx : Nat → Option Bool
  | 1 => some true
  | 2 => some true
  | _ => none
theorem whx_ok (z : Z P w K mg base) (n : Nat) (b : Bool) (h : whx n = some b) : ExcT K (Tab.cls n) ∧ PySem.W.kitOne K (.ref (Tab.cls n)) (.type "ValueError") = some b := by
  have q := z.ex
  unfold exb at q
  rw [Bool.and_eq_true] at q
  have q := q.2
  unfold exm at q
  simp only [Bool.and_eq_true, decide_eq_true_eq] at q
  obtain ⟨_, a1, a2, a3, b1, b2, b3, v1, v2⟩ := q
  rw [z.tc]
  match n, h with
  | 1, h => cases h; exact ⟨excTB_ok a1, v1⟩
  | 2, h => cases h; exact ⟨excTB_ok b1, v2⟩
abbrev s_is_integer : Stmt := top 1
theorem sc_is_integer : FnScope ["value"] ["value"] (defScope s_is_integer) := ⟨rfl, rfl, rfl, by decide +kernel, rfl, by decide +kernel, by decide +kernel⟩
def b_is_integer : MS := (sRet (mAndV (mAsB (mIsi "int" (mVar 0))) (mNotV (mAsB (mIsi "bool" (mVar 0))))))
theorem bd_is_integer (z : Z P w K mg base) (cdv : Value) (A : Around) (outer : List PySem.Env) (s : Shared) (H : Hp) (E : XK) (g : G) (C : Cxt (cxL P w K mg base ["value"] "is_integer" (defScope s_is_integer) (He.ga K "is_integer") cdv A outer s H E) g (cls K) (T K) 0) :
    PSs (cxL P w K mg base ["value"] "is_integer" (defScope s_is_integer) (He.ga K "is_integer") cdv A outer s H E) (defBody s_is_integer) (tS g b_is_integer) :=
    (ms_one (ms_ret (me_and (me_isi' z.f_isinstance z.f_int (me_var 0)) (me_one (me_not (me_isi' z.f_isinstance z.f_bool (me_var 0)))))))
def m_is_integer : Fn := runF 1 b_is_integer
theorem ok_is_integer (z : Z P w K mg base) : Cal P w K mg base (cls K) (T K) 1 "is_integer" 1 m_is_integer := by
  obtain ⟨fd, F⟩ := z.says.def_ 0 (d := d_is_integer) rfl
  exact ⟨_, fd, ["value"], z.g_is_integer, F.kp, FunD.bindsN F fun _ _ _ _ _ _ us hl => match us, hl with | [_], _ => rfl, rfl, md_c (k := 0) F sc_is_integer rfl z.tk (bd_is_integer z)⟩
abbrev s_is_within : Stmt := top 2
theorem sc_is_within : FnScope ["value", "least", "most"] ["value", "least", "most"] (defScope s_is_within) := ⟨rfl, rfl, rfl, by decide +kernel, rfl, by decide +kernel, by decide +kernel⟩
def b_is_within : MS := (sRet (mAndV (mAsB (mFn 1 m_is_integer (mCons (mVar 0) mNil))) (mChain (oCmp leI) (oCmp leI) (mVar 1) (mVar 0) (mVar 2))))
theorem bd_is_within (z : Z P w K mg base) (cdv : Value) (A : Around) (outer : List PySem.Env) (s : Shared) (H : Hp) (E : XK) (g : G) (C : Cxt (cxL P w K mg base ["value", "least", "most"] "is_within" (defScope s_is_within) (He.ga K "is_within") cdv A outer s H E) g (cls K) (T K) 1) :
    PSs (cxL P w K mg base ["value", "least", "most"] "is_within" (defScope s_is_within) (He.ga K "is_within") cdv A outer s H E) (defBody s_is_within) (tS g b_is_within) :=
    (ms_one (ms_ret (me_and (me_c C ((ok_is_integer z).mono (by omega)) (ma_cons (me_var 0) ma_nil)) (me_one (me_chain or_le or_le (me_var 1) (me_var 0) (me_var 2))))))
def m_is_within : Fn := runF 3 b_is_within
theorem ok_is_within (z : Z P w K mg base) : Cal P w K mg base (cls K) (T K) 2 "is_within" 3 m_is_within := by
  obtain ⟨fd, F⟩ := z.says.def_ 1 (d := d_is_within) rfl
  exact ⟨_, fd, ["value", "least", "most"], z.g_is_within, F.kp, FunD.bindsN F fun _ _ _ _ _ _ us hl => match us, hl with | [_, _, _], _ => rfl, rfl, md_c (k := 1) F sc_is_within rfl z.tk (bd_is_within z)⟩
abbrev s_is_tuple : Stmt := top 3
theorem sc_is_tuple : FnScope ["value", "many"] ["value", "many"] (defScope s_is_tuple) := ⟨rfl, rfl, rfl, by decide +kernel, rfl, by decide +kernel, by decide +kernel⟩
def b_is_tuple : MS := (sRet (mAndV (mAsB (mIsi "tuple" (mVar 0))) (m2 oEq2 (mCall fLen (mCons (mVar 0) mNil)) (mVar 1))))
theorem bd_is_tuple (z : Z P w K mg base) (cdv : Value) (A : Around) (outer : List PySem.Env) (s : Shared) (H : Hp) (E : XK) (g : G) (C : Cxt (cxL P w K mg base ["value", "many"] "is_tuple" (defScope s_is_tuple) (He.ga K "is_tuple") cdv A outer s H E) g (cls K) (T K) 0) :
    PSs (cxL P w K mg base ["value", "many"] "is_tuple" (defScope s_is_tuple) (He.ga K "is_tuple") cdv A outer s H E) (defBody s_is_tuple) (tS g b_is_tuple) :=
    (ms_one (ms_ret (me_and (me_isi' z.f_isinstance z.f_tuple (me_var 0)) (me_one (me_cmp (or_eq2 C) (me_len z.f_len (ma_cons (me_var 0) ma_nil)) (me_var 1))))))
def m_is_tuple : Fn := runF 2 b_is_tuple
theorem ok_is_tuple (z : Z P w K mg base) : Cal P w K mg base (cls K) (T K) 1 "is_tuple" 2 m_is_tuple := by
  obtain ⟨fd, F⟩ := z.says.def_ 2 (d := d_is_tuple) rfl
  exact ⟨_, fd, ["value", "many"], z.g_is_tuple, F.kp, FunD.bindsN F fun _ _ _ _ _ _ us hl => match us, hl with | [_, _], _ => rfl, rfl, md_c (k := 0) F sc_is_tuple rfl z.tk (bd_is_tuple z)⟩
abbrev s_is_pair_of : Stmt := top 10
theorem sc_is_pair_of : FnScope ["runners", "value", "one"] ["runners", "value"] (defScope s_is_pair_of) := ⟨rfl, rfl, rfl, by decide +kernel, rfl, by decide +kernel, by decide +kernel⟩
def b_is_pair_of : MS := (sRet (mAndV (mAsB (mFn 2 m_is_tuple (mCons (mVar 1) (mCons (mC (.int 2)) mNil)))) (mAndV (mAsB (mCall fAll (mCons (mLc (mSrc (mVar 1)) (tName 2) mYes (mFn 3 m_is_within (mCons (mVar 2) (mCons (mC (.int 0)) (mCons (m2 oSub (mVar 0) (mC (.int 1))) mNil)))) [2]) mNil))) (m2 oNe2 (m2 oIx (mVar 1) (mC (.int 0))) (m2 oIx (mVar 1) (mC (.int 1)))))))
theorem bd_is_pair_of (z : Z P w K mg base) (cdv : Value) (A : Around) (outer : List PySem.Env) (s : Shared) (H : Hp) (E : XK) (g : G) (C : Cxt (cxL P w K mg base ["runners", "value", "one"] "is_pair_of" (defScope s_is_pair_of) (He.ga K "is_pair_of") cdv A outer s H E) g (cls K) (T K) 2) :
    PSs (cxL P w K mg base ["runners", "value", "one"] "is_pair_of" (defScope s_is_pair_of) (He.ga K "is_pair_of") cdv A outer s H E) (defBody s_is_pair_of) (tS g b_is_pair_of) :=
    (ms_one (ms_ret (me_and (me_c C ((ok_is_tuple z).mono (by omega)) (ma_cons (me_var 1) (ma_cons me_int ma_nil))) (me_and (me_all C z.f_all (ma_cons (me_lc C.calm C.N (blkOk_by (own := [("one", 2)]) (by kernel_rfl)) (mi_seq (me_var 1)) (fun _ _ _ _ _ _ h0 => (mg_name 2 (C.blk h0).N)) (fun _ _ _ _ _ => mc_nil) (fun _ _ _ _ _ _ h0 => (me_c (C.blk h0) ((ok_is_within z).mono (by omega)) (ma_cons (me_var 2) (ma_cons me_int (ma_cons (me_op or_sub (me_var 0) me_int) ma_nil)))))) ma_nil)) (me_one (me_cmp (or_ne2 C) (me_ix or_ix (me_var 1) me_int) (me_ix or_ix (me_var 1) me_int)))))))
def m_is_pair_of : Fn := runF 3 b_is_pair_of
theorem ok_is_pair_of (z : Z P w K mg base) : Cal P w K mg base (cls K) (T K) 3 "is_pair_of" 2 m_is_pair_of := by
  obtain ⟨fd, F⟩ := z.says.def_ 3 (d := d_is_pair_of) rfl
  exact ⟨_, fd, ["runners", "value"], z.g_is_pair_of, F.kp, FunD.bindsN F fun _ _ _ _ _ _ us hl => match us, hl with | [_, _], _ => rfl, rfl, md_c (k := 2) F sc_is_pair_of rfl z.tk (bd_is_pair_of z)⟩
abbrev s_is_closed : Stmt := top 11
theorem sc_is_closed : FnScope ["pairs", "a", "b", "c", "d"] ["pairs"] (defScope s_is_closed) := ⟨rfl, rfl, rfl, by decide +kernel, rfl, by decide +kernel, by decide +kernel⟩
def b_is_closed : MS := (sSeq (sFor (mSrc (mVar 0)) (tTupT 2 (tsCons (tName 1) (tsCons (tName 2) tsNil))) (sSeq (sIf (mAsB (m2 oInS (mTup (mCons (mVar 2) (mCons (mVar 1) mNil))) (mVar 0))) (sRet (mC (.bool false))) sNil)
  (sIf (mAsB (mCall fAny (mCons (mLc (mSrc (mVar 0)) (tTupT 2 (tsCons (tName 3) (tsCons (tName 4) tsNil))) mYes (mAndV (mAsB (m2 oEq2 (mVar 2) (mVar 3))) (m2 oNotIn (mTup (mCons (mVar 1) (mCons (mVar 4) mNil))) (mVar 0))) [3, 4]) mNil))) (sRet (mC (.bool false))) sNil)))
  (sRet (mC (.bool true))))
theorem bd_is_closed (z : Z P w K mg base) (cdv : Value) (A : Around) (outer : List PySem.Env) (s : Shared) (H : Hp) (E : XK) (g : G) (C : Cxt (cxL P w K mg base ["pairs", "a", "b", "c", "d"] "is_closed" (defScope s_is_closed) (He.ga K "is_closed") cdv A outer s H E) g (cls K) (T K) 0) :
    PSs (cxL P w K mg base ["pairs", "a", "b", "c", "d"] "is_closed" (defScope s_is_closed) (He.ga K "is_closed") cdv A outer s H E) (defBody s_is_closed) (tS g b_is_closed) :=
    (ms_cons (ms_for C.own C.calm (mi_seq (me_var 0)) (mg_tup 2 C.calm (mgs_cons (mg_name 1 C.N) (mgs_cons (mg_name 2 C.N) mgs_nil))) (ms_cons (ms_if (mt_cmp (or_in C.u) (me_tup (ma_cons (me_var 2) (ma_cons (me_var 1) ma_nil))) (me_var 0)) (ms_one (ms_ret me_bl)) ms_nil)
    (ms_one (ms_if (mt_val (me_any C z.f_any (ma_cons (me_lc C.calm C.N (blkOk_by (own := [("c", 3), ("d", 4)]) (by kernel_rfl)) (mi_seq (me_var 0)) (fun _ _ _ _ _ _ h0 => (mg_tup 2 (C.blk h0).calm (mgs_cons (mg_name 3 (C.blk h0).N) (mgs_cons (mg_name 4 (C.blk h0).N) mgs_nil)))) (fun _ _ _ _ _ => mc_nil) (fun _ _ _ _ _ _ h0 => (me_and (me_cmp (or_eq2 (C.blk h0)) (me_var 2) (me_var 3)) (me_one (me_cmp (or_notIn (C.blk h0).u) (me_tup (ma_cons (me_var 1) (ma_cons (me_var 4) ma_nil))) (me_var 0)))))) ma_nil))) (ms_one (ms_ret me_bl)) ms_nil))))
    (ms_one (ms_ret me_bl)))
def m_is_closed : Fn := runF 5 b_is_closed
theorem ok_is_closed (z : Z P w K mg base) : Cal P w K mg base (cls K) (T K) 1 "is_closed" 1 m_is_closed := by
  obtain ⟨fd, F⟩ := z.says.def_ 4 (d := d_is_closed) rfl
  exact ⟨_, fd, ["pairs"], z.g_is_closed, F.kp, FunD.bindsN F fun _ _ _ _ _ _ us hl => match us, hl with | [_], _ => rfl, rfl, md_c (k := 0) F sc_is_closed rfl z.tk (bd_is_closed z)⟩
abbrev s_is_order_value : Stmt := top 12
theorem sc_is_order_value : FnScope ["value", "one", "near", "far"] ["value"] (defScope s_is_order_value) := ⟨rfl, rfl, rfl, by decide +kernel, rfl, by decide +kernel, by decide +kernel⟩
def b_is_order_value : MS := (sSeq (sIf (mOr (mNot (mAsB (mFn 2 m_is_tuple (mCons (mVar 0) (mCons (mC (.int 3)) mNil))))) (mOr (mNot (mAsB (mIsi "str" (m2 oIx (mVar 0) (mC (.int 0)))))) (mAsB (m2 oNe2 (m2 oIx (mVar 0) (mC (.int 0))) (mC (.str "order")))))) (sRet (mC (.bool false))) sNil)
  (sSeq (sIf (mOr (mNot (mAsB (mFn 3 m_is_within (mCons (m2 oIx (mVar 0) (mC (.int 1))) (mCons (mC (.int 1)) (mCons (mC (.int 10)) mNil)))))) (mNot (mAsB (mIsi "tuple" (m2 oIx (mVar 0) (mC (.int 2))))))) (sRet (mC (.bool false))) sNil)
  (sSeq (sIf (mNot (mAsB (mCall fAll (mCons (mLc (mSrc (m2 oIx (mVar 0) (mC (.int 2)))) (tName 1) mYes (mFn 2 m_is_pair_of (mCons (m2 oIx (mVar 0) (mC (.int 1))) (mCons (mVar 1) mNil))) [1]) mNil)))) (sRet (mC (.bool false))) sNil)
  (sRet (mAndV (mAsB (mCall fAll (mCons (mLc (mSrcZ (mCons (m2 oIx (mVar 0) (mC (.int 2))) (mCons (mSlice (m2 oIx (mVar 0) (mC (.int 2))) (mSome (mC (.int 1))) mNo) mNil))) (tTupT 2 (tsCons (tName 2) (tsCons (tName 3) tsNil))) mYes (m2 oLt (mVar 2) (mVar 3)) [2, 3]) mNil))) (mFn 1 m_is_closed (mCons (m2 oIx (mVar 0) (mC (.int 2))) mNil)))))))
theorem bd_is_order_value (z : Z P w K mg base) (cdv : Value) (A : Around) (outer : List PySem.Env) (s : Shared) (H : Hp) (E : XK) (g : G) (C : Cxt (cxL P w K mg base ["value", "one", "near", "far"] "is_order_value" (defScope s_is_order_value) (He.ga K "is_order_value") cdv A outer s H E) g (cls K) (T K) 3) :
    PSs (cxL P w K mg base ["value", "one", "near", "far"] "is_order_value" (defScope s_is_order_value) (He.ga K "is_order_value") cdv A outer s H E) (defBody s_is_order_value) (tS g b_is_order_value) :=
    (ms_cons (ms_if (mt_w (mw_or (mt_not (mt_val (me_c C ((ok_is_tuple z).mono (by omega)) (ma_cons (me_var 0) (ma_cons me_int ma_nil))))) (mw_or (mt_not (mt_val (me_isi' z.f_isinstance z.f_str (me_ix or_ix (me_var 0) me_int)))) (mw_or1 (mt_cmp (or_ne2 C) (me_ix or_ix (me_var 0) me_int) me_str))))) (ms_one (ms_ret me_bl)) ms_nil)
    (ms_cons (ms_if (mt_w (mw_or (mt_not (mt_val (me_c C ((ok_is_within z).mono (by omega)) (ma_cons (me_ix or_ix (me_var 0) me_int) (ma_cons me_int (ma_cons (me_glob rfl z.c_MOST_RUNNERS) ma_nil)))))) (mw_or1 (mt_not (mt_val (me_isi' z.f_isinstance z.f_tuple (me_ix or_ix (me_var 0) me_int))))))) (ms_one (ms_ret me_bl)) ms_nil)
    (ms_cons (ms_if (mt_not (mt_val (me_all C z.f_all (ma_cons (me_lc C.calm C.N (blkOk_by (own := [("one", 1)]) (by kernel_rfl)) (mi_seq (me_ix or_ix (me_var 0) me_int)) (fun _ _ _ _ _ _ h0 => (mg_name 1 (C.blk h0).N)) (fun _ _ _ _ _ => mc_nil) (fun _ _ _ _ _ _ h0 => (me_c (C.blk h0) ((ok_is_pair_of z).mono (by omega)) (ma_cons (me_ix or_ix (me_var 0) me_int) (ma_cons (me_var 1) ma_nil))))) ma_nil)))) (ms_one (ms_ret me_bl)) ms_nil)
    (ms_one (ms_ret (me_and (me_all C z.f_all (ma_cons (me_lc C.calm C.N (blkOk_by (own := [("near", 2), ("far", 3)]) (by kernel_rfl)) (mi_zip z.f_zip (ma_cons (me_ix or_ix (me_var 0) me_int) (ma_cons (me_slice (me_ix or_ix (me_var 0) me_int) (mo_some me_int) mo_none) ma_nil))) (fun _ _ _ _ _ _ h1 => (mg_tup 2 (C.blk h1).calm (mgs_cons (mg_name 2 (C.blk h1).N) (mgs_cons (mg_name 3 (C.blk h1).N) mgs_nil)))) (fun _ _ _ _ _ => mc_nil) (fun _ _ _ _ _ _ h1 => (me_cmp (or_lt (C.blk h1).u0) (me_var 2) (me_var 3)))) ma_nil)) (me_one (me_c C ((ok_is_closed z).mono (by omega)) (ma_cons (me_ix or_ix (me_var 0) me_int) ma_nil)))))))))
def m_is_order_value : Fn := runF 4 b_is_order_value
theorem ok_is_order_value (z : Z P w K mg base) : Cal P w K mg base (cls K) (T K) 4 "is_order_value" 1 m_is_order_value := by
  obtain ⟨fd, F⟩ := z.says.def_ 5 (d := d_is_order_value) rfl
  exact ⟨_, fd, ["value"], z.g_is_order_value, F.kp, FunD.bindsN F fun _ _ _ _ _ _ us hl => match us, hl with | [_], _ => rfl, rfl, md_c (k := 3) F sc_is_order_value rfl z.tk (bd_is_order_value z)⟩
abbrev s_want_order : Stmt := top 13
theorem sc_want_order : FnScope ["order"] ["order"] (defScope s_want_order) := ⟨rfl, rfl, rfl, by decide +kernel, rfl, by decide +kernel, by decide +kernel⟩
def b_want_order : MS := (sIf (mNot (mAsB (mFn 1 m_is_order_value (mCons (mVar 0) mNil)))) (sRaise 1 (mCons (mVar 0) mNil)) sNil)
theorem bd_want_order (z : Z P w K mg base) (cdv : Value) (A : Around) (outer : List PySem.Env) (s : Shared) (H : Hp) (E : XK) (g : G) (C : Cxt (cxL P w K mg base ["order"] "want_order" (defScope s_want_order) (He.ga K "want_order") cdv A outer s H E) g (cls K) (T K) 4) :
    PSs (cxL P w K mg base ["order"] "want_order" (defScope s_want_order) (He.ga K "want_order") cdv A outer s H E) (defBody s_want_order) (tS g b_want_order) :=
    (ms_one (ms_if (mt_not (mt_val (me_c C ((ok_is_order_value z).mono (by omega)) (ma_cons (me_var 0) ma_nil)))) (ms_one (ms_raise 1 C (z.x_InvalidOrder _) (ma_cons (me_var 0) ma_nil))) ms_nil))
def m_want_order : Fn := runF 1 b_want_order
theorem ok_want_order (z : Z P w K mg base) : Cal P w K mg base (cls K) (T K) 5 "want_order" 1 m_want_order := by
  obtain ⟨fd, F⟩ := z.says.def_ 6 (d := d_want_order) rfl
  exact ⟨_, fd, ["order"], z.g_want_order, F.kp, FunD.bindsN F fun _ _ _ _ _ _ us hl => match us, hl with | [_], _ => rfl, rfl, md_c (k := 4) F sc_want_order rfl z.tk (bd_want_order z)⟩
abbrev s_made : Stmt := top 14
theorem sc_made : FnScope ["runners", "pairs"] ["runners", "pairs"] (defScope s_made) := ⟨rfl, rfl, rfl, by decide +kernel, rfl, by decide +kernel, by decide +kernel⟩
def b_made : MS := (sRet (mTup (mCons (mC (.str "order")) (mCons (mVar 0) (mCons (mCall fTuple (mCons (mCall fSorted (mCons (mVar 1) mNil)) mNil)) mNil)))))
theorem bd_made (z : Z P w K mg base) (cdv : Value) (A : Around) (outer : List PySem.Env) (s : Shared) (H : Hp) (E : XK) (g : G) (C : Cxt (cxL P w K mg base ["runners", "pairs"] "made" (defScope s_made) (He.ga K "made") cdv A outer s H E) g (cls K) (T K) 0) :
    PSs (cxL P w K mg base ["runners", "pairs"] "made" (defScope s_made) (He.ga K "made") cdv A outer s H E) (defBody s_made) (tS g b_made) :=
    (ms_one (ms_ret (me_tup (ma_cons me_str (ma_cons (me_var 0) (ma_cons (me_tuple z.f_tuple (ma_cons (me_sorted C z.f_sorted (ma_cons (me_var 1) ma_nil)) ma_nil)) ma_nil))))))
def m_made : Fn := runF 2 b_made
theorem ok_made (z : Z P w K mg base) : Cal P w K mg base (cls K) (T K) 1 "made" 2 m_made := by
  obtain ⟨fd, F⟩ := z.says.def_ 7 (d := d_made) rfl
  exact ⟨_, fd, ["runners", "pairs"], z.g_made, F.kp, FunD.bindsN F fun _ _ _ _ _ _ us hl => match us, hl with | [_, _], _ => rfl, rfl, md_c (k := 0) F sc_made rfl z.tk (bd_made z)⟩
abbrev s_are_apart : Stmt := top 15
theorem sc_are_apart : FnScope ["order", "one", "other"] ["order", "one", "other"] (defScope s_are_apart) := ⟨rfl, rfl, rfl, by decide +kernel, rfl, by decide +kernel, by decide +kernel⟩
def b_are_apart : MS := (sRet (mAndV (mAsB (m2 oNe2 (mVar 1) (mVar 2))) (mAndV (mAsB (m2 oNotIn (mTup (mCons (mVar 1) (mCons (mVar 2) mNil))) (m2 oIx (mVar 0) (mC (.int 2))))) (m2 oNotIn (mTup (mCons (mVar 2) (mCons (mVar 1) mNil))) (m2 oIx (mVar 0) (mC (.int 2)))))))
theorem bd_are_apart (z : Z P w K mg base) (cdv : Value) (A : Around) (outer : List PySem.Env) (s : Shared) (H : Hp) (E : XK) (g : G) (C : Cxt (cxL P w K mg base ["order", "one", "other"] "are_apart" (defScope s_are_apart) (He.ga K "are_apart") cdv A outer s H E) g (cls K) (T K) 0) :
    PSs (cxL P w K mg base ["order", "one", "other"] "are_apart" (defScope s_are_apart) (He.ga K "are_apart") cdv A outer s H E) (defBody s_are_apart) (tS g b_are_apart) :=
    (ms_one (ms_ret (me_and (me_cmp (or_ne2 C) (me_var 1) (me_var 2)) (me_and (me_cmp (or_notIn C.u) (me_tup (ma_cons (me_var 1) (ma_cons (me_var 2) ma_nil))) (me_ix or_ix (me_var 0) me_int)) (me_one (me_cmp (or_notIn C.u) (me_tup (ma_cons (me_var 2) (ma_cons (me_var 1) ma_nil))) (me_ix or_ix (me_var 0) me_int)))))))
def m_are_apart : Fn := runF 3 b_are_apart
theorem ok_are_apart (z : Z P w K mg base) : Cal P w K mg base (cls K) (T K) 1 "are_apart" 3 m_are_apart := by
  obtain ⟨fd, F⟩ := z.says.def_ 8 (d := d_are_apart) rfl
  exact ⟨_, fd, ["order", "one", "other"], z.g_are_apart, F.kp, FunD.bindsN F fun _ _ _ _ _ _ us hl => match us, hl with | [_, _, _], _ => rfl, rfl, md_c (k := 0) F sc_are_apart rfl z.tk (bd_are_apart z)⟩
abbrev s_runners_of : Stmt := top 19
theorem sc_runners_of : FnScope ["building", "found", "one"] ["building"] (defScope s_runners_of) := ⟨rfl, rfl, rfl, by decide +kernel, rfl, by decide +kernel, by decide +kernel⟩
def b_runners_of (r : Fn) : MS := (sSeq (sIf (mNot (mAsB (mIsi "tuple" (mVar 0)))) (sRet (mLst (mCons (mVar 0) mNil))) sNil)
  (sSeq (sSet 1 (mLst mNil))
  (sSeq (sFor (mSrc (m2 oIx (mVar 0) (mC (.int 1)))) (tName 2) (sExpr (mMeth fExtend (mVar 1) (mCons (mFn 1 r (mCons (mVar 2) mNil)) mNil))))
  (sRet (mVar 1)))))
def m_runners_of : Nat → Fn
  | 0 => fun _ => .bad
  | n + 1 => runF 3 (b_runners_of (m_runners_of n))
theorem ok_runners_of (z : Z P w K mg base) : ∀ n : Nat, Cal P w K mg base (cls K) (T K) (0 + n) "runners_of" 1 (m_runners_of n)
  | 0 => by
    obtain ⟨fd, F⟩ := z.says.def_ 9 (d := d_runners_of) rfl
    exact Cal.bad z.g_runners_of F.kp (FunD.bindsN (ps := ["building"]) F fun _ _ _ _ _ _ us hl => match us, hl with | [_], _ => rfl) rfl
  | n + 1 => by
    obtain ⟨fd, F⟩ := z.says.def_ 9 (d := d_runners_of) rfl
    have hr := ok_runners_of z n
    refine ⟨_, fd, ["building"], z.g_runners_of, F.kp, FunD.bindsN F fun _ _ _ _ _ _ us hl => match us, hl with | [_], _ => rfl, rfl, ?_⟩
    exact md_c (k := 0 + n) F sc_runners_of rfl z.tk fun cdv A outer s H E g C =>
    (ms_cons (ms_if (mt_not (mt_val (me_isi' z.f_isinstance z.f_tuple (me_var 0)))) (ms_one (ms_ret (me_lst (ma_cons (me_var 0) ma_nil)))) ms_nil)
    (ms_cons (ms_set 1 C.N (me_lst ma_nil))
    (ms_cons (ms_for C.own C.calm (mi_seq (me_ix or_ix (me_var 0) me_int)) (mg_name 2 C.N) (ms_one (ms_expr (me_extend (me_var 1) (ma_cons (me_c C hr (ma_cons (me_var 2) ma_nil)) ma_nil)))))
    (ms_one (ms_ret (me_var 1))))))
abbrev s_pairs_of : Stmt := top 20
theorem sc_pairs_of : FnScope ["building", "found", "ahead", "one", "here", "near", "far"] ["building"] (defScope s_pairs_of) := ⟨rfl, rfl, rfl, by decide +kernel, rfl, by decide +kernel, by decide +kernel⟩
def b_pairs_of (r : Fn) : MS := (sSeq (sIf (mNot (mAsB (mIsi "tuple" (mVar 0)))) (sRet (mLst mNil)) sNil)
  (sSeq (sPar 1 2 (mCons (mLst mNil) (mCons (mLst mNil) mNil)))
  (sSeq (sFor (mSrc (m2 oIx (mVar 0) (mC (.int 1)))) (tName 3) (sSeq (sExpr (mMeth fExtend (mVar 1) (mCons (mFn 1 r (mCons (mVar 3) mNil)) mNil)))
  (sSeq (sSet 4 (mFn 1 (m_runners_of 4) (mCons (mVar 3) mNil)))
  (sSeq (sIf (mAsB (m2 oEq2 (m2 oIx (mVar 0) (mC (.int 0))) (mC (.str "after")))) (sFor (mSrc (mVar 2)) (tName 5) (sExpr (mMeth fExtend (mVar 1) (mCons (mLc (mSrc (mVar 4)) (tName 6) mYes (mTup (mCons (mVar 5) (mCons (mVar 6) mNil))) [6]) mNil)))) sNil)
  (sSet 2 (m2 oAdd (mVar 2) (mVar 4)))))))
  (sRet (mVar 1)))))
def m_pairs_of : Nat → Fn
  | 0 => fun _ => .bad
  | n + 1 => runF 7 (b_pairs_of (m_pairs_of n))
theorem ok_pairs_of (z : Z P w K mg base) : ∀ n : Nat, Cal P w K mg base (cls K) (T K) (4 + n) "pairs_of" 1 (m_pairs_of n)
  | 0 => by
    obtain ⟨fd, F⟩ := z.says.def_ 10 (d := d_pairs_of) rfl
    exact Cal.bad z.g_pairs_of F.kp (FunD.bindsN (ps := ["building"]) F fun _ _ _ _ _ _ us hl => match us, hl with | [_], _ => rfl) rfl
  | n + 1 => by
    obtain ⟨fd, F⟩ := z.says.def_ 10 (d := d_pairs_of) rfl
    have hr := ok_pairs_of z n
    refine ⟨_, fd, ["building"], z.g_pairs_of, F.kp, FunD.bindsN F fun _ _ _ _ _ _ us hl => match us, hl with | [_], _ => rfl, rfl, ?_⟩
    exact md_c (k := 4 + n) F sc_pairs_of rfl z.tk fun cdv A outer s H E g C =>
    (ms_cons (ms_if (mt_not (mt_val (me_isi' z.f_isinstance z.f_tuple (me_var 0)))) (ms_one (ms_ret (me_lst ma_nil))) ms_nil)
    (ms_cons (ms_par 1 2 C.calm C.N (ma_cons (me_lst ma_nil) (ma_cons (me_lst ma_nil) ma_nil)))
    (ms_cons (ms_for C.own C.calm (mi_seq (me_ix or_ix (me_var 0) me_int)) (mg_name 3 C.N) (ms_cons (ms_expr (me_extend (me_var 1) (ma_cons (me_c C hr (ma_cons (me_var 3) ma_nil)) ma_nil)))
    (ms_cons (ms_set 4 C.N (me_c C ((ok_runners_of z 4).mono (by omega)) (ma_cons (me_var 3) ma_nil)))
    (ms_cons (ms_if (mt_cmp (or_eq2 C) (me_ix or_ix (me_var 0) me_int) (me_globS rfl z.c_AFTER)) (ms_one (ms_for C.own C.calm (mi_seq (me_var 2)) (mg_name 5 C.N) (ms_one (ms_expr (me_extend (me_var 1) (ma_cons (me_lc C.calm C.N (blkOk_by (own := [("far", 6)]) (by kernel_rfl)) (mi_seq (me_var 4)) (fun _ _ _ _ _ _ h0 => (mg_name 6 (C.blk h0).N)) (fun _ _ _ _ _ => mc_nil) (fun _ _ _ _ _ _ h0 => (me_tup (ma_cons (me_var 5) (ma_cons (me_var 6) ma_nil))))) ma_nil)))))) ms_nil)
    (ms_one (ms_set 2 C.N (me_op or_add (me_var 2) (me_var 4))))))))
    (ms_one (ms_ret (me_var 1))))))
abbrev s_is_put : Stmt := top 21
theorem sc_is_put : FnScope ["value"] ["value"] (defScope s_is_put) := ⟨rfl, rfl, rfl, by decide +kernel, rfl, by decide +kernel, by decide +kernel⟩
def b_is_put : MS := (sSeq (sIf (mOr (mNot (mAsB (mFn 2 m_is_tuple (mCons (mVar 0) (mCons (mC (.int 2)) mNil))))) (mOr (mNot (mAsB (mIsi "str" (m2 oIx (mVar 0) (mC (.int 0)))))) (mAsB (m2 oNotIn (m2 oIx (mVar 0) (mC (.int 0))) (mTup (mCons (mC (.str "beside")) (mCons (mC (.str "after")) mNil))))))) (sRet (mC (.bool false))) sNil)
  (sRet (mAndV (mAsB (mIsi "tuple" (m2 oIx (mVar 0) (mC (.int 1))))) (m2 (oCmp gtI) (mCall fLen (mCons (m2 oIx (mVar 0) (mC (.int 1))) mNil)) (mC (.int 1))))))
theorem bd_is_put (z : Z P w K mg base) (cdv : Value) (A : Around) (outer : List PySem.Env) (s : Shared) (H : Hp) (E : XK) (g : G) (C : Cxt (cxL P w K mg base ["value"] "is_put" (defScope s_is_put) (He.ga K "is_put") cdv A outer s H E) g (cls K) (T K) 1) :
    PSs (cxL P w K mg base ["value"] "is_put" (defScope s_is_put) (He.ga K "is_put") cdv A outer s H E) (defBody s_is_put) (tS g b_is_put) :=
    (ms_cons (ms_if (mt_w (mw_or (mt_not (mt_val (me_c C ((ok_is_tuple z).mono (by omega)) (ma_cons (me_var 0) (ma_cons me_int ma_nil))))) (mw_or (mt_not (mt_val (me_isi' z.f_isinstance z.f_str (me_ix or_ix (me_var 0) me_int)))) (mw_or1 (mt_cmp (or_notIn C.u) (me_ix or_ix (me_var 0) me_int) (me_tup (ma_cons (me_globS rfl z.c_BESIDE) (ma_cons (me_globS rfl z.c_AFTER) ma_nil)))))))) (ms_one (ms_ret me_bl)) ms_nil)
    (ms_one (ms_ret (me_and (me_isi' z.f_isinstance z.f_tuple (me_ix or_ix (me_var 0) me_int)) (me_one (me_cmp or_gt (me_len z.f_len (ma_cons (me_ix or_ix (me_var 0) me_int) ma_nil)) me_int))))))
def m_is_put : Fn := runF 1 b_is_put
theorem ok_is_put (z : Z P w K mg base) : Cal P w K mg base (cls K) (T K) 2 "is_put" 1 m_is_put := by
  obtain ⟨fd, F⟩ := z.says.def_ 11 (d := d_is_put) rfl
  exact ⟨_, fd, ["value"], z.g_is_put, F.kp, FunD.bindsN F fun _ _ _ _ _ _ us hl => match us, hl with | [_], _ => rfl, rfl, md_c (k := 1) F sc_is_put rfl z.tk (bd_is_put z)⟩
abbrev s_is_of_all : Stmt := top 22
theorem sc_is_of_all : FnScope ["value", "runners", "found", "left", "here"] ["value", "runners"] (defScope s_is_of_all) := ⟨rfl, rfl, rfl, by decide +kernel, rfl, by decide +kernel, by decide +kernel⟩
def b_is_of_all : MS := (sSeq (sPar 2 3 (mCons (mLst mNil) (mCons (mLst (mCons (mVar 0) mNil)) mNil)))
  (sSeq (sWhile (mAsB (m2 oNe2 (mVar 3) (mLst mNil))) (sSeq (sSet 4 (mMeth0 fPop (mVar 3)))
  (sSeq (sIf (mAsB (mFn 3 m_is_within (mCons (mVar 4) (mCons (mC (.int 0)) (mCons (m2 oSub (mVar 1) (mC (.int 1))) mNil))))) (sExpr (mMeth fAppend (mVar 2) (mCons (mVar 4) mNil))) (sIf (mAsB (mFn 1 m_is_put (mCons (mVar 4) mNil))) (sExpr (mMeth fExtend (mVar 3) (mCons (mCall fList (mCons (m2 oIx (mVar 4) (mC (.int 1))) mNil)) mNil))) (sRet (mC (.bool false)))))
  (sIf (mAsB (m2 (oCmp gtI) (m2 oAdd (mCall fLen (mCons (mVar 2) mNil)) (mCall fLen (mCons (mVar 3) mNil))) (mVar 1))) (sRet (mC (.bool false))) sNil))) 60)
  (sRet (m2 oEq2 (mCall fSorted (mCons (mVar 2) mNil)) (mRg1 mkL (mVar 1))))))
theorem bd_is_of_all (z : Z P w K mg base) (cdv : Value) (A : Around) (outer : List PySem.Env) (s : Shared) (H : Hp) (E : XK) (g : G) (C : Cxt (cxL P w K mg base ["value", "runners", "found", "left", "here"] "is_of_all" (defScope s_is_of_all) (He.ga K "is_of_all") cdv A outer s H E) g (cls K) (T K) 2) :
    PSs (cxL P w K mg base ["value", "runners", "found", "left", "here"] "is_of_all" (defScope s_is_of_all) (He.ga K "is_of_all") cdv A outer s H E) (defBody s_is_of_all) (tS g b_is_of_all) :=
    (ms_cons (ms_par 2 3 C.calm C.N (ma_cons (me_lst ma_nil) (ma_cons (me_lst (ma_cons (me_var 0) ma_nil)) ma_nil)))
    (ms_cons (ms_while 60 C.own (mt_cmp (or_ne2 C) (me_var 3) (me_lst ma_nil)) (ms_cons (ms_set 4 C.N (me_pop0 (me_var 3)))
    (ms_cons (ms_if (mt_val (me_c C ((ok_is_within z).mono (by omega)) (ma_cons (me_var 4) (ma_cons me_int (ma_cons (me_op or_sub (me_var 1) me_int) ma_nil))))) (ms_one (ms_expr (me_append (me_var 2) (ma_cons (me_var 4) ma_nil)))) (ms_one (ms_if (mt_val (me_c C ((ok_is_put z).mono (by omega)) (ma_cons (me_var 4) ma_nil))) (ms_one (ms_expr (me_extend (me_var 3) (ma_cons (me_list z.f_list (ma_cons (me_ix or_ix (me_var 4) me_int) ma_nil)) ma_nil)))) (ms_one (ms_ret me_bl)))))
    (ms_one (ms_if (mt_cmp or_gt (me_op or_add (me_len z.f_len (ma_cons (me_var 2) ma_nil)) (me_len z.f_len (ma_cons (me_var 3) ma_nil))) (me_var 1)) (ms_one (ms_ret me_bl)) ms_nil)))))
    (ms_one (ms_ret (me_cmp (or_eq2 C) (me_sorted C z.f_sorted (ma_cons (me_var 2) ma_nil)) (me_listRg1 C z.f_list z.f_range (me_var 1)))))))
def m_is_of_all : Fn := runF 5 b_is_of_all
theorem ok_is_of_all (z : Z P w K mg base) : Cal P w K mg base (cls K) (T K) 3 "is_of_all" 2 m_is_of_all := by
  obtain ⟨fd, F⟩ := z.says.def_ 12 (d := d_is_of_all) rfl
  exact ⟨_, fd, ["value", "runners"], z.g_is_of_all, F.kp, FunD.bindsN F fun _ _ _ _ _ _ us hl => match us, hl with | [_, _], _ => rfl, rfl, md_c (k := 2) F sc_is_of_all rfl z.tk (bd_is_of_all z)⟩
abbrev s_choose : Stmt := top 28
theorem sc_choose : FnScope ["many", "some", "found", "at"] ["many", "some"] (defScope s_choose) := ⟨rfl, rfl, rfl, by decide +kernel, rfl, by decide +kernel, by decide +kernel⟩
def b_choose : MS := (sSeq (sSet 2 (mC (.int 1)))
  (sSeq (sFor (mSrcR1 (mCons (mVar 1) mNil)) (tName 3) (sSet 2 (m2 oFdiv (m2 oMul (mVar 2) (m2 oSub (mVar 0) (mVar 3))) (m2 oAdd (mVar 3) (mC (.int 1))))))
  (sRet (mVar 2))))
theorem bd_choose (z : Z P w K mg base) (cdv : Value) (A : Around) (outer : List PySem.Env) (s : Shared) (H : Hp) (E : XK) (g : G) (C : Cxt (cxL P w K mg base ["many", "some", "found", "at"] "choose" (defScope s_choose) (He.ga K "choose") cdv A outer s H E) g (cls K) (T K) 0) :
    PSs (cxL P w K mg base ["many", "some", "found", "at"] "choose" (defScope s_choose) (He.ga K "choose") cdv A outer s H E) (defBody s_choose) (tS g b_choose) :=
    (ms_cons (ms_set 2 C.N me_int)
    (ms_cons (ms_for C.own C.calm (mi_range1 rfl z.f_range (ma_cons (me_var 1) ma_nil)) (mg_name 3 C.N) (ms_one (ms_set 2 C.N (me_op or_fdiv (me_op or_mul (me_var 2) (me_op or_sub (me_var 0) (me_var 3))) (me_op or_add (me_var 3) me_int)))))
    (ms_one (ms_ret (me_var 2)))))
def m_choose : Fn := runF 4 b_choose
theorem ok_choose (z : Z P w K mg base) : Cal P w K mg base (cls K) (T K) 1 "choose" 2 m_choose := by
  obtain ⟨fd, F⟩ := z.says.def_ 13 (d := d_choose) rfl
  exact ⟨_, fd, ["many", "some"], z.g_choose, F.kp, FunD.bindsN F fun _ _ _ _ _ _ us hl => match us, hl with | [_, _], _ => rfl, rfl, md_c (k := 0) F sc_choose rfl z.tk (bd_choose z)⟩
abbrev s_rankings_in : Stmt := top 29
theorem sc_rankings_in : FnScope ["building", "found", "many", "one", "more"] ["building"] (defScope s_rankings_in) := ⟨rfl, rfl, rfl, by decide +kernel, rfl, by decide +kernel, by decide +kernel⟩
def b_rankings_in (r : Fn) : MS := (sSeq (sIf (mNot (mAsB (mIsi "tuple" (mVar 0)))) (sRet (mC (.int 1))) sNil)
  (sSeq (sTupD [1, 2] (mCons (mC (.int 1)) (mCons (mC (.int 0)) mNil)))
  (sSeq (sFor (mSrc (m2 oIx (mVar 0) (mC (.int 1)))) (tName 3) (sSeq (sSet 4 (mCall fLen (mCons (mFn 1 (m_runners_of 4) (mCons (mVar 3) mNil)) mNil)))
  (sSeq (sSet 2 (m2 oAdd (mVar 2) (mVar 4)))
  (sSet 1 (m2 oMul (m2 oMul (mVar 1) (mFn 1 r (mCons (mVar 3) mNil))) (mIf (mAsB (m2 oEq2 (m2 oIx (mVar 0) (mC (.int 0))) (mC (.str "beside")))) (mFn 2 m_choose (mCons (mVar 2) (mCons (mVar 4) mNil))) (mC (.int 1))))))))
  (sRet (mVar 1)))))
def m_rankings_in : Nat → Fn
  | 0 => fun _ => .bad
  | n + 1 => runF 5 (b_rankings_in (m_rankings_in n))
theorem ok_rankings_in (z : Z P w K mg base) : ∀ n : Nat, Cal P w K mg base (cls K) (T K) (4 + n) "rankings_in" 1 (m_rankings_in n)
  | 0 => by
    obtain ⟨fd, F⟩ := z.says.def_ 14 (d := d_rankings_in) rfl
    exact Cal.bad z.g_rankings_in F.kp (FunD.bindsN (ps := ["building"]) F fun _ _ _ _ _ _ us hl => match us, hl with | [_], _ => rfl) rfl
  | n + 1 => by
    obtain ⟨fd, F⟩ := z.says.def_ 14 (d := d_rankings_in) rfl
    have hr := ok_rankings_in z n
    refine ⟨_, fd, ["building"], z.g_rankings_in, F.kp, FunD.bindsN F fun _ _ _ _ _ _ us hl => match us, hl with | [_], _ => rfl, rfl, ?_⟩
    exact md_c (k := 4 + n) F sc_rankings_in rfl z.tk fun cdv A outer s H E g C =>
    (ms_cons (ms_if (mt_not (mt_val (me_isi' z.f_isinstance z.f_tuple (me_var 0)))) (ms_one (ms_ret me_int)) ms_nil)
    (ms_cons (ms_tupD C.calm (ma_cons me_int (ma_cons me_int ma_nil)) (gds_cons 1 C.N (gds_cons 2 C.N gds_nil)) (hl := fun _ _ _ h => setAll_len h))
    (ms_cons (ms_for C.own C.calm (mi_seq (me_ix or_ix (me_var 0) me_int)) (mg_name 3 C.N) (ms_cons (ms_set 4 C.N (me_len z.f_len (ma_cons (me_c C ((ok_runners_of z 4).mono (by omega)) (ma_cons (me_var 3) ma_nil)) ma_nil)))
    (ms_cons (ms_set 2 C.N (me_op or_add (me_var 2) (me_var 4)))
    (ms_one (ms_set 1 C.N (me_op or_mul (me_op or_mul (me_var 1) (me_c C hr (ma_cons (me_var 3) ma_nil))) (me_if (mt_cmp (or_eq2 C) (me_ix or_ix (me_var 0) me_int) (me_globS rfl z.c_BESIDE)) (me_c C ((ok_choose z).mono (by omega)) (ma_cons (me_var 2) (ma_cons (me_var 4) ma_nil))) me_int)))))))
    (ms_one (ms_ret (me_var 1))))))
abbrev s_lots_in : Stmt := top 30
theorem sc_lots_in : FnScope ["building", "some", "found", "one"] ["building"] (defScope s_lots_in) := ⟨rfl, rfl, rfl, by decide +kernel, rfl, by decide +kernel, by decide +kernel⟩
def b_lots_in (r : Fn) : MS := (sSeq (sIf (mNot (mAsB (mIsi "tuple" (mVar 0)))) (sRet (mC (.int 2))) sNil)
  (sSeq (sSet 1 (mLc (mSrc (m2 oIx (mVar 0) (mC (.int 1)))) (tName 3) mYes (mFn 1 r (mCons (mVar 3) mNil)) [3]))
  (sSeq (sIf (mAsB (m2 oEq2 (m2 oIx (mVar 0) (mC (.int 0))) (mC (.str "after")))) (sRet (m2 oSub (mCall fSum (mCons (mVar 1) mNil)) (m2 oSub (mCall fLen (mCons (mVar 1) mNil)) (mC (.int 1))))) sNil)
  (sSeq (sSet 2 (mC (.int 1)))
  (sSeq (sFor (mSrc (mVar 1)) (tName 3) (sSet 2 (m2 oMul (mVar 2) (mVar 3))))
  (sRet (mVar 2)))))))
def m_lots_in : Nat → Fn
  | 0 => fun _ => .bad
  | n + 1 => runF 4 (b_lots_in (m_lots_in n))
theorem ok_lots_in (z : Z P w K mg base) : ∀ n : Nat, Cal P w K mg base (cls K) (T K) (0 + n) "lots_in" 1 (m_lots_in n)
  | 0 => by
    obtain ⟨fd, F⟩ := z.says.def_ 15 (d := d_lots_in) rfl
    exact Cal.bad z.g_lots_in F.kp (FunD.bindsN (ps := ["building"]) F fun _ _ _ _ _ _ us hl => match us, hl with | [_], _ => rfl) rfl
  | n + 1 => by
    obtain ⟨fd, F⟩ := z.says.def_ 15 (d := d_lots_in) rfl
    have hr := ok_lots_in z n
    refine ⟨_, fd, ["building"], z.g_lots_in, F.kp, FunD.bindsN F fun _ _ _ _ _ _ us hl => match us, hl with | [_], _ => rfl, rfl, ?_⟩
    exact md_c (k := 0 + n) F sc_lots_in rfl z.tk fun cdv A outer s H E g C =>
    (ms_cons (ms_if (mt_not (mt_val (me_isi' z.f_isinstance z.f_tuple (me_var 0)))) (ms_one (ms_ret me_int)) ms_nil)
    (ms_cons (ms_setLc 1 C.calm C.N rfl (blkOk_by (own := [("one", 3)]) (by kernel_rfl)) (mi_seq (me_ix or_ix (me_var 0) me_int)) (fun _ _ _ _ _ _ h0 => (mg_name 3 (C.blk h0).N)) (fun _ _ _ _ _ => mc_nil) (fun _ _ _ _ _ _ h0 => (me_c (C.blk h0) hr (ma_cons (me_var 3) ma_nil))))
    (ms_cons (ms_if (mt_cmp (or_eq2 C) (me_ix or_ix (me_var 0) me_int) (me_globS rfl z.c_AFTER)) (ms_one (ms_ret (me_op or_sub (me_sum C z.f_sum (ma_cons (me_var 1) ma_nil)) (me_op or_sub (me_len z.f_len (ma_cons (me_var 1) ma_nil)) me_int)))) ms_nil)
    (ms_cons (ms_set 2 C.N me_int)
    (ms_cons (ms_for C.own C.calm (mi_seq (me_var 1)) (mg_name 3 C.N) (ms_one (ms_set 2 C.N (me_op or_mul (me_var 2) (me_var 3)))))
    (ms_one (ms_ret (me_var 2))))))))
abbrev s_greatest_in : Stmt := top 31
theorem sc_greatest_in : FnScope ["building", "word", "some", "one"] ["building", "word"] (defScope s_greatest_in) := ⟨rfl, rfl, rfl, by decide +kernel, rfl, by decide +kernel, by decide +kernel⟩
def b_greatest_in (r : Fn) : MS := (sSeq (sIf (mNot (mAsB (mIsi "tuple" (mVar 0)))) (sRet (mC (.int 1))) sNil)
  (sSeq (sSet 2 (mLc (mSrc (m2 oIx (mVar 0) (mC (.int 1)))) (tName 3) mYes (mFn 2 r (mCons (mVar 3) (mCons (mVar 1) mNil))) [3]))
  (sRet (mIf (mAsB (m2 oEq2 (m2 oIx (mVar 0) (mC (.int 0))) (mVar 1))) (mCall fSum (mCons (mVar 2) mNil)) (mCall (fBest maxP max2) (mCons (mVar 2) mNil))))))
def m_greatest_in : Nat → Fn
  | 0 => fun _ => .bad
  | n + 1 => runF 4 (b_greatest_in (m_greatest_in n))
theorem ok_greatest_in (z : Z P w K mg base) : ∀ n : Nat, Cal P w K mg base (cls K) (T K) (0 + n) "greatest_in" 2 (m_greatest_in n)
  | 0 => by
    obtain ⟨fd, F⟩ := z.says.def_ 16 (d := d_greatest_in) rfl
    exact Cal.bad z.g_greatest_in F.kp (FunD.bindsN (ps := ["building", "word"]) F fun _ _ _ _ _ _ us hl => match us, hl with | [_, _], _ => rfl) rfl
  | n + 1 => by
    obtain ⟨fd, F⟩ := z.says.def_ 16 (d := d_greatest_in) rfl
    have hr := ok_greatest_in z n
    refine ⟨_, fd, ["building", "word"], z.g_greatest_in, F.kp, FunD.bindsN F fun _ _ _ _ _ _ us hl => match us, hl with | [_, _], _ => rfl, rfl, ?_⟩
    exact md_c (k := 0 + n) F sc_greatest_in rfl z.tk fun cdv A outer s H E g C =>
    (ms_cons (ms_if (mt_not (mt_val (me_isi' z.f_isinstance z.f_tuple (me_var 0)))) (ms_one (ms_ret me_int)) ms_nil)
    (ms_cons (ms_setLc 2 C.calm C.N rfl (blkOk_by (own := [("one", 3)]) (by kernel_rfl)) (mi_seq (me_ix or_ix (me_var 0) me_int)) (fun _ _ _ _ _ _ h0 => (mg_name 3 (C.blk h0).N)) (fun _ _ _ _ _ => mc_nil) (fun _ _ _ _ _ _ h0 => (me_c (C.blk h0) hr (ma_cons (me_var 3) (ma_cons (me_var 1) ma_nil)))))
    (ms_one (ms_ret (me_if (mt_cmp (or_eq2 C) (me_ix or_ix (me_var 0) me_int) (me_var 1)) (me_sum C z.f_sum (ma_cons (me_var 2) ma_nil)) (me_max C z.f_max (ma_cons (me_var 2) ma_nil)))))))
abbrev s_want_building : Stmt := top 32
theorem sc_want_building : FnScope ["building", "runners"] ["building"] (defScope s_want_building) := ⟨rfl, rfl, rfl, by decide +kernel, rfl, by decide +kernel, by decide +kernel⟩
def b_want_building : MS := (sSeq (sFor (mSrcR2 (mCons (mC (.int 1)) (mCons (m2 oAdd (mC (.int 10)) (mC (.int 1))) mNil))) (tName 1) (sIf (mAsB (mFn 2 m_is_of_all (mCons (mVar 0) (mCons (mVar 1) mNil)))) (sRet (mVar 1)) sNil))
  (sRaise 2 (mCons (mVar 0) mNil)))
theorem bd_want_building (z : Z P w K mg base) (cdv : Value) (A : Around) (outer : List PySem.Env) (s : Shared) (H : Hp) (E : XK) (g : G) (C : Cxt (cxL P w K mg base ["building", "runners"] "want_building" (defScope s_want_building) (He.ga K "want_building") cdv A outer s H E) g (cls K) (T K) 3) :
    PSs (cxL P w K mg base ["building", "runners"] "want_building" (defScope s_want_building) (He.ga K "want_building") cdv A outer s H E) (defBody s_want_building) (tS g b_want_building) :=
    (ms_cons (ms_for C.own C.calm (mi_range2 rfl z.f_range (ma_cons me_int (ma_cons (me_op or_add (me_glob rfl z.c_MOST_RUNNERS) me_int) ma_nil))) (mg_name 1 C.N) (ms_one (ms_if (mt_val (me_c C ((ok_is_of_all z).mono (by omega)) (ma_cons (me_var 0) (ma_cons (me_var 1) ma_nil)))) (ms_one (ms_ret (me_var 1))) ms_nil)))
    (ms_one (ms_raise 2 C (z.x_InvalidBuilding _) (ma_cons (me_var 0) ma_nil))))
def m_want_building : Fn := runF 2 b_want_building
theorem ok_want_building (z : Z P w K mg base) : Cal P w K mg base (cls K) (T K) 4 "want_building" 1 m_want_building := by
  obtain ⟨fd, F⟩ := z.says.def_ 17 (d := d_want_building) rfl
  exact ⟨_, fd, ["building"], z.g_want_building, F.kp, FunD.bindsN F fun _ _ _ _ _ _ us hl => match us, hl with | [_], _ => rfl, rfl, md_c (k := 3) F sc_want_building rfl z.tk (bd_want_building z)⟩
abbrev s_built : Stmt := top 24
theorem sc_built : FnScope ["order", "lot", "beside", "after", "word", "some", "parts", "one"] ["order", "lot"] (defScope s_built) := ⟨rfl, rfl, rfl, by decide +kernel, rfl, by decide +kernel, by decide +kernel⟩
def b_built (r : Fn) : MS := (sSeq (sIf (mAsB (m2 oEq2 (mCall fLen (mCons (mVar 1) mNil)) (mC (.int 1)))) (sRet (m2 oIx (mVar 1) (mC (.int 0)))) sNil)
  (sSeq sNever
  (sSeq sNever
  (sSeq (sIf (mAnd (mAsB (m2 oEq2 (mCall fLen (mCons (mVar 2) mNil)) (mC (.int 1)))) (mAsB (m2 oEq2 (mCall fLen (mCons (mVar 3) mNil)) (mC (.int 1))))) (sRet (mC .none)) sNil)
  (sSeq sNever
  (sSeq (sSet 6 (mLc (mSrc (mVar 5)) (tName 7) mYes (mFn 2 r (mCons (mVar 0) (mCons (mVar 7) mNil))) [7]))
  (sRet (mIf (mAsB (m2 oInS (mC .none) (mVar 6))) (mC .none) (mTup (mCons (mVar 4) (mCons (mCall fTuple (mCons (mVar 6) mNil)) mNil)))))))))))
def m_built : Nat → Fn
  | 0 => fun _ => .bad
  | n + 1 => runF 8 (b_built (m_built n))
theorem ok_built (z : Z P w K mg base) : ∀ n : Nat, Cal P w K mg base (cls K) (T K) (0 + n) "built" 2 (m_built n)
  | 0 => by
    obtain ⟨fd, F⟩ := z.says.def_ 18 (d := d_built) rfl
    exact Cal.bad z.g_built F.kp (FunD.bindsN (ps := ["order", "lot"]) F fun _ _ _ _ _ _ us hl => match us, hl with | [_, _], _ => rfl) rfl
  | n + 1 => by
    obtain ⟨fd, F⟩ := z.says.def_ 18 (d := d_built) rfl
    have hr := ok_built z n
    refine ⟨_, fd, ["order", "lot"], z.g_built, F.kp, FunD.bindsN F fun _ _ _ _ _ _ us hl => match us, hl with | [_, _], _ => rfl, rfl, ?_⟩
    exact md_c (k := 0 + n) F sc_built rfl z.tk fun cdv A outer s H E g C =>
    (ms_cons (ms_if (mt_cmp (or_eq2 C) (me_len z.f_len (ma_cons (me_var 1) ma_nil)) me_int) (ms_one (ms_ret (me_ix or_ix (me_var 1) me_int))) ms_nil)
    (ms_cons ms_never
    (ms_cons ms_never
    (ms_cons (ms_if (mt_w (mw_and (mt_cmp (or_eq2 C) (me_len z.f_len (ma_cons (me_var 2) ma_nil)) me_int) (mw_and1 (mt_cmp (or_eq2 C) (me_len z.f_len (ma_cons (me_var 3) ma_nil)) me_int)))) (ms_one (ms_ret me_non)) ms_nil)
    (ms_cons ms_never
    (ms_cons (ms_setLc 6 C.calm C.N rfl (blkOk_by (own := [("one", 7)]) (by kernel_rfl)) (mi_seq (me_var 5)) (fun _ _ _ _ _ _ h0 => (mg_name 7 (C.blk h0).N)) (fun _ _ _ _ _ => mc_nil) (fun _ _ _ _ _ _ h0 => (me_c (C.blk h0) hr (ma_cons (me_var 0) (ma_cons (me_var 7) ma_nil)))))
    (ms_one (ms_ret (me_if (mt_cmp (or_in C.u) me_non (me_var 6)) me_non (me_tup (ma_cons (me_var 4) (ma_cons (me_tuple z.f_tuple (ma_cons (me_var 6) ma_nil)) ma_nil))))))))))))
abbrev s_is_n_of : Stmt := top 26
theorem sc_is_n_of : FnScope ["order", "a", "b", "c", "d", "pair"] ["order", "a", "b", "c", "d"] (defScope s_is_n_of) := ⟨rfl, rfl, rfl, by decide +kernel, rfl, by decide +kernel, by decide +kernel⟩
def b_is_n_of : MS := (sSeq (sIf (mNot (mAsB (mCall fAll (mCons (mLc (mSrc (mTup (mCons (mTup (mCons (mVar 1) (mCons (mVar 3) mNil))) (mCons (mTup (mCons (mVar 2) (mCons (mVar 3) mNil))) (mCons (mTup (mCons (mVar 2) (mCons (mVar 4) mNil))) mNil))))) (tName 5) mYes (m2 oInS (mVar 5) (m2 oIx (mVar 0) (mC (.int 2)))) [5]) mNil)))) (sRet (mC (.bool false))) sNil)
  (sRet (mAndV (mAsB (mFn 3 m_are_apart (mCons (mVar 0) (mCons (mVar 1) (mCons (mVar 2) mNil))))) (mAndV (mAsB (mFn 3 m_are_apart (mCons (mVar 0) (mCons (mVar 3) (mCons (mVar 4) mNil))))) (mFn 3 m_are_apart (mCons (mVar 0) (mCons (mVar 1) (mCons (mVar 4) mNil))))))))
theorem bd_is_n_of (z : Z P w K mg base) (cdv : Value) (A : Around) (outer : List PySem.Env) (s : Shared) (H : Hp) (E : XK) (g : G) (C : Cxt (cxL P w K mg base ["order", "a", "b", "c", "d", "pair"] "is_n_of" (defScope s_is_n_of) (He.ga K "is_n_of") cdv A outer s H E) g (cls K) (T K) 1) :
    PSs (cxL P w K mg base ["order", "a", "b", "c", "d", "pair"] "is_n_of" (defScope s_is_n_of) (He.ga K "is_n_of") cdv A outer s H E) (defBody s_is_n_of) (tS g b_is_n_of) :=
    (ms_cons (ms_if (mt_not (mt_val (me_all C z.f_all (ma_cons (me_lc C.calm C.N (blkOk_by (own := [("pair", 5)]) (by kernel_rfl)) (mi_seq (me_tup (ma_cons (me_tup (ma_cons (me_var 1) (ma_cons (me_var 3) ma_nil))) (ma_cons (me_tup (ma_cons (me_var 2) (ma_cons (me_var 3) ma_nil))) (ma_cons (me_tup (ma_cons (me_var 2) (ma_cons (me_var 4) ma_nil))) ma_nil))))) (fun _ _ _ _ _ _ h0 => (mg_name 5 (C.blk h0).N)) (fun _ _ _ _ _ => mc_nil) (fun _ _ _ _ _ _ h0 => (me_cmp (or_in (C.blk h0).u) (me_var 5) (me_ix or_ix (me_var 0) me_int)))) ma_nil)))) (ms_one (ms_ret me_bl)) ms_nil)
    (ms_one (ms_ret (me_and (me_c C ((ok_are_apart z).mono (by omega)) (ma_cons (me_var 0) (ma_cons (me_var 1) (ma_cons (me_var 2) ma_nil)))) (me_and (me_c C ((ok_are_apart z).mono (by omega)) (ma_cons (me_var 0) (ma_cons (me_var 3) (ma_cons (me_var 4) ma_nil)))) (me_one (me_c C ((ok_are_apart z).mono (by omega)) (ma_cons (me_var 0) (ma_cons (me_var 1) (ma_cons (me_var 4) ma_nil))))))))))
def m_is_n_of : Fn := runF 6 b_is_n_of
theorem ok_is_n_of (z : Z P w K mg base) : Cal P w K mg base (cls K) (T K) 2 "is_n_of" 5 m_is_n_of := by
  obtain ⟨fd, F⟩ := z.says.def_ 19 (d := d_is_n_of) rfl
  exact ⟨_, fd, ["order", "a", "b", "c", "d"], z.g_is_n_of, F.kp, FunD.bindsN F fun _ _ _ _ _ _ us hl => match us, hl with | [_, _, _, _, _], _ => rfl, rfl, md_c (k := 1) F sc_is_n_of rfl z.tk (bd_is_n_of z)⟩
abbrev s_first_n : Stmt := top 27
theorem sc_first_n : FnScope ["order", "some", "a", "c", "b", "d"] ["order"] (defScope s_first_n) := ⟨rfl, rfl, rfl, by decide +kernel, rfl, by decide +kernel, by decide +kernel⟩
def b_first_n : MS := (sSeq (sSet 1 (mLst mNil))
  (sSeq (sFor (mSrc (m2 oIx (mVar 0) (mC (.int 2)))) (tTupT 2 (tsCons (tName 2) (tsCons (tName 3) tsNil))) (sFor (mSrc (m2 oIx (mVar 0) (mC (.int 2)))) (tTupT 2 (tsCons (tName 4) (tsCons (tName 5) tsNil))) (sIf (mAsB (mFn 5 m_is_n_of (mCons (mVar 0) (mCons (mVar 2) (mCons (mVar 4) (mCons (mVar 3) (mCons (mVar 5) mNil))))))) (sExpr (mMeth fAppend (mVar 1) (mCons (mTup (mCons (mVar 2) (mCons (mVar 4) (mCons (mVar 3) (mCons (mVar 5) mNil))))) mNil))) sNil)))
  (sRet (mIf (mAsB (m2 oNe2 (mVar 1) (mLst mNil))) (mCall (fBest minP min2) (mCons (mVar 1) mNil)) (mC .none)))))
theorem bd_first_n (z : Z P w K mg base) (cdv : Value) (A : Around) (outer : List PySem.Env) (s : Shared) (H : Hp) (E : XK) (g : G) (C : Cxt (cxL P w K mg base ["order", "some", "a", "c", "b", "d"] "first_n" (defScope s_first_n) (He.ga K "first_n") cdv A outer s H E) g (cls K) (T K) 2) :
    PSs (cxL P w K mg base ["order", "some", "a", "c", "b", "d"] "first_n" (defScope s_first_n) (He.ga K "first_n") cdv A outer s H E) (defBody s_first_n) (tS g b_first_n) :=
    (ms_cons (ms_set 1 C.N (me_lst ma_nil))
    (ms_cons (ms_for C.own C.calm (mi_seq (me_ix or_ix (me_var 0) me_int)) (mg_tup 2 C.calm (mgs_cons (mg_name 2 C.N) (mgs_cons (mg_name 3 C.N) mgs_nil))) (ms_one (ms_for C.own C.calm (mi_seq (me_ix or_ix (me_var 0) me_int)) (mg_tup 2 C.calm (mgs_cons (mg_name 4 C.N) (mgs_cons (mg_name 5 C.N) mgs_nil))) (ms_one (ms_if (mt_val (me_c C ((ok_is_n_of z).mono (by omega)) (ma_cons (me_var 0) (ma_cons (me_var 2) (ma_cons (me_var 4) (ma_cons (me_var 3) (ma_cons (me_var 5) ma_nil))))))) (ms_one (ms_expr (me_append (me_var 1) (ma_cons (me_tup (ma_cons (me_var 2) (ma_cons (me_var 4) (ma_cons (me_var 3) (ma_cons (me_var 5) ma_nil))))) ma_nil)))) ms_nil)))))
    (ms_one (ms_ret (me_if (mt_cmp (or_ne2 C) (me_var 1) (me_lst ma_nil)) (me_min C z.f_min (ma_cons (me_var 1) ma_nil)) me_non)))))
def m_first_n : Fn := runF 6 b_first_n
theorem ok_first_n (z : Z P w K mg base) : Cal P w K mg base (cls K) (T K) 3 "first_n" 1 m_first_n := by
  obtain ⟨fd, F⟩ := z.says.def_ 20 (d := d_first_n) rfl
  exact ⟨_, fd, ["order"], z.g_first_n, F.kp, FunD.bindsN F fun _ _ _ _ _ _ us hl => match us, hl with | [_], _ => rfl, rfl, md_c (k := 2) F sc_first_n rfl z.tk (bd_first_n z)⟩
abbrev s_told_building : Stmt := top 33
theorem sc_told_building : FnScope ["order"] ["order"] (defScope s_told_building) := ⟨rfl, rfl, rfl, by decide +kernel, rfl, by decide +kernel, by decide +kernel⟩
def b_told_building : MS := (sSeq (sExpr (mFn 1 m_want_order (mCons (mVar 0) mNil)))
  (sRet (mFn 2 (m_built 2) (mCons (mVar 0) (mCons (mRg1 mkT (m2 oIx (mVar 0) (mC (.int 1)))) mNil)))))
theorem bd_told_building (z : Z P w K mg base) (cdv : Value) (A : Around) (outer : List PySem.Env) (s : Shared) (H : Hp) (E : XK) (g : G) (C : Cxt (cxL P w K mg base ["order"] "told_building" (defScope s_told_building) (He.ga K "told_building") cdv A outer s H E) g (cls K) (T K) 5) :
    PSs (cxL P w K mg base ["order"] "told_building" (defScope s_told_building) (He.ga K "told_building") cdv A outer s H E) (defBody s_told_building) (tS g b_told_building) :=
    (ms_cons (ms_expr (me_c C ((ok_want_order z).mono (by omega)) (ma_cons (me_var 0) ma_nil)))
    (ms_one (ms_ret (me_c C ((ok_built z 2).mono (by omega)) (ma_cons (me_var 0) (ma_cons (me_tupRg1 C z.f_tuple z.f_range (me_ix or_ix (me_var 0) me_int)) ma_nil))))))
def m_told_building : Fn := runF 1 b_told_building
theorem ok_told_building (z : Z P w K mg base) : Cal P w K mg base (cls K) (T K) 6 "told_building" 1 m_told_building := by
  obtain ⟨fd, F⟩ := z.says.def_ 21 (d := d_told_building) rfl
  exact ⟨_, fd, ["order"], z.g_told_building, F.kp, FunD.bindsN F fun _ _ _ _ _ _ us hl => match us, hl with | [_], _ => rfl, rfl, md_c (k := 5) F sc_told_building rfl z.tk (bd_told_building z)⟩
abbrev s_is_building : Stmt := top 34
theorem sc_is_building : FnScope ["order", "value"] ["order", "value"] (defScope s_is_building) := ⟨rfl, rfl, rfl, by decide +kernel, rfl, by decide +kernel, by decide +kernel⟩
def b_is_building : MS := (sSeq (sExpr (mFn 1 m_want_order (mCons (mVar 0) mNil)))
  (sRet (mAndV (mAsB (mFn 2 m_is_of_all (mCons (mVar 1) (mCons (m2 oIx (mVar 0) (mC (.int 1))) mNil)))) (m2 oEq2 (mFn 2 m_made (mCons (m2 oIx (mVar 0) (mC (.int 1))) (mCons (mFrz (mFn 1 (m_pairs_of 4) (mCons (mVar 1) mNil))) mNil))) (mVar 0)))))
theorem bd_is_building (z : Z P w K mg base) (cdv : Value) (A : Around) (outer : List PySem.Env) (s : Shared) (H : Hp) (E : XK) (g : G) (C : Cxt (cxL P w K mg base ["order", "value"] "is_building" (defScope s_is_building) (He.ga K "is_building") cdv A outer s H E) g (cls K) (T K) 8) :
    PSs (cxL P w K mg base ["order", "value"] "is_building" (defScope s_is_building) (He.ga K "is_building") cdv A outer s H E) (defBody s_is_building) (tS g b_is_building) :=
    (ms_cons (ms_expr (me_c C ((ok_want_order z).mono (by omega)) (ma_cons (me_var 0) ma_nil)))
    (ms_one (ms_ret (me_and (me_c C ((ok_is_of_all z).mono (by omega)) (ma_cons (me_var 1) (ma_cons (me_ix or_ix (me_var 0) me_int) ma_nil))) (me_one (me_cmp (or_eq2 C) (me_c C ((ok_made z).mono (by omega)) (ma_cons (me_ix or_ix (me_var 0) me_int) (ma_cons (me_frz (me_c C ((ok_pairs_of z 4).mono (by omega)) (ma_cons (me_var 1) ma_nil))) ma_nil))) (me_var 0)))))))
def m_is_building : Fn := runF 2 b_is_building
theorem ok_is_building (z : Z P w K mg base) : Cal P w K mg base (cls K) (T K) 9 "is_building" 2 m_is_building := by
  obtain ⟨fd, F⟩ := z.says.def_ 22 (d := d_is_building) rfl
  exact ⟨_, fd, ["order", "value"], z.g_is_building, F.kp, FunD.bindsN F fun _ _ _ _ _ _ us hl => match us, hl with | [_, _], _ => rfl, rfl, md_c (k := 8) F sc_is_building rfl z.tk (bd_is_building z)⟩
abbrev s_order_by : Stmt := top 35
theorem sc_order_by : FnScope ["building"] ["building"] (defScope s_order_by) := ⟨rfl, rfl, rfl, by decide +kernel, rfl, by decide +kernel, by decide +kernel⟩
def b_order_by : MS := (sRet (mFn 2 m_made (mCons (mFrz (mFn 1 m_want_building (mCons (mVar 0) mNil))) (mCons (mFrz (mFn 1 (m_pairs_of 4) (mCons (mVar 0) mNil))) mNil))))
theorem bd_order_by (z : Z P w K mg base) (cdv : Value) (A : Around) (outer : List PySem.Env) (s : Shared) (H : Hp) (E : XK) (g : G) (C : Cxt (cxL P w K mg base ["building"] "order_by" (defScope s_order_by) (He.ga K "order_by") cdv A outer s H E) g (cls K) (T K) 8) :
    PSs (cxL P w K mg base ["building"] "order_by" (defScope s_order_by) (He.ga K "order_by") cdv A outer s H E) (defBody s_order_by) (tS g b_order_by) :=
    (ms_one (ms_ret (me_c C ((ok_made z).mono (by omega)) (ma_cons (me_frz (me_c C ((ok_want_building z).mono (by omega)) (ma_cons (me_var 0) ma_nil))) (ma_cons (me_frz (me_c C ((ok_pairs_of z 4).mono (by omega)) (ma_cons (me_var 0) ma_nil))) ma_nil)))))
def m_order_by : Fn := runF 1 b_order_by
theorem ok_order_by (z : Z P w K mg base) : Cal P w K mg base (cls K) (T K) 9 "order_by" 1 m_order_by := by
  obtain ⟨fd, F⟩ := z.says.def_ 23 (d := d_order_by) rfl
  exact ⟨_, fd, ["building"], z.g_order_by, F.kp, FunD.bindsN F fun _ _ _ _ _ _ us hl => match us, hl with | [_], _ => rfl, rfl, md_c (k := 8) F sc_order_by rfl z.tk (bd_order_by z)⟩
abbrev s_told_n : Stmt := top 36
theorem sc_told_n : FnScope ["order"] ["order"] (defScope s_told_n) := ⟨rfl, rfl, rfl, by decide +kernel, rfl, by decide +kernel, by decide +kernel⟩
def b_told_n : MS := (sSeq (sExpr (mFn 1 m_want_order (mCons (mVar 0) mNil)))
  (sRet (mFn 1 m_first_n (mCons (mVar 0) mNil))))
theorem bd_told_n (z : Z P w K mg base) (cdv : Value) (A : Around) (outer : List PySem.Env) (s : Shared) (H : Hp) (E : XK) (g : G) (C : Cxt (cxL P w K mg base ["order"] "told_n" (defScope s_told_n) (He.ga K "told_n") cdv A outer s H E) g (cls K) (T K) 5) :
    PSs (cxL P w K mg base ["order"] "told_n" (defScope s_told_n) (He.ga K "told_n") cdv A outer s H E) (defBody s_told_n) (tS g b_told_n) :=
    (ms_cons (ms_expr (me_c C ((ok_want_order z).mono (by omega)) (ma_cons (me_var 0) ma_nil)))
    (ms_one (ms_ret (me_c C ((ok_first_n z).mono (by omega)) (ma_cons (me_var 0) ma_nil)))))
def m_told_n : Fn := runF 1 b_told_n
theorem ok_told_n (z : Z P w K mg base) : Cal P w K mg base (cls K) (T K) 6 "told_n" 1 m_told_n := by
  obtain ⟨fd, F⟩ := z.says.def_ 24 (d := d_told_n) rfl
  exact ⟨_, fd, ["order"], z.g_told_n, F.kp, FunD.bindsN F fun _ _ _ _ _ _ us hl => match us, hl with | [_], _ => rfl, rfl, md_c (k := 5) F sc_told_n rfl z.tk (bd_told_n z)⟩
abbrev s_is_n : Stmt := top 37
theorem sc_is_n : FnScope ["order", "value", "one"] ["order", "value"] (defScope s_is_n) := ⟨rfl, rfl, rfl, by decide +kernel, rfl, by decide +kernel, by decide +kernel⟩
def b_is_n : MS := (sSeq (sExpr (mFn 1 m_want_order (mCons (mVar 0) mNil)))
  (sSeq (sIf (mOr (mNot (mAsB (mFn 2 m_is_tuple (mCons (mVar 1) (mCons (mC (.int 4)) mNil))))) (mNot (mAsB (mCall fAll (mCons (mLc (mSrc (mVar 1)) (tName 2) mYes (mFn 3 m_is_within (mCons (mVar 2) (mCons (mC (.int 0)) (mCons (m2 oSub (m2 oIx (mVar 0) (mC (.int 1))) (mC (.int 1))) mNil)))) [2]) mNil))))) (sRet (mC (.bool false))) sNil)
  (sRet (mFn 5 m_is_n_of (mCons (mVar 0) (mCons (m2 oIx (mVar 1) (mC (.int 0))) (mCons (m2 oIx (mVar 1) (mC (.int 1))) (mCons (m2 oIx (mVar 1) (mC (.int 2))) (mCons (m2 oIx (mVar 1) (mC (.int 3))) mNil)))))))))
theorem bd_is_n (z : Z P w K mg base) (cdv : Value) (A : Around) (outer : List PySem.Env) (s : Shared) (H : Hp) (E : XK) (g : G) (C : Cxt (cxL P w K mg base ["order", "value", "one"] "is_n" (defScope s_is_n) (He.ga K "is_n") cdv A outer s H E) g (cls K) (T K) 5) :
    PSs (cxL P w K mg base ["order", "value", "one"] "is_n" (defScope s_is_n) (He.ga K "is_n") cdv A outer s H E) (defBody s_is_n) (tS g b_is_n) :=
    (ms_cons (ms_expr (me_c C ((ok_want_order z).mono (by omega)) (ma_cons (me_var 0) ma_nil)))
    (ms_cons (ms_if (mt_w (mw_or (mt_not (mt_val (me_c C ((ok_is_tuple z).mono (by omega)) (ma_cons (me_var 1) (ma_cons me_int ma_nil))))) (mw_or1 (mt_not (mt_val (me_all C z.f_all (ma_cons (me_lc C.calm C.N (blkOk_by (own := [("one", 2)]) (by kernel_rfl)) (mi_seq (me_var 1)) (fun _ _ _ _ _ _ h0 => (mg_name 2 (C.blk h0).N)) (fun _ _ _ _ _ => mc_nil) (fun _ _ _ _ _ _ h0 => (me_c (C.blk h0) ((ok_is_within z).mono (by omega)) (ma_cons (me_var 2) (ma_cons me_int (ma_cons (me_op or_sub (me_ix or_ix (me_var 0) me_int) me_int) ma_nil)))))) ma_nil))))))) (ms_one (ms_ret me_bl)) ms_nil)
    (ms_one (ms_ret (me_c C ((ok_is_n_of z).mono (by omega)) (ma_cons (me_var 0) (ma_cons (me_ix or_ix (me_var 1) me_int) (ma_cons (me_ix or_ix (me_var 1) me_int) (ma_cons (me_ix or_ix (me_var 1) me_int) (ma_cons (me_ix or_ix (me_var 1) me_int) ma_nil))))))))))
def m_is_n : Fn := runF 3 b_is_n
theorem ok_is_n (z : Z P w K mg base) : Cal P w K mg base (cls K) (T K) 6 "is_n" 2 m_is_n := by
  obtain ⟨fd, F⟩ := z.says.def_ 25 (d := d_is_n) rfl
  exact ⟨_, fd, ["order", "value"], z.g_is_n, F.kp, FunD.bindsN F fun _ _ _ _ _ _ us hl => match us, hl with | [_, _], _ => rfl, rfl, md_c (k := 5) F sc_is_n rfl z.tk (bd_is_n z)⟩
abbrev s_rankings_by : Stmt := top 38
theorem sc_rankings_by : FnScope ["building"] ["building"] (defScope s_rankings_by) := ⟨rfl, rfl, rfl, by decide +kernel, rfl, by decide +kernel, by decide +kernel⟩
def b_rankings_by : MS := (sSeq (sExpr (mFn 1 m_want_building (mCons (mVar 0) mNil)))
  (sRet (mFn 1 (m_rankings_in 4) (mCons (mVar 0) mNil))))
theorem bd_rankings_by (z : Z P w K mg base) (cdv : Value) (A : Around) (outer : List PySem.Env) (s : Shared) (H : Hp) (E : XK) (g : G) (C : Cxt (cxL P w K mg base ["building"] "rankings_by" (defScope s_rankings_by) (He.ga K "rankings_by") cdv A outer s H E) g (cls K) (T K) 8) :
    PSs (cxL P w K mg base ["building"] "rankings_by" (defScope s_rankings_by) (He.ga K "rankings_by") cdv A outer s H E) (defBody s_rankings_by) (tS g b_rankings_by) :=
    (ms_cons (ms_expr (me_c C ((ok_want_building z).mono (by omega)) (ma_cons (me_var 0) ma_nil)))
    (ms_one (ms_ret (me_c C ((ok_rankings_in z 4).mono (by omega)) (ma_cons (me_var 0) ma_nil)))))
def m_rankings_by : Fn := runF 1 b_rankings_by
theorem ok_rankings_by (z : Z P w K mg base) : Cal P w K mg base (cls K) (T K) 9 "rankings_by" 1 m_rankings_by := by
  obtain ⟨fd, F⟩ := z.says.def_ 26 (d := d_rankings_by) rfl
  exact ⟨_, fd, ["building"], z.g_rankings_by, F.kp, FunD.bindsN F fun _ _ _ _ _ _ us hl => match us, hl with | [_], _ => rfl, rfl, md_c (k := 8) F sc_rankings_by rfl z.tk (bd_rankings_by z)⟩
abbrev s_lots_by : Stmt := top 39
theorem sc_lots_by : FnScope ["building"] ["building"] (defScope s_lots_by) := ⟨rfl, rfl, rfl, by decide +kernel, rfl, by decide +kernel, by decide +kernel⟩
def b_lots_by : MS := (sSeq (sExpr (mFn 1 m_want_building (mCons (mVar 0) mNil)))
  (sRet (mFn 1 (m_lots_in 4) (mCons (mVar 0) mNil))))
theorem bd_lots_by (z : Z P w K mg base) (cdv : Value) (A : Around) (outer : List PySem.Env) (s : Shared) (H : Hp) (E : XK) (g : G) (C : Cxt (cxL P w K mg base ["building"] "lots_by" (defScope s_lots_by) (He.ga K "lots_by") cdv A outer s H E) g (cls K) (T K) 4) :
    PSs (cxL P w K mg base ["building"] "lots_by" (defScope s_lots_by) (He.ga K "lots_by") cdv A outer s H E) (defBody s_lots_by) (tS g b_lots_by) :=
    (ms_cons (ms_expr (me_c C ((ok_want_building z).mono (by omega)) (ma_cons (me_var 0) ma_nil)))
    (ms_one (ms_ret (me_c C ((ok_lots_in z 4).mono (by omega)) (ma_cons (me_var 0) ma_nil)))))
def m_lots_by : Fn := runF 1 b_lots_by
theorem ok_lots_by (z : Z P w K mg base) : Cal P w K mg base (cls K) (T K) 5 "lots_by" 1 m_lots_by := by
  obtain ⟨fd, F⟩ := z.says.def_ 27 (d := d_lots_by) rfl
  exact ⟨_, fd, ["building"], z.g_lots_by, F.kp, FunD.bindsN F fun _ _ _ _ _ _ us hl => match us, hl with | [_], _ => rfl, rfl, md_c (k := 4) F sc_lots_by rfl z.tk (bd_lots_by z)⟩
abbrev s_longest_by : Stmt := top 40
theorem sc_longest_by : FnScope ["building"] ["building"] (defScope s_longest_by) := ⟨rfl, rfl, rfl, by decide +kernel, rfl, by decide +kernel, by decide +kernel⟩
def b_longest_by : MS := (sSeq (sExpr (mFn 1 m_want_building (mCons (mVar 0) mNil)))
  (sRet (mFn 2 (m_greatest_in 4) (mCons (mVar 0) (mCons (mC (.str "after")) mNil)))))
theorem bd_longest_by (z : Z P w K mg base) (cdv : Value) (A : Around) (outer : List PySem.Env) (s : Shared) (H : Hp) (E : XK) (g : G) (C : Cxt (cxL P w K mg base ["building"] "longest_by" (defScope s_longest_by) (He.ga K "longest_by") cdv A outer s H E) g (cls K) (T K) 4) :
    PSs (cxL P w K mg base ["building"] "longest_by" (defScope s_longest_by) (He.ga K "longest_by") cdv A outer s H E) (defBody s_longest_by) (tS g b_longest_by) :=
    (ms_cons (ms_expr (me_c C ((ok_want_building z).mono (by omega)) (ma_cons (me_var 0) ma_nil)))
    (ms_one (ms_ret (me_c C ((ok_greatest_in z 4).mono (by omega)) (ma_cons (me_var 0) (ma_cons (me_globS rfl z.c_AFTER) ma_nil))))))
def m_longest_by : Fn := runF 1 b_longest_by
theorem ok_longest_by (z : Z P w K mg base) : Cal P w K mg base (cls K) (T K) 5 "longest_by" 1 m_longest_by := by
  obtain ⟨fd, F⟩ := z.says.def_ 28 (d := d_longest_by) rfl
  exact ⟨_, fd, ["building"], z.g_longest_by, F.kp, FunD.bindsN F fun _ _ _ _ _ _ us hl => match us, hl with | [_], _ => rfl, rfl, md_c (k := 4) F sc_longest_by rfl z.tk (bd_longest_by z)⟩
abbrev s_widest_by : Stmt := top 41
theorem sc_widest_by : FnScope ["building"] ["building"] (defScope s_widest_by) := ⟨rfl, rfl, rfl, by decide +kernel, rfl, by decide +kernel, by decide +kernel⟩
def b_widest_by : MS := (sSeq (sExpr (mFn 1 m_want_building (mCons (mVar 0) mNil)))
  (sRet (mFn 2 (m_greatest_in 4) (mCons (mVar 0) (mCons (mC (.str "beside")) mNil)))))
theorem bd_widest_by (z : Z P w K mg base) (cdv : Value) (A : Around) (outer : List PySem.Env) (s : Shared) (H : Hp) (E : XK) (g : G) (C : Cxt (cxL P w K mg base ["building"] "widest_by" (defScope s_widest_by) (He.ga K "widest_by") cdv A outer s H E) g (cls K) (T K) 4) :
    PSs (cxL P w K mg base ["building"] "widest_by" (defScope s_widest_by) (He.ga K "widest_by") cdv A outer s H E) (defBody s_widest_by) (tS g b_widest_by) :=
    (ms_cons (ms_expr (me_c C ((ok_want_building z).mono (by omega)) (ma_cons (me_var 0) ma_nil)))
    (ms_one (ms_ret (me_c C ((ok_greatest_in z 4).mono (by omega)) (ma_cons (me_var 0) (ma_cons (me_globS rfl z.c_BESIDE) ma_nil))))))
def m_widest_by : Fn := runF 1 b_widest_by
theorem ok_widest_by (z : Z P w K mg base) : Cal P w K mg base (cls K) (T K) 5 "widest_by" 1 m_widest_by := by
  obtain ⟨fd, F⟩ := z.says.def_ 29 (d := d_widest_by) rfl
  exact ⟨_, fd, ["building"], z.g_widest_by, F.kp, FunD.bindsN F fun _ _ _ _ _ _ us hl => match us, hl with | [_], _ => rfl, rfl, md_c (k := 4) F sc_widest_by rfl z.tk (bd_widest_by z)⟩
abbrev s__law_draw : Stmt := top 44
theorem sc__law_draw : FnScope ["pot", "many", "digit"] ["pot", "many"] (defScope s__law_draw) := ⟨rfl, rfl, rfl, by decide +kernel, rfl, by decide +kernel, by decide +kernel⟩
def b__law_draw : MS := (sSeq (sIf (mAsB (m2 (oCmp gtI) (m2 oIx (mVar 0) (mC (.int 0))) (mC (.int 0)))) (sSeq (sAsgSN 2 (mCall fDivmod (mCons (m2 oIx (mVar 0) (mC (.int 0))) (mCons (mVar 1) mNil))) (mVar 0) (mC (.int 0)))
  (sRet (mVar 2))) sNil)
  (sSeq (sSub (m2 oMod (mCall fInt (mCons (m2 oAdd (m2 oMul (m2 oIx (mVar 0) (mC (.int 1))) (mC (.int 40692))) (mC (.int 10687))) mNil)) (mC (.int 2147483587))) (mVar 0) (mC (.int 1)))
  (sRet (m2 oMod (mCall fInt (mCons (m2 oFdiv (m2 oMod (mCall fInt (mCons (m2 oMul (m2 oIx (mVar 0) (mC (.int 1))) (m2 oIx (mVar 0) (mC (.int 1)))) mNil)) (mC (.int 2147483549))) (mC (.int 17))) mNil)) (mVar 1)))))
theorem bd__law_draw (z : Z P w K mg base) (cdv : Value) (A : Around) (outer : List PySem.Env) (s : Shared) (H : Hp) (E : XK) (g : G) (C : Cxt (cxL P w K mg base ["pot", "many", "digit"] "_law_draw" (defScope s__law_draw) (He.ga K "_law_draw") cdv A outer s H E) g (cls K) (T K) 0) :
    PSs (cxL P w K mg base ["pot", "many", "digit"] "_law_draw" (defScope s__law_draw) (He.ga K "_law_draw") cdv A outer s H E) (defBody s__law_draw) (tS g b__law_draw) :=
    (ms_cons (ms_if (mt_cmp or_gt (me_ix or_ix (me_var 0) me_int) me_int) (ms_cons (ms_asgSN 2 C.calm C.N (me_divmod z.f_divmod (ma_cons (me_ix or_ix (me_var 0) me_int) (ma_cons (me_var 1) ma_nil))) (me_var 0) me_int)
    (ms_one (ms_ret (me_var 2)))) ms_nil)
    (ms_cons (ms_sub (me_op or_mod (me_toInt z.f_int (ma_cons (me_op or_add (me_op or_mul (me_ix or_ix (me_var 0) me_int) me_int) me_int) ma_nil)) me_int) (me_var 0) me_int)
    (ms_one (ms_ret (me_op or_mod (me_toInt z.f_int (ma_cons (me_op or_fdiv (me_op or_mod (me_toInt z.f_int (ma_cons (me_op or_mul (me_ix or_ix (me_var 0) me_int) (me_ix or_ix (me_var 0) me_int)) ma_nil)) me_int) me_int) ma_nil)) (me_var 1))))))
def m__law_draw : Fn := mDraw
theorem pure__law_draw (i j n : Int) (hi : 0 ≤ i) (hj : 0 ≤ j) (h1 : 0 < n) (h2 : n < 1073741824) : ∃ i' j' d : Int, 0 ≤ i' ∧ 0 ≤ j' ∧ 0 ≤ d ∧ d < n ∧ b__law_draw [some (.own 0), some (.p (.int n)), none] [.lst .ours [.int i, .int j]] = .ok (.rt (.p (.int d))) [.lst .ours [.int i', .int j']] := by
  have b1 : Nat.blt 0 n.toNat = true := Nat.ble_eq_true_of_le (by omega : 0 + 1 ≤ n.toNat)
  have b2 : Nat.blt n.toNat 1073741824 = true := Nat.ble_eq_true_of_le (by omega : n.toNat + 1 ≤ 1073741824)
  by_cases h : 0 < i
  · refine ⟨i / n, j, i % n, Int.ediv_nonneg hi (by omega), hj, Int.emod_nonneg _ (by omega), Int.emod_lt_of_pos _ h1, ?_⟩
    have e : gtI i 0 = true := decide_eq_true h
    simp [b__law_draw, sSeq, sIf, sAsgSN, sRet, m2, mVar, mC, mAsB, asB, mCall, mCons, mNil, R.bind, oIx, sv, L2.atI, L2.ixN, oCmp, e, fDivmod, b1, b2]
  · have e : gtI i 0 = false := decide_eq_false h
    have k1 : 0 ≤ (j * 40692 + 10687) % 2147483587 := Int.emod_nonneg _ (by omega)
    have k2 : (j * 40692 + 10687) % 2147483587 < 2147483587 := Int.emod_lt_of_pos _ (by omega)
    refine ⟨i, (j * 40692 + 10687) % 2147483587, ((j * 40692 + 10687) % 2147483587 * ((j * 40692 + 10687) % 2147483587) % 2147483549 / 17) % n, hi, k1, Int.emod_nonneg _ (by omega), Int.emod_lt_of_pos _ h1, ?_⟩
    generalize hz : (j * 40692 + 10687) % 2147483587 = z at k1 k2
    have q1 : oMul (.p (.int j)) (.p (.int 40692)) = fun own => .ok (.p (.int (j * 40692))) own := funext fun own => oMul_r (by decide)
    have q2 : oMul (.p (.int z)) (.p (.int z)) = fun own => .ok (.p (.int (z * z))) own := funext fun own => oMul_r (blt_of (by omega))
    have c1 : Nat.blt 0 2147483587 = true := by decide
    have c2 : Nat.blt 0 2147483549 = true := by decide
    have c3 : Nat.blt 0 17 = true := by decide
    have c4 : Nat.blt 17 1073741824 = true := by decide
    simp [c1, c2, c3, c4, b__law_draw, sSeq, sIf, sSub, sRet, sNil, m2, mVar, mC, mAsB, asB, mCall, mCons, mNil, R.bind, oIx, sv, L2.atI, L2.ixN, oCmp, e, oAdd, oMod, oFdiv, fInt, one1, freeze, q1, hz, q2, b1]
theorem ok__law_draw (z : Z P w K mg base) : Cal P w K mg base (cls K) (T K) 1 "_law_draw" 2 m__law_draw := by
  obtain ⟨fd, F⟩ := z.says.def_ 30 (d := d__law_draw) rfl
  exact ⟨_, fd, ["pot", "many"], z.g__law_draw, F.kp, FunD.bindsN F fun _ _ _ _ _ _ us hl => match us, hl with | [_, _], _ => rfl, rfl, draw_ok (draw_body F rfl sc__law_draw rfl z.tk (bd__law_draw z) pure__law_draw) rfl⟩
abbrev s__law_pot : Stmt := top 43
theorem sc__law_pot : FnScope ["script", "k", "cell"] ["script", "k"] (defScope s__law_pot) := ⟨rfl, rfl, rfl, by decide +kernel, rfl, by decide +kernel, by decide +kernel⟩
def b__law_pot : MS := (sSeq (sSet 2 (mIf (mAsB (m2 oLt (mVar 1) (mCall fLen2 (mCons (mVar 0) mNil)))) (mCall fAbs (mCons (m2 oIx2 (mVar 0) (mVar 1)) mNil)) (m2 oAdd (m2 oMul (mC (.int 1873)) (mVar 1)) (mC (.int 677)))))
  (sRet (mLst (mCons (mCall (fBest maxP max2) (mCons (mC (.int 0)) (mCons (m2 oSub (mVar 2) (m2 oPow (mC (.int 10)) (mC (.int 18)))) mNil))) (mCons (m2 oAdd (m2 oMod (mCall fInt (mCons (m2 oAdd (m2 oAdd (m2 oMul (m2 oMod (mCall fInt (mCons (mVar 2) mNil)) (mC (.int 2147483549))) (mC (.int 40014))) (m2 oMul (mC (.int 7577)) (mVar 1))) (mC (.int 1493))) mNil)) (mC (.int 2147483563))) (mC (.int 1))) mNil)))))
theorem bd__law_pot (z : Z P w K mg base) (cdv : Value) (A : Around) (outer : List PySem.Env) (s : Shared) (H : Hp) (E : XK) (g : G) (C : Cxt (cxL P w K mg base ["script", "k", "cell"] "_law_pot" (defScope s__law_pot) (He.ga K "_law_pot") cdv A outer s H E) g (cls K) (T K) 0) :
    PSs (cxL P w K mg base ["script", "k", "cell"] "_law_pot" (defScope s__law_pot) (He.ga K "_law_pot") cdv A outer s H E) (defBody s__law_pot) (tS g b__law_pot) :=
    (ms_cons (ms_set 2 C.N (me_if (mt_cmp (or_lt C.u0) (me_var 1) (me_len2 C z.f_len (ma_cons (me_var 0) ma_nil))) (me_abs z.f_abs (ma_cons (me_ix (or_ix2 C.K) (me_var 0) (me_var 1)) ma_nil)) (me_op or_add (me_op or_mul me_int (me_var 1)) me_int)))
    (ms_one (ms_ret (me_lst (ma_cons (me_max C z.f_max (ma_cons me_int (ma_cons (me_op or_sub (me_var 2) (me_op or_pow me_int me_int)) ma_nil))) (ma_cons (me_op or_add (me_op or_mod (me_toInt z.f_int (ma_cons (me_op or_add (me_op or_add (me_op or_mul (me_op or_mod (me_toInt z.f_int (ma_cons (me_var 2) ma_nil)) me_int) me_int) (me_op or_mul me_int (me_var 1))) me_int) ma_nil)) me_int) me_int) ma_nil))))))
def m__law_pot : Fn := mPot
theorem pure__law_pot (ns : List Int) (k : Int) (h1 : 0 ≤ k) (h2 : k < 1000) : ∃ x y : Int, 0 ≤ x ∧ 0 ≤ y ∧ runF 3 b__law_pot [.p (scrD ns), .p (.int k)] = .ok (.l [.int x, .int y]) [] := by
  have key : ∀ c : Int, 0 ≤ max2 0 (c - 1000000000000000000) ∧ 0 ≤ (c % 2147483549 * 40014 + 7577 * k + 1493) % 2147483563 + 1 := fun c => ⟨by unfold max2; split <;> omega, by
    have := Int.emod_nonneg (c % 2147483549 * 40014 + 7577 * k + 1493) (show (2147483563 : Int) ≠ 0 by decide)
    omega⟩
  have c1 : Nat.blt 0 2147483549 = true := by decide
  have c2 : Nat.blt 0 2147483563 = true := by decide
  have c3 : Nat.blt 10 18446744073709551616 = true := by decide
  have c4 : Nat.ble 2 sz = true := by decide
  have q1 : ∀ c : Int, oMul (.p (.int c)) (.p (.int 40014)) = fun own => .ok (.p (.int (c * 40014))) own := fun c => funext fun own => oMul_r (by decide)
  have q2 : oMul (.p (.int 7577)) (.p (.int k)) = fun own => .ok (.p (.int (7577 * k))) own := funext fun own => oMul_l (by decide)
  have q3 : oMul (.p (.int 1873)) (.p (.int k)) = fun own => .ok (.p (.int (1873 * k))) own := funext fun own => oMul_l (by decide)
  by_cases h : k < (ns.length : Int)
  · have e : ltI k (ns.length : Int) = true := decide_eq_true h
    have hk : k.toNat < ns.length := by omega
    have e2 : L2.ixN ns.length k = some k.toNat := by
      unfold L2.ixN
      rw [if_pos h1, if_pos h]
    have e3 : ns[k.toNat]? = some ns[k.toNat] := List.getElem?_eq_getElem hk
    refine ⟨_, _, (key (if ns[k.toNat] < 0 then -ns[k.toNat] else ns[k.toNat])).1, (key (if ns[k.toNat] < 0 then -ns[k.toNat] else ns[k.toNat])).2, ?_⟩
    simp [c1, c2, c3, c4, runF, env0, own0, retOf, scrD, b__law_pot, sSeq, sSet, sRet, m2, mVar, mC, mAsB, asB, mCall, mCons, mNil, mIf, mLst, freezeAll, freeze, R.bind, oIx2, fLen2, L2.atI, oLt, e, e2, e3, oAdd, oSub, oMod, oPow, fInt, fAbs, fBest, one1, q1, q2]
  · have e : ltI k (ns.length : Int) = false := decide_eq_false h
    refine ⟨_, _, (key (1873 * k + 677)).1, (key (1873 * k + 677)).2, ?_⟩
    simp [c1, c2, c3, c4, runF, env0, own0, retOf, scrD, b__law_pot, sSeq, sSet, sRet, m2, mVar, mC, mAsB, asB, mCall, mCons, mNil, mIf, mLst, freezeAll, freeze, R.bind, oIx2, fLen2, oLt, e, oAdd, oSub, oMod, oPow, fInt, fBest, one1, q1, q2, q3]
theorem ok__law_pot (z : Z P w K mg base) : Cal P w K mg base (cls K) (T K) 1 "_law_pot" 2 m__law_pot := by
  obtain ⟨fd, F⟩ := z.says.def_ 31 (d := d__law_pot) rfl
  exact ⟨_, fd, ["script", "k"], z.g__law_pot, F.kp, FunD.bindsN F fun _ _ _ _ _ _ us hl => match us, hl with | [_, _], _ => rfl, rfl, pot_ok (md_c (k := 0) F sc__law_pot rfl z.tk (bd__law_pot z)) rfl pure__law_pot⟩

abbrev s__law_pick : Stmt := top 45
theorem sc__law_pick : FnScope ["pot", "some"] ["pot", "some"] (defScope s__law_pick) := ⟨rfl, rfl, rfl, by decide +kernel, rfl, by decide +kernel, by decide +kernel⟩
def b__law_pick : MS := (sRet (m2 oIx (mVar 1) (mFn 2 m__law_draw (mCons (mVar 0) (mCons (mCall fLen (mCons (mVar 1) mNil)) mNil)))))
theorem bd__law_pick (z : Z P w K mg base) (cdv : Value) (A : Around) (outer : List PySem.Env) (s : Shared) (H : Hp) (E : XK) (g : G) (C : Cxt (cxL P w K mg base ["pot", "some"] "_law_pick" (defScope s__law_pick) (He.ga K "_law_pick") cdv A outer s H E) g (cls K) (T K) 1) :
    PSs (cxL P w K mg base ["pot", "some"] "_law_pick" (defScope s__law_pick) (He.ga K "_law_pick") cdv A outer s H E) (defBody s__law_pick) (tS g b__law_pick) :=
    (ms_one (ms_ret (me_ix or_ix (me_var 1) (me_c C ((ok__law_draw z).mono (by omega)) (ma_cons (me_var 0) (ma_cons (me_len z.f_len (ma_cons (me_var 1) ma_nil)) ma_nil))))))
def m__law_pick : Fn := runF 2 b__law_pick
theorem ok__law_pick (z : Z P w K mg base) : Cal P w K mg base (cls K) (T K) 2 "_law_pick" 2 m__law_pick := by
  obtain ⟨fd, F⟩ := z.says.def_ 32 (d := d__law_pick) rfl
  exact ⟨_, fd, ["pot", "some"], z.g__law_pick, F.kp, FunD.bindsN F fun _ _ _ _ _ _ us hl => match us, hl with | [_, _], _ => rfl, rfl, md_c (k := 1) F sc__law_pick rfl z.tk (bd__law_pick z)⟩
def ml_0 : M D := (mFn 1 m_order_by (mCons (mVar 0) mNil))
theorem lam_0 (z : Z P w K mg base) : LamCal P w K mg base (cls K) (T K) 10 0 (mLamF ml_0) :=
  lam_calE (L := lams 0) (congrFun z.tt 0) (lamOk_by (by decide +kernel)) z.tk (fun _ _ _ _ => rfl) fun f c' cl A outer s H E g C => (me_c C ((ok_order_by z).mono (by omega)) (ma_cons (me_var 0) ma_nil))
theorem okk_rankings_by_building (z : Z P w K mg base) : CalK P w K mg base (cls K) (T K) 9 "rankings_by" 1 ["building"] [0] m_rankings_by := by
  obtain ⟨fd, F⟩ := z.says.def_ 26 (d := d_rankings_by) rfl
  exact ⟨_, fd, ["building"], z.g_rankings_by, F.kp, FunD.bindsK F fun _ _ _ _ _ _ us hl => match us, hl with | [_], _ => rfl, rfl, md_c (k := 8) F sc_rankings_by rfl z.tk (bd_rankings_by z)⟩
def ml_1 : M D := (mFn 1 m_rankings_by (mPick 1 [0] (mCons (mVar 0) mNil)))
theorem lam_1 (z : Z P w K mg base) : LamCal P w K mg base (cls K) (T K) 10 1 (mLamF ml_1) :=
  lam_calE (L := lams 1) (congrFun z.tt 1) (lamOk_by (by decide +kernel)) z.tk (fun _ _ _ _ => rfl) fun f c' cl A outer s H E g C => (me_kw C ((okk_rankings_by_building z).mono (by omega)) (mk_cons (me_var 0) mk_nil))
def ml_2 : M D := (mFn 1 m_lots_by (mCons (mVar 0) mNil))
theorem lam_2 (z : Z P w K mg base) : LamCal P w K mg base (cls K) (T K) 6 2 (mLamF ml_2) :=
  lam_calE (L := lams 2) (congrFun z.tt 2) (lamOk_by (by decide +kernel)) z.tk (fun _ _ _ _ => rfl) fun f c' cl A outer s H E g C => (me_c C ((ok_lots_by z).mono (by omega)) (ma_cons (me_var 0) ma_nil))
theorem okk_longest_by_building (z : Z P w K mg base) : CalK P w K mg base (cls K) (T K) 5 "longest_by" 1 ["building"] [0] m_longest_by := by
  obtain ⟨fd, F⟩ := z.says.def_ 28 (d := d_longest_by) rfl
  exact ⟨_, fd, ["building"], z.g_longest_by, F.kp, FunD.bindsK F fun _ _ _ _ _ _ us hl => match us, hl with | [_], _ => rfl, rfl, md_c (k := 4) F sc_longest_by rfl z.tk (bd_longest_by z)⟩
def ml_3 : M D := (mFn 1 m_longest_by (mPick 1 [0] (mCons (mVar 0) mNil)))
theorem lam_3 (z : Z P w K mg base) : LamCal P w K mg base (cls K) (T K) 6 3 (mLamF ml_3) :=
  lam_calE (L := lams 3) (congrFun z.tt 3) (lamOk_by (by decide +kernel)) z.tk (fun _ _ _ _ => rfl) fun f c' cl A outer s H E g C => (me_kw C ((okk_longest_by_building z).mono (by omega)) (mk_cons (me_var 0) mk_nil))
def ml_4 : M D := (mFn 1 m_widest_by (mCons (mVar 0) mNil))
theorem lam_4 (z : Z P w K mg base) : LamCal P w K mg base (cls K) (T K) 6 4 (mLamF ml_4) :=
  lam_calE (L := lams 4) (congrFun z.tt 4) (lamOk_by (by decide +kernel)) z.tk (fun _ _ _ _ => rfl) fun f c' cl A outer s H E g C => (me_c C ((ok_widest_by z).mono (by omega)) (ma_cons (me_var 0) ma_nil))
theorem okk_order_by_building (z : Z P w K mg base) : CalK P w K mg base (cls K) (T K) 9 "order_by" 1 ["building"] [0] m_order_by := by
  obtain ⟨fd, F⟩ := z.says.def_ 23 (d := d_order_by) rfl
  exact ⟨_, fd, ["building"], z.g_order_by, F.kp, FunD.bindsK F fun _ _ _ _ _ _ us hl => match us, hl with | [_], _ => rfl, rfl, md_c (k := 8) F sc_order_by rfl z.tk (bd_order_by z)⟩
def ml_5 : M D := (mFn 1 m_order_by (mPick 1 [0] (mCons (mVar 0) mNil)))
theorem lam_5 (z : Z P w K mg base) : LamCal P w K mg base (cls K) (T K) 10 5 (mLamF ml_5) :=
  lam_calE (L := lams 5) (congrFun z.tt 5) (lamOk_by (by decide +kernel)) z.tk (fun _ _ _ _ => rfl) fun f c' cl A outer s H E g C => (me_kw C ((okk_order_by_building z).mono (by omega)) (mk_cons (me_var 0) mk_nil))
def ml_6 : M D := (mFn 1 m_told_building (mCons (mVar 0) mNil))
theorem lam_6 (z : Z P w K mg base) : LamCal P w K mg base (cls K) (T K) 7 6 (mLamF ml_6) :=
  lam_calE (L := lams 6) (congrFun z.tt 6) (lamOk_by (by decide +kernel)) z.tk (fun _ _ _ _ => rfl) fun f c' cl A outer s H E g C => (me_c C ((ok_told_building z).mono (by omega)) (ma_cons (me_var 0) ma_nil))
theorem okk_is_building_value_order (z : Z P w K mg base) : CalK P w K mg base (cls K) (T K) 9 "is_building" 2 ["value", "order"] [1, 0] m_is_building := by
  obtain ⟨fd, F⟩ := z.says.def_ 22 (d := d_is_building) rfl
  exact ⟨_, fd, ["order", "value"], z.g_is_building, F.kp, FunD.bindsK F fun _ _ _ _ _ _ us hl => match us, hl with | [_, _], _ => rfl, rfl, md_c (k := 8) F sc_is_building rfl z.tk (bd_is_building z)⟩
def ml_7 : M D := (mFn 2 m_is_building (mPick 2 [1, 0] (mCons (mC .none) (mCons (mVar 0) mNil))))
theorem lam_7 (z : Z P w K mg base) : LamCal P w K mg base (cls K) (T K) 10 7 (mLamF ml_7) :=
  lam_calE (L := lams 7) (congrFun z.tt 7) (lamOk_by (by decide +kernel)) z.tk (fun _ _ _ _ => rfl) fun f c' cl A outer s H E g C => (me_kw C ((okk_is_building_value_order z).mono (by omega)) (mk_cons me_non (mk_cons (me_var 0) mk_nil)))
theorem okk_told_n_order (z : Z P w K mg base) : CalK P w K mg base (cls K) (T K) 6 "told_n" 1 ["order"] [0] m_told_n := by
  obtain ⟨fd, F⟩ := z.says.def_ 24 (d := d_told_n) rfl
  exact ⟨_, fd, ["order"], z.g_told_n, F.kp, FunD.bindsK F fun _ _ _ _ _ _ us hl => match us, hl with | [_], _ => rfl, rfl, md_c (k := 5) F sc_told_n rfl z.tk (bd_told_n z)⟩
def ml_8 : M D := (mFn 1 m_told_n (mPick 1 [0] (mCons (mVar 0) mNil)))
theorem lam_8 (z : Z P w K mg base) : LamCal P w K mg base (cls K) (T K) 7 8 (mLamF ml_8) :=
  lam_calE (L := lams 8) (congrFun z.tt 8) (lamOk_by (by decide +kernel)) z.tk (fun _ _ _ _ => rfl) fun f c' cl A outer s H E g C => (me_kw C ((okk_told_n_order z).mono (by omega)) (mk_cons (me_var 0) mk_nil))
def ml_9 : M D := (mFn 2 m_is_n (mCons (mVar 0) (mCons (mC .none) mNil)))
theorem lam_9 (z : Z P w K mg base) : LamCal P w K mg base (cls K) (T K) 7 9 (mLamF ml_9) :=
  lam_calE (L := lams 9) (congrFun z.tt 9) (lamOk_by (by decide +kernel)) z.tk (fun _ _ _ _ => rfl) fun f c' cl A outer s H E g C => (me_c C ((ok_is_n z).mono (by omega)) (ma_cons (me_var 0) (ma_cons me_non ma_nil)))
def ml_10 : M D := (mFn 2 m_is_building (mCons (mVar 1) (mCons (mVar 0) mNil)))
theorem lam_10 (z : Z P w K mg base) : LamCal P w K mg base (cls K) (T K) 10 10 (mLamF ml_10) :=
  lam_calE (L := lams 10) (congrFun z.tt 10) (lamOk_by (by decide +kernel)) z.tk (fun _ _ _ _ => rfl) fun f c' cl A outer s H E g C => (me_c C ((ok_is_building z).mono (by omega)) (ma_cons (me_var 1) (ma_cons (me_var 0) ma_nil)))
theorem okk_is_n_value_order (z : Z P w K mg base) : CalK P w K mg base (cls K) (T K) 6 "is_n" 2 ["value", "order"] [1, 0] m_is_n := by
  obtain ⟨fd, F⟩ := z.says.def_ 25 (d := d_is_n) rfl
  exact ⟨_, fd, ["order", "value"], z.g_is_n, F.kp, FunD.bindsK F fun _ _ _ _ _ _ us hl => match us, hl with | [_, _], _ => rfl, rfl, md_c (k := 5) F sc_is_n rfl z.tk (bd_is_n z)⟩
def ml_11 : M D := (mFn 2 m_is_n (mPick 2 [1, 0] (mCons (mVar 0) (mCons (mVar 1) mNil))))
theorem lam_11 (z : Z P w K mg base) : LamCal P w K mg base (cls K) (T K) 7 11 (mLamF ml_11) :=
  lam_calE (L := lams 11) (congrFun z.tt 11) (lamOk_by (by decide +kernel)) z.tk (fun _ _ _ _ => rfl) fun f c' cl A outer s H E g C => (me_kw C ((okk_is_n_value_order z).mono (by omega)) (mk_cons (me_var 0) (mk_cons (me_var 1) mk_nil)))
def ml_12 : M D := (mFn 1 m_told_building (mCons (mTup (mCons (mC (.str "order")) (mCons (mC (.int 1)) (mCons (mTup mNil) mNil)))) mNil))
theorem lam_12 (z : Z P w K mg base) : LamCal P w K mg base (cls K) (T K) 7 12 (mLamF ml_12) :=
  lam_calE (L := lams 12) (congrFun z.tt 12) (lamOk_by (by decide +kernel)) z.tk (fun _ _ _ _ => rfl) fun f c' cl A outer s H E g C => (me_c C ((ok_told_building z).mono (by omega)) (ma_cons (me_tup (ma_cons me_str (ma_cons me_int (ma_cons (me_tup ma_nil) ma_nil)))) ma_nil))
def lamRun : Nat → List PyData → R Ret
  | 0 => mLamF ml_0
  | 1 => mLamF ml_1
  | 2 => mLamF ml_2
  | 3 => mLamF ml_3
  | 4 => mLamF ml_4
  | 5 => mLamF ml_5
  | 6 => mLamF ml_6
  | 7 => mLamF ml_7
  | 8 => mLamF ml_8
  | 9 => mLamF ml_9
  | 10 => mLamF ml_10
  | 11 => mLamF ml_11
  | 12 => mLamF ml_12
  | _ => fun _ => .bad
theorem lam_run (z : Z P w K mg base) : ∀ n : Nat, LamCal P w K mg base (cls K) (T K) 10 n (lamRun n)
  | 0 => (lam_0 z).mono (by omega)
  | 1 => (lam_1 z).mono (by omega)
  | 2 => (lam_2 z).mono (by omega)
  | 3 => (lam_3 z).mono (by omega)
  | 4 => (lam_4 z).mono (by omega)
  | 5 => (lam_5 z).mono (by omega)
  | 6 => (lam_6 z).mono (by omega)
  | 7 => (lam_7 z).mono (by omega)
  | 8 => (lam_8 z).mono (by omega)
  | 9 => (lam_9 z).mono (by omega)
  | 10 => (lam_10 z).mono (by omega)
  | 11 => (lam_11 z).mono (by omega)
  | 12 => (lam_12 z).mono (by omega)
  | _ + 13 => LamCal.bad
abbrev s__law_heard : Stmt := top 46
theorem sc__law_heard : FnScope ["call", "told", "e"] ["call"] (defScope s__law_heard) := ⟨rfl, rfl, rfl, by decide +kernel, rfl, by decide +kernel, by decide +kernel⟩
def wordOf : Nat → Option Str
  | 1 => some "order"
  | 2 => some "building"
  | _ => none
def m__law_heard : Fn := mHeard lamRun wordOf
theorem heard_word (z : Z P w K mg base) (n : Nat) (u : Str) (h : wordOf n = some u) : excTB K (cls K n) = true ∧ PySem.W.kitOne K (.ref (cls K n)) (.ref (He.ga K "OrderError")) = some true ∧ pickB K (.ref (cls K n)) (clauses K) = some u := by
  have q := z.ex
  unfold exb at q
  rw [Bool.and_eq_true] at q
  have q := q.2
  unfold exm at q
  simp only [Bool.and_eq_true, decide_eq_true_eq] at q
  obtain ⟨_, a1, a2, a3, b1, b2, b3, _⟩ := q
  match n, h with
  | 1, h => cases h; exact ⟨a1, a2, a3⟩
  | 2, h => cases h; exact ⟨b1, b2, b3⟩
theorem ok__law_heard (z : Z P w K mg base) : CalG P w K mg base (cls K) (T K) 11 "_law_heard" 1 m__law_heard := by
  obtain ⟨fd, F⟩ := z.says.def_ 33 (d := d__law_heard) rfl
  exact ⟨_, fd, ["call"], z.g__law_heard, F.kp, FunD.bindsN F fun _ _ _ _ _ _ us hl => match us, hl with | [_], _ => rfl, rfl,
    heard_fn (l := clauses K) (B := He.ga K "OrderError") F sc__law_heard z.tk rfl rfl rfl (fun n => (lam_run z n).mono (by omega)) (heard_word z) fun cdv A outer s H E gd hu =>
      .cons ⟨rfl, by decide, .inl z.m_InvalidOrder⟩ (fun a oe kl dd pn hz hf => suite_h sc__law_heard.nd (deeper_gd gd) hu z.f_repr z.f_isinstance z.m_OrderError hz hf)
        (.cons ⟨rfl, by decide, .inl z.m_InvalidBuilding⟩ (fun a oe kl dd pn hz hf => suite_h sc__law_heard.nd (deeper_gd gd) hu z.f_repr z.f_isinstance z.m_OrderError hz hf) .nil)⟩
abbrev s__law_are : Stmt := top 47
theorem sc__law_are : FnScope ["calls", "due", "call"] ["calls", "due"] (defScope s__law_are) := ⟨rfl, rfl, rfl, by decide +kernel, rfl, by decide +kernel, by decide +kernel⟩
def b__law_are : MS := (sRet (m2 oEq2 (mLc (mSrc (mVar 0)) (tName 2) mYes (mFn 1 m__law_heard (mCons (mVar 2) mNil)) [2]) (m2 oMul (mLst (mCons (mVar 1) mNil)) (mCall fLen (mCons (mVar 0) mNil)))))
theorem bd__law_are (z : Z P w K mg base) (cdv : Value) (A : Around) (outer : List PySem.Env) (s : Shared) (H : Hp) (E : XK) (g : G) (gd : A.guards = some []) (C : Cxt (cxL P w K mg base ["calls", "due", "call"] "_law_are" (defScope s__law_are) (He.ga K "_law_are") cdv A outer s H E) g (cls K) (T K) 11) :
    PSs (cxL P w K mg base ["calls", "due", "call"] "_law_are" (defScope s__law_are) (He.ga K "_law_are") cdv A outer s H E) (defBody s__law_are) (tS g b__law_are) :=
    (ms_one (ms_ret (me_cmp (or_eq2 C) (me_lc C.calm C.N (blkOk_by (own := [("call", 2)]) (by kernel_rfl)) (mi_seq (me_var 0)) (fun _ _ _ _ _ _ h0 => (mg_name 2 (C.blk h0).N)) (fun _ _ _ _ _ => mc_nil) (fun _ _ _ _ _ _ h0 => (me_cG (C.blk h0) (deeper_gd gd) ((ok__law_heard z).mono (by omega)) (ma_cons (me_var 2) ma_nil)))) (me_op or_mul (me_lst (ma_cons (me_var 1) ma_nil)) (me_len z.f_len (ma_cons (me_var 0) ma_nil))))))
def m__law_are : Fn := runF 3 b__law_are
theorem ok__law_are (z : Z P w K mg base) : CalG P w K mg base (cls K) (T K) 12 "_law_are" 2 m__law_are := by
  obtain ⟨fd, F⟩ := z.says.def_ 34 (d := d__law_are) rfl
  exact ⟨_, fd, ["calls", "due"], z.g__law_are, F.kp, FunD.bindsN F fun _ _ _ _ _ _ us hl => match us, hl with | [_, _], _ => rfl, rfl, md_cG (k := 11) F sc__law_are rfl z.tk fun cdv A outer s H E g _ C gd => bd__law_are z cdv A outer s H E g gd C⟩
abbrev s__law_by_building : Stmt := top 48
theorem sc__law_by_building : FnScope ["building", "calls"] ["building"] (defScope s__law_by_building) := ⟨rfl, rfl, rfl, by decide +kernel, rfl, by decide +kernel, by decide +kernel⟩
theorem z_ne (z : Z P w K mg base) : (He.cT K ("_law_by_building", none)).2 ≠ (He.cT K ("_law_right", none)).2 := by
  have q := z.ex
  unfold exb at q
  rw [Bool.and_eq_true] at q
  have q := q.2
  unfold exm at q
  rw [Bool.and_eq_true] at q
  have q := q.1
  simpa using q
theorem tq1 (z : Z P w K mg base) : ∀ p ∈ T K, p.1 = (He.cT K ("_law_by_building", none)).2 → p.2 = "_law_by_building.<locals>.<lambda>" := fun p hp h => by
  rcases List.mem_cons.mp hp with e | hp
  · rw [e]
  · rcases List.mem_cons.mp hp with e | hp
    · rw [e] at h
      exact absurd h.symm (z_ne z)
    · cases hp
theorem tq2 (z : Z P w K mg base) : ∀ p ∈ T K, p.1 = (He.cT K ("_law_right", none)).2 → p.2 = "_law_right.<locals>.<lambda>" := fun p hp h => by
  rcases List.mem_cons.mp hp with e | hp
  · rw [e] at h
    exact absurd h (z_ne z)
  · rcases List.mem_cons.mp hp with e | hp
    · rw [e]
    · cases hp
def caps1 (k : Nat) : List Nat := match Nat.blt k 6 with
  | true => [0]
  | false => [1000000]
theorem caps1_ok (z : Z P w K mg base) : ∀ k : Nat, capsB ["building", "calls"] (defScope s__law_by_building) (freeN (Tab.tab k).scope.names []) (caps1 k) = true ∨ caps1 k = [1000000]
  | 0 => .inl (by rw [congrFun z.tt 0]; decide +kernel)
  | 1 => .inl (by rw [congrFun z.tt 1]; decide +kernel)
  | 2 => .inl (by rw [congrFun z.tt 2]; decide +kernel)
  | 3 => .inl (by rw [congrFun z.tt 3]; decide +kernel)
  | 4 => .inl (by rw [congrFun z.tt 4]; decide +kernel)
  | 5 => .inl (by rw [congrFun z.tt 5]; decide +kernel)
  | _ + 6 => .inr rfl
def m__law_by_building : Fn := mLams 2 1 caps1 [0, 1, 2, 3, 4, 5]
theorem ok__law_by_building (z : Z P w K mg base) : Cal P w K mg base (cls K) (T K) 10 "_law_by_building" 1 m__law_by_building := by
  obtain ⟨fd, F⟩ := z.says.def_ 35 (d := d__law_by_building) rfl
  refine ⟨_, fd, ["building"], z.g__law_by_building, F.kp, FunD.bindsN F fun _ _ _ _ _ _ us hl => match us, hl with | [_], _ => rfl, rfl, ?_⟩
  refine lam_fn (k := 9) (pp := ("_law_by_building", none)) F rfl sc__law_by_building rfl (by decide) (by decide) (by decide) (by decide) z.tk fun A outer s H E g C => ?_
  have LB : ∀ (n : Nat) (p : Arguments) (b : Expr) (sc : Scope), lams n = ⟨"_law_by_building.<locals>.<lambda>", p, b, sc⟩ → defaultsOf p (cxL P w K mg base ["building", "calls"] "_law_by_building" (defScope s__law_by_building) (He.fAd K ("_law_by_building", none)) (.ref (He.codeOf K ("_law_by_building", none))) A outer s H E).env = ([], []) → LamX.lamSB (defScope s__law_by_building) sc = true →
      LamB (cxL P w K mg base ["building", "calls"] "_law_by_building" (defScope s__law_by_building) (He.fAd K ("_law_by_building", none)) (.ref (He.codeOf K ("_law_by_building", none))) A outer s H E) (T K) n p b sc := fun n p b sc h1 h2 h3 =>
    ⟨⟨_, _, z.tb _ (.head _), rfl, .head _, tq1 z⟩, h2, LamX.lamS_by h3, (congrFun z.tt n).trans h1⟩
  exact pse_lam1 (ps_lam1 1 C (LB 0 _ _ _ rfl rfl (by decide +kernel))) (pse_lamA (ps_lamA 1 C (LB 1 _ _ _ rfl rfl (by decide +kernel))) (pse_lamA (ps_lamA 1 C (LB 2 _ _ _ rfl rfl (by decide +kernel))) (pse_lamA (ps_lamA 1 C (LB 3 _ _ _ rfl rfl (by decide +kernel)))
    (pse_lamA (ps_lamA 1 C (LB 4 _ _ _ rfl rfl (by decide +kernel))) (pse_lamA (ps_lamA 1 C (LB 5 _ _ _ rfl rfl (by decide +kernel))) (pse_ret C (caps1_ok z) (fun _ => rfl)))))))
end
end K74

set_option maxRecDepth 100000
set_option maxHeartbeats 0
namespace K74
open PySem PySem.Spec PyProof.Rows L2 Mir
variable [Tab]
section
variable {P : Program} {w : World} {K : PySem.W.Frag} {mg : Str → Option Value} {base : Heap}
abbrev s__law_right : Stmt := top 49
theorem sc__law_right : FnScope ["pot", "good", "odd", "calls", "odds"] ["pot", "good"] (defScope s__law_right) := ⟨rfl, rfl, rfl, by decide +kernel, rfl, by decide +kernel, by decide +kernel⟩
def caps__law_right (k : Nat) : List Nat := ([[1000000], [1000000], [1000000], [1000000], [1000000], [1000000], [2], [2], [2], [2], [2, 1], [2, 1], []] : List (List Nat)).getD k [1000000]
theorem caps__law_right_ok (z : Z P w K mg base) : ∀ k : Nat, capsB ["pot", "good", "odd", "calls", "odds"] (defScope s__law_right) (freeN (Tab.tab k).scope.names []) (caps__law_right k) = true ∨ caps__law_right k = [1000000]
  | 0 => .inr rfl
  | 1 => .inr rfl
  | 2 => .inr rfl
  | 3 => .inr rfl
  | 4 => .inr rfl
  | 5 => .inr rfl
  | 6 => .inl (by rw [congrFun z.tt 6]; decide +kernel)
  | 7 => .inl (by rw [congrFun z.tt 7]; decide +kernel)
  | 8 => .inl (by rw [congrFun z.tt 8]; decide +kernel)
  | 9 => .inl (by rw [congrFun z.tt 9]; decide +kernel)
  | 10 => .inl (by rw [congrFun z.tt 10]; decide +kernel)
  | 11 => .inl (by rw [congrFun z.tt 11]; decide +kernel)
  | 12 => .inl (by rw [congrFun z.tt 12]; decide +kernel)
  | _ + 13 => .inr rfl
def b__law_right : MS := (sSeq (sSet 2 (mFn 2 m__law_pick (mCons (mVar 0) (mCons (mFrz (mLst (mCons (mC .none) (mCons (mC (.int 0)) (mCons (mTup mNil) (mCons (mCall fList (mCons (mVar 1) mNil)) (mCons (mSlice (mVar 1) mNo (mSome (mC (.int 2)))) (mCons (m2 oAdd (mTup (mCons (mC (.str "Order")) mNil)) (mSlice (mVar 1) (mSome (mC (.int 1))) mNo)) (mCons (mTup (mCons (mC (.str "order")) (mCons (mC (.int 3)) (mCons (mTup (mCons (mTup (mCons (mC (.int 0)) (mCons (mC (.int 1)) mNil))) (mCons (mTup (mCons (mC (.int 1)) (mCons (mC (.int 2)) mNil))) mNil))) mNil)))) (mCons (mTup (mCons (mC (.str "order")) (mCons (mC (.int 11)) (mCons (mTup mNil) mNil)))) (mCons (mC (.dict [])) mNil))))))))))) mNil))))
  (sLam1 3 6 (sLamA 7 (sLamA 8 (sLamA 9 (sChk mlN caps__law_right m__law_are (mFrz (mLst (mCons (mC (.str "order")) (mCons (mCall fRepr (mCons (mVar 2) mNil)) (mCons (mC (.bool true)) mNil)))))
  (sSeq (sSet 4 (mLst (mCons (mC .none) (mCons (mTup mNil) (mCons (mLst mNil) (mCons (mC (.dict [])) (mCons (mC (.int 1)) (mCons (mC (.int (-1))) (mCons (mC (.bool true)) (mCons (mC (.str "beside")) (mCons (mTup (mCons (mC (.str "beside")) (mCons (mTup (mCons (mC (.int 0)) mNil)) mNil))) (mCons (mTup (mCons (mC (.str "beside")) (mCons (mTup (mCons (mC (.int 0)) (mCons (mC (.int 0)) mNil))) mNil))) (mCons (mTup (mCons (mC (.str "after")) (mCons (mTup (mCons (mC (.int 0)) (mCons (mC (.int 2)) mNil))) mNil))) (mCons (mTup (mCons (mC (.str "after")) (mCons (mLst (mCons (mC (.int 0)) (mCons (mC (.int 1)) mNil))) mNil))) (mCons (mLst (mCons (mC (.str "after")) (mCons (mTup (mCons (mC (.int 0)) (mCons (mC (.int 1)) mNil))) mNil))) mNil)))))))))))))))
  (sSeq (sSet 4 (m2 oAdd (mVar 4) (mLst (mCons (mTup (mCons (mC (.str "Beside")) (mCons (mTup (mCons (mC (.int 0)) (mCons (mC (.int 1)) mNil))) mNil))) (mCons (mTup (mCons (mC (.str "after")) (mCons (mTup (mCons (mC (.int 0)) (mCons (mC (.int 1)) mNil))) (mCons (mTup mNil) mNil)))) (mCons (mTup (mCons (mC (.str "after")) (mCons (mTup mNil) mNil))) (mCons (mTup (mCons (mC (.str "beside")) (mCons (mTup (mCons (mC (.int 0)) (mCons (mTup (mCons (mC (.str "after")) (mCons (mTup (mCons (mC (.int 1)) (mCons (mC (.int 1)) mNil))) mNil))) mNil))) mNil))) (mCons (mTup (mCons (mC (.str "after")) (mCons (mTup (mCons (mC (.int 0)) (mCons (mC (.bool true)) mNil))) mNil))) (mCons (mTup (mCons (mC (.str "beside")) (mCons (mTup (mCons (mC (.int 1)) (mCons (mC (.int 2)) mNil))) mNil))) mNil)))))))))
  (sSeq (sSet 2 (mFn 2 m__law_pick (mCons (mVar 0) (mCons (mFrz (m2 oAdd (mVar 4) (mLst (mCons (mTup (mCons (mC (.str "beside")) (mCons (mRg1 mkT (mC (.int 11))) mNil))) (mCons (mTup (mCons (mC (.str "after")) (mCons (mTup (mCons (mC (.int 0)) (mCons (mC .none) mNil))) mNil))) (mCons (mTup (mCons (mTup (mCons (mC (.str "after")) (mCons (mTup (mCons (mC (.int 0)) (mCons (mC (.int 1)) mNil))) mNil))) mNil)) mNil)))))) mNil))))
  (sSeq (sIf (mNot (mAsB (mFn 2 m__law_are (mCons (mFrz (mFn 1 m__law_by_building (mCons (mVar 2) mNil))) (mCons (mFrz (mLst (mCons (mC (.str "building")) (mCons (mCall fRepr (mCons (mVar 2) mNil)) (mCons (mC (.bool true)) mNil))))) mNil))))) (sRet (mC (.bool false))) sNil)
  (sLam1 3 10 (sLamA 11 (sLamA 12 (sChkR (mlCat (mlCat mlN (mFn 1 m__law_by_building (mCons (mC (.int 0)) mNil))) (mFn 1 m__law_by_building (mCons (mTup (mCons (mC (.str "beside")) (mCons (mRg1 mkT (mC (.int 10))) mNil))) mNil))) caps__law_right m__law_are (mFrz (mLst (mCons (mC (.str "let")) mNil)))))))))))))))))
def m__law_right : Fn := runF 5 b__law_right
theorem ok__law_right (z : Z P w K mg base) : CalG P w K mg base (cls K) (T K) 13 "_law_right" 2 m__law_right := by
  obtain ⟨fd, F⟩ := z.says.def_ 36 (d := d__law_right) rfl
  refine ⟨_, fd, ["pot", "good"], z.g__law_right, F.kp, FunD.bindsN F fun _ _ _ _ _ _ us hl => match us, hl with | [_, _], _ => rfl, rfl, md_cG (k := 12) F sc__law_right rfl z.tk fun cdv A outer s H E g hc C gd => ?_⟩
  have ec := hc ("_law_right", none) rfl
  subst ec
  have LB : ∀ (n : Nat) (p : Arguments) (b : Expr) (sc : Scope), lams n = ⟨"_law_right.<locals>.<lambda>", p, b, sc⟩ → defaultsOf p (cxL P w K mg base ["pot", "good", "odd", "calls", "odds"] "_law_right" (defScope s__law_right) (He.ga K "_law_right") (.ref (He.codeOf K ("_law_right", none))) A outer s H E).env = ([], []) → LamX.lamSB (defScope s__law_right) sc = true → LamB (cxL P w K mg base ["pot", "good", "odd", "calls", "odds"] "_law_right" (defScope s__law_right) (He.ga K "_law_right") (.ref (He.codeOf K ("_law_right", none))) A outer s H E) (T K) n p b sc := fun n p b sc h1 h2 h3 =>
    ⟨⟨_, _, z.tb ("_law_right", none) (by simp [tf]), rfl, .tail _ (.head _), tq2 z⟩, h2, LamX.lamS_by h3, (congrFun z.tt n).trans h1⟩
  exact (ms_cons (ms_set 2 C.N (me_c C ((ok__law_pick z).mono (by omega)) (ma_cons (me_var 0) (ma_cons (me_frz (me_lst (ma_cons me_non (ma_cons me_int (ma_cons (me_tup ma_nil) (ma_cons (me_list z.f_list (ma_cons (me_var 1) ma_nil)) (ma_cons (me_slice (me_var 1) mo_none (mo_some me_int)) (ma_cons (me_op or_add (me_tup (ma_cons me_str ma_nil)) (me_slice (me_var 1) (mo_some me_int) mo_none)) (ma_cons (me_tup (ma_cons me_str (ma_cons me_int (ma_cons (me_tup (ma_cons (me_tup (ma_cons me_int (ma_cons me_int ma_nil))) (ma_cons (me_tup (ma_cons me_int (ma_cons me_int ma_nil))) ma_nil))) ma_nil)))) (ma_cons (me_tup (ma_cons me_str (ma_cons me_int (ma_cons (me_tup ma_nil) ma_nil)))) (ma_cons me_dict0 ma_nil))))))))))) ma_nil))))
    (ms_lam1 (ps_lam1 3 C (LB 6 _ _ _ rfl rfl (by decide +kernel)))
    (ms_lamA (ps_lamA 3 C (LB 7 _ _ _ rfl rfl (by decide +kernel)))
    (ms_lamA (ps_lamA 3 C (LB 8 _ _ _ rfl rfl (by decide +kernel)))
    (ms_lamA (ps_lamA 3 C (LB 9 _ _ _ rfl rfl (by decide +kernel)))
    (ms_chk (pe_are C (deeper_gd gd) ((ok__law_are z).mono (by omega)) pe_lname (fun _ h0 => (me_frz (me_lst (ma_cons me_str (ma_cons (me_repr (C.sh h0) (deeper_gd gd) z.f_repr (ma_cons (me_var 2) ma_nil)) (ma_cons me_bl ma_nil)))))) (fun _ => rfl) (caps__law_right_ok z))
    (ms_cons (ms_set 4 C.N (me_lst (ma_cons me_non (ma_cons (me_tup ma_nil) (ma_cons (me_lst ma_nil) (ma_cons me_dict0 (ma_cons me_int (ma_cons me_negc (ma_cons me_bl (ma_cons me_str (ma_cons (me_tup (ma_cons me_str (ma_cons (me_tup (ma_cons me_int ma_nil)) ma_nil))) (ma_cons (me_tup (ma_cons me_str (ma_cons (me_tup (ma_cons me_int (ma_cons me_int ma_nil))) ma_nil))) (ma_cons (me_tup (ma_cons me_str (ma_cons (me_tup (ma_cons me_int (ma_cons me_int ma_nil))) ma_nil))) (ma_cons (me_tup (ma_cons me_str (ma_cons (me_lst (ma_cons me_int (ma_cons me_int ma_nil))) ma_nil))) (ma_cons (me_lst (ma_cons me_str (ma_cons (me_tup (ma_cons me_int (ma_cons me_int ma_nil))) ma_nil))) ma_nil)))))))))))))))
    (ms_cons (ms_set 4 C.N (me_op or_add (me_var 4) (me_lst (ma_cons (me_tup (ma_cons me_str (ma_cons (me_tup (ma_cons me_int (ma_cons me_int ma_nil))) ma_nil))) (ma_cons (me_tup (ma_cons me_str (ma_cons (me_tup (ma_cons me_int (ma_cons me_int ma_nil))) (ma_cons (me_tup ma_nil) ma_nil)))) (ma_cons (me_tup (ma_cons me_str (ma_cons (me_tup ma_nil) ma_nil))) (ma_cons (me_tup (ma_cons me_str (ma_cons (me_tup (ma_cons me_int (ma_cons (me_tup (ma_cons me_str (ma_cons (me_tup (ma_cons me_int (ma_cons me_int ma_nil))) ma_nil))) ma_nil))) ma_nil))) (ma_cons (me_tup (ma_cons me_str (ma_cons (me_tup (ma_cons me_int (ma_cons me_bl ma_nil))) ma_nil))) (ma_cons (me_tup (ma_cons me_str (ma_cons (me_tup (ma_cons me_int (ma_cons me_int ma_nil))) ma_nil))) ma_nil)))))))))
    (ms_cons (ms_set 2 C.N (me_c C ((ok__law_pick z).mono (by omega)) (ma_cons (me_var 0) (ma_cons (me_frz (me_op or_add (me_var 4) (me_lst (ma_cons (me_tup (ma_cons me_str (ma_cons (me_tupRg1 C z.f_tuple z.f_range me_int) ma_nil))) (ma_cons (me_tup (ma_cons me_str (ma_cons (me_tup (ma_cons me_int (ma_cons me_non ma_nil))) ma_nil))) (ma_cons (me_tup (ma_cons (me_tup (ma_cons me_str (ma_cons (me_tup (ma_cons me_int (ma_cons me_int ma_nil))) ma_nil))) ma_nil)) ma_nil)))))) ma_nil))))
    (ms_cons (ms_if (mt_not (mt_val (me_cG C (deeper_gd gd) ((ok__law_are z).mono (by omega)) (ma_cons (me_frz (me_c C ((ok__law_by_building z).mono (by omega)) (ma_cons (me_var 2) ma_nil))) (ma_cons (me_frz (me_lst (ma_cons me_str (ma_cons (me_repr C (deeper_gd gd) z.f_repr (ma_cons (me_var 2) ma_nil)) (ma_cons me_bl ma_nil))))) ma_nil))))) (ms_one (ms_ret me_bl)) ms_nil)
    (ms_lam1 (ps_lam1 3 C (LB 10 _ _ _ rfl rfl (by decide +kernel)))
    (ms_lamA (ps_lamA 3 C (LB 11 _ _ _ rfl rfl (by decide +kernel)))
    (ms_lamA (ps_lamA 3 C (LB 12 _ _ _ rfl rfl (by decide +kernel)))
    (ms_chkR (pe_are C (deeper_gd gd) ((ok__law_are z).mono (by omega)) (pe_lcat (pe_lcat pe_lname (fun _ h1 => (me_c (C.sh h1) ((ok__law_by_building z).mono (by omega)) (ma_cons me_int ma_nil)))) (fun _ h2 => (me_c (C.sh h2) ((ok__law_by_building z).mono (by omega)) (ma_cons (me_tup (ma_cons me_str (ma_cons (me_tupRg1 (C.sh h2) z.f_tuple z.f_range me_int) ma_nil))) ma_nil)))) (fun _ h3 => (me_frz (me_lst (ma_cons me_str ma_nil)))) (fun _ => rfl) (caps__law_right_ok z))))))))))))))))
def goodD : PyData := .tuple [.str "order", .int 4, .tuple [.tuple [.int 0, .int 2], .tuple [.int 1, .int 2], .tuple [.int 1, .int 3]]]
theorem all__law_right : allTrueB (m__law_right [.p potD, .p goodD]) = true := by kernel_rfl
def mr__law_right : Fn := mAt [.p potD, .p goodD] (.v (.bool true))
theorem okr__law_right (z : Z P w K mg base) : CalG P w K mg base (cls K) (T K) 13 "_law_right" 2 mr__law_right := (ok__law_right z).ref (mAt_ref all__law_right)
abbrev s_law : Stmt := top 50
theorem sc_law : FnScope ["script", "pot", "good", "odd", "shown", "made_v", "one", "turn"] ["script"] (defScope s_law) := ⟨rfl, rfl, rfl, by decide +kernel, rfl, by decide +kernel, by decide +kernel⟩
def b_law : MS := (sSeq (sTupD [1, 2] (mCons (mFn 2 m__law_pot (mCons (mVar 0) (mCons (mC (.int 0)) mNil))) (mCons (mTup (mCons (mC (.str "order")) (mCons (mC (.int 4)) (mCons (mTup (mCons (mTup (mCons (mC (.int 0)) (mCons (mC (.int 2)) mNil))) (mCons (mTup (mCons (mC (.int 1)) (mCons (mC (.int 2)) mNil))) (mCons (mTup (mCons (mC (.int 1)) (mCons (mC (.int 3)) mNil))) mNil)))) mNil)))) mNil)))
  (sSeq (sTupD [3, 4] (mCons (mFn 2 m__law_pick (mCons (mVar 1) (mCons (mFrz (mLst (mCons (mC .none) (mCons (mTup mNil) (mCons (mLst mNil) (mCons (mC (.dict [])) (mCons (mC (.str "value")) (mCons (mC (.int 0)) mNil)))))))) mNil))) (mCons (mCall fRepr (mCons (mVar 2) mNil)) mNil)))
  (sSeq (sSet 5 (mLst (mCons (mExcV 1 (mCons (mVar 3) mNil)) (mCons (mExcV 2 (mCons (mVar 3) mNil)) mNil))))
  (sSeq (sIf (mNot (mAsB (mCall fAll (mCons (mLc (mSrc (mVar 5)) (tName 6) mYes (mAndV (mAsB (mIsX whx (mVar 6))) (m2 oEq2 (mCall fRepr (mCons (mExcVal okx (mVar 6)) mNil)) (mCall fRepr (mCons (mVar 3) mNil)))) [6]) mNil)))) (sRet (mC (.bool false))) sNil)
  (sRet (mAndV (mAsB (mCall fAll (mCons (mLc (mSrcR1 (mCons (mC (.int 6)) mNil)) (tName 7) mYes (mFn 2 mr__law_right (mCons (mVar 1) (mCons (mVar 2) mNil))) [7]) mNil))) (m2 oEq2 (mCall fRepr (mCons (mVar 2) mNil)) (mVar 4))))))))
theorem bd_law (z : Z P w K mg base) (cdv : Value) (A : Around) (outer : List PySem.Env) (s : Shared) (H : Hp) (E : XK) (g : G) (gd : A.guards = some []) (C : Cxt (cxL P w K mg base ["script", "pot", "good", "odd", "shown", "made_v", "one", "turn"] "law" (defScope s_law) (He.ga K "law") cdv A outer s H E) g (cls K) (T K) 13) :
    PSs (cxL P w K mg base ["script", "pot", "good", "odd", "shown", "made_v", "one", "turn"] "law" (defScope s_law) (He.ga K "law") cdv A outer s H E) (defBody s_law) (tS g b_law) :=
    (ms_cons (ms_tupD C.calm (ma_cons (me_c C ((ok__law_pot z).mono (by omega)) (ma_cons (me_var 0) (ma_cons me_int ma_nil))) (ma_cons (me_tup (ma_cons me_str (ma_cons me_int (ma_cons (me_tup (ma_cons (me_tup (ma_cons me_int (ma_cons me_int ma_nil))) (ma_cons (me_tup (ma_cons me_int (ma_cons me_int ma_nil))) (ma_cons (me_tup (ma_cons me_int (ma_cons me_int ma_nil))) ma_nil)))) ma_nil)))) ma_nil)) (gds_cons 1 C.N (gds_cons 2 C.N gds_nil)) (hl := fun _ _ _ h => setAll_len h))
    (ms_cons (ms_tupD C.calm (ma_cons (me_c C ((ok__law_pick z).mono (by omega)) (ma_cons (me_var 1) (ma_cons (me_frz (me_lst (ma_cons me_non (ma_cons (me_tup ma_nil) (ma_cons (me_lst ma_nil) (ma_cons me_dict0 (ma_cons me_str (ma_cons me_int ma_nil)))))))) ma_nil))) (ma_cons (me_repr C (deeper_gd gd) z.f_repr (ma_cons (me_var 2) ma_nil)) ma_nil)) (gds_cons 3 C.N (gds_cons 4 C.N gds_nil)) (hl := fun _ _ _ h => setAll_len h))
    (ms_cons (ms_set 5 C.N (me_lst (ma_cons (me_excV (k := 1) 1 (C.down (by omega)) z.v_InvalidOrder (ma_cons (me_var 3) ma_nil)) (ma_cons (me_excK (k := 1) 2 (C.down (by omega)) z.k_InvalidBuilding (me_var 3)) ma_nil))))
    (ms_cons (ms_if (mt_not (mt_val (me_all C z.f_all (ma_cons (me_lc C.calm C.N (blkOk_by (own := [("one", 6)]) (by kernel_rfl)) (mi_seq (me_var 5)) (fun _ _ _ _ _ _ h0 => (mg_name 6 (C.blk h0).N)) (fun _ _ _ _ _ => mc_nil) (fun _ _ _ _ _ _ h0 => (me_and (me_isX (whx_ok z) z.f_isinstance z.f_ValueError (me_var 6)) (me_one (me_cmp (or_eq2 (C.blk h0)) (me_repr (C.blk h0) (deeper_gd gd) z.f_repr (ma_cons (me_excVal (okx_ok z) (me_var 6)) ma_nil)) (me_repr (C.blk h0) (deeper_gd gd) z.f_repr (ma_cons (me_var 3) ma_nil))))))) ma_nil)))) (ms_one (ms_ret me_bl)) ms_nil)
    (ms_one (ms_ret (me_and (me_all C z.f_all (ma_cons (me_lc C.calm C.N (blkOk_by (own := [("turn", 7)]) (by kernel_rfl)) (mi_range1 rfl z.f_range (ma_cons me_int ma_nil)) (fun _ _ _ _ _ _ h1 => (mg_name 7 (C.blk h1).N)) (fun _ _ _ _ _ => mc_nil) (fun _ _ _ _ _ _ h1 => (me_cG (C.blk h1) (deeper_gd gd) ((okr__law_right z).mono (by omega)) (ma_cons (me_var 1) (ma_cons (me_var 2) ma_nil))))) ma_nil)) (me_one (me_cmp (or_eq2 C) (me_repr C (deeper_gd gd) z.f_repr (ma_cons (me_var 2) ma_nil)) (me_var 4))))))))))
def m_law : Fn := runF 8 b_law
theorem ok_law (z : Z P w K mg base) : CalG P w K mg base (cls K) (T K) 14 "law" 1 m_law := by
  obtain ⟨fd, F⟩ := z.says.def_ 37 (d := d_law) rfl
  exact ⟨_, fd, ["script"], z.g_law, F.kp, FunD.bindsN F fun _ _ _ _ _ _ us hl => match us, hl with | [_], _ => rfl, rfl, md_cG (k := 13) F sc_law rfl z.tk fun cdv A outer s H E g _ C gd => bd_law z cdv A outer s H E g gd C⟩
end
end K74

set_option maxRecDepth 100000
set_option maxHeartbeats 0
namespace K74
open PySem PySem.Spec PyProof.Rows L2 Mir
theorem law_all (ns : List Int) : allTrueB (m_law [.p (scrD ns)]) = true := by kernel_rfl
abbrev RW : PySem.W.OpenRow := PySem.W.OpenLaw.row PySem.Challenge.rw_toldahead_k74_seventh_stage_refused
def names0 : List Str := ["is_integer", "is_within", "is_tuple", "OrderError", "InvalidOrder", "InvalidBuilding", "MOST_RUNNERS", "is_pair_of", "is_closed", "is_order_value", "want_order", "made", "are_apart", "BESIDE", "AFTER", "runners_of", "pairs_of", "is_put", "is_of_all", "hanging", "built", "in_sequence", "is_n_of", "first_n", "choose", "rankings_in", "lots_in", "greatest_in", "want_building", "told_building"]
def names1 : List Str := ["is_building", "order_by", "told_n", "is_n", "rankings_by", "lots_by", "longest_by", "widest_by", "_law_pot", "_law_draw", "_law_pick", "_law_heard", "_law_are", "_law_by_building", "_law_right"]
def names : List Str := names0 ++ names1
abbrev hk : PySem.W.Hook := He.hookX 6 fa fn [] tf exb
def ob (s : PySem.W.SharedT) : He.AlX := He.obsX 6 fa fn [] tf exb (HandSHeadRun.getT s)
theorem ob_eq (s : PySem.W.SharedT) : ob s = hk.obs s.abs := He.obsX_eq (HandSHeadRun.getT_eq s)
theorem run (w : World) : HandSHeadRun.RunEq RW (PySem.W.view RW.prog [50]) hk ob 3000 names w := by
  intro os
  kernel_rfl
theorem walk (w : World) (mg : Str → Option Value) (f : Addr) (h : Heap) (Y : hk.says w h) (G : h.Ns mainGlobals mg) (hm : mg (HandSHeadRun.topDef RW.prog 50).name = some (.ref f)) : ∃ K : PySem.W.Frag, K.In h ∧ LawEnd PySem.Challenge.rw_toldahead_k74_seventh_stage_refused w K 14 "script" mg f h := by
  obtain ⟨K, inK, c⟩ := Y
  refine ⟨K, inK, ?_⟩
  have hm : mg ("law" : Str) = some (.ref f) := by
    have e : (HandSHeadRun.topDef RW.prog 50).name = ("law" : Str) := by kernel_rfl
    rw [← e]
    exact hm
  letI tab : Mir.Tab := ⟨lams, K, cls K⟩
  have zz : ∀ base : Heap, K.In base → base.Ns mainGlobals mg → (∀ p ∈ csOf K tf, LamX.TabB base mg p.1 p.2) → Z (PySem.Challenge.rw_toldahead_k74_seventh_stage_refused).prog w K mg base := fun base k1 k2 k3 => ⟨k1, k2, c.t.d, rfl, rfl, rfl, c.more, fun p hp => k3 _ (List.mem_map.mpr ⟨p, hp, rfl⟩)⟩
  obtain ⟨fd, F⟩ := c.t.d.def_ 37 (d := d_law) rfl
  have e1 := hm.symm.trans (He.glo_ok inK G (c.t.d.fact 37 (f := .glo "law") rfl))
  cases e1
  refine lawEnd_of (fd := fd) (cls := cls K) (T := T K) (m := m_law) rfl inK c (fun q hq => by
    simp only [T, List.mem_cons, List.not_mem_nil, or_false] at hq
    rcases hq with rfl | rfl <;> exact ⟨_, by simp [csOf, tf], rfl⟩) (fun s v => (FunD.bindsA (ps := ["script"]) F fun _ _ _ _ _ _ us hl => match us, hl with | [_], _ => rfl) s [v] rfl) (fun ns h1 h2 => allTrue_ok (law_all ns)) fun base k1 k2 k3 => ?_
  exact md_cG (k := 13) F sc_law rfl rfl fun cdv A outer s H E g _ C gd => bd_law (zz base k1 k2 k3) cdv A outer s H E g gd C
end K74
open PySem PySem.W PySem.Calls PyProof.Rows
theorem PySem.Challenge.cw_toldahead_k74_seventh_stage_refused_holds : PySem.Challenge.rw_toldahead_k74_seventh_stage_refused.Holds := by
  w_on; o_law
  refine HandSHeadRun.head_any (r := K74.RW) (q := view K74.RW.prog [50]) (H := K74.hk) (ob := K74.ob) (M := 3000) (loose := K74.names) (d := HandSHeadRun.topDef K74.RW.prog 50) (kwd := []) K74.ob_eq (by kernel_rfl) (fun s => by kernel_rfl) K74.run
    (by kernel_rfl) (by kernel_rfl) (by kernel_rfl) (by rfl) (by first | assumption | decide +kernel) (by decide +kernel) ⟨rfl, rfl, rfl, rfl, rfl, by decide +kernel⟩ ?hw ?hc
  case hw => w_witness2
  case hc => exact Mir.walk_G rfl (by kernel_rfl) ⟨rfl, by decide, by decide⟩ K74.walk

